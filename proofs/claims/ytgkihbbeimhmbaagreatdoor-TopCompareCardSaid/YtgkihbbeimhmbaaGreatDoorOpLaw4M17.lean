/- Nobody beats the optimal policy: LFU and the clock as runs. -/
import Derived.Test.YtgkihbbeimhmbaaGreatDoorBeLawM15
import Derived.Test.YtgkihbbeimhmbaaGreatDoorSx12M17
import Derived.Lib.SplitLaws
import Derived.Lib.SlTrimSet
import Derived.Lib.ItoaNum
import Derived.Lib.IndexAny
import Derived.Lib.Join
import Derived.Lib.AtoiTie
import Derived.IntWalk
namespace Go.Sx.Opt
open Belady (Run)
/-! ### LFU -/
theorem lfu_step {c : DUses} {k : Int} : (k ∈ Lfu.keysOf c.list → (Lfu.touch c k).2.1 = true ∧ ∀ x ∈ Lfu.keysOf (Lfu.touch c k).1.list, x ∈ Lfu.keysOf c.list) ∧ (k ∉ Lfu.keysOf c.list → (Lfu.touch c k).2.1 = false) ∧
    k ∈ Lfu.keysOf (Lfu.touch c k).1.list ∧ ∀ x ∈ Lfu.keysOf (Lfu.touch c k).1.list, x = k ∨ x ∈ Lfu.keysOf c.list := by
  have her : ∀ i, ∀ x ∈ Lfu.keysOf (c.list.eraseIdx i), x ∈ Lfu.keysOf c.list := fun i x hx => by rw [Lfu.keys_erase] at hx; exact List.mem_of_mem_eraseIdx hx
  by_cases h : 0 ≤ Lfu.at_ c.list k
  · obtain ⟨hl, hk⟩ := Lfu.at_pos h
    have hm : k ∈ Lfu.keysOf c.list := List.mem_map.2 ⟨_, List.getElem_mem hl, hk⟩
    have e := Lfu.touch_hit h hl
    have e2 : Lfu.keysOf (Lfu.touch c k).1.list = k :: Lfu.keysOf (c.list.eraseIdx (Lfu.at_ c.list k).toNat) := by rw [e]; simp only [Lfu.keysOf, List.map_cons, hk]
    have hs : ∀ x ∈ Lfu.keysOf (Lfu.touch c k).1.list, x ∈ Lfu.keysOf c.list := fun x hx => by
      rw [e2] at hx
      rcases List.mem_cons.1 hx with h | h
      · rw [h]; exact hm
      · exact her _ _ h
    exact ⟨fun _ => ⟨by rw [e], hs⟩, fun hn => absurd hm hn, by rw [e2]; simp, fun x hx => .inr (hs x hx)⟩
  · have hlt : Lfu.at_ c.list k < 0 := by omega
    have hn : k ∉ Lfu.keysOf c.list := fun hm => by
      obtain ⟨x, hx, hxk⟩ := List.mem_map.1 hm
      exact Lfu.at_neg.1 hlt x hx hxk
    refine ⟨fun hm => absurd hm hn, fun _ => ?_, ?_⟩
    · unfold Lfu.touch; rw [if_neg h]; split <;> rfl
    · have e2 : ∃ i, Lfu.keysOf (Lfu.touch c k).1.list = k :: Lfu.keysOf (c.list.eraseIdx i) := by
        by_cases hf : (c.list.length : Int) = c.room
        · refine ⟨Lfu.least c.list, ?_⟩; unfold Lfu.touch; rw [if_neg h, if_pos hf]; rfl
        · refine ⟨c.list.length, ?_⟩; unfold Lfu.touch; rw [if_neg h, if_neg hf, List.eraseIdx_of_length_le (Nat.le_refl _)]; rfl
      obtain ⟨i, e2⟩ := e2
      rw [e2]
      exact ⟨by simp, fun x hx => (List.mem_cons.1 hx).imp id (her _ _)⟩
theorem lfu_run {l : List Int} : ∀ {c : DUses} {n : Int}, Lfu.Ok c → (∀ x ∈ l, Lru.okKey x = true) → ∃ m : Nat, Run c.room.toNat (Lfu.keysOf c.list) l m ∧ (Lfu.runGo c n l).2 + m = n + l.length := by
  induction l with
  | nil => intro c n _ _; exact ⟨0, .nil _, by simp [Lfu.runGo]⟩
  | cons k l ih =>
    intro c n h hk
    have h2 := h.touch (hk k (by simp))
    have hr := h2.room; have hl := h2.len
    have e := Lfu.touch_room c k
    obtain ⟨s1, s2, s3, s4⟩ := lfu_step (c := c) (k := k)
    have hlen : (Lfu.keysOf (Lfu.touch c k).1.list).length ≤ c.room.toNat := by rw [e] at hl hr; simp only [Lfu.keysOf, List.length_map]; omega
    by_cases hm : k ∈ Lfu.keysOf c.list
    · obtain ⟨m, h3, h4⟩ := ih (c := (Lfu.touch c k).1) (n := n + 1) h2 (fun x hx => hk x (by simp [hx]))
      refine ⟨m, .hit hm h2.once hlen s3 (s1 hm).2 (by rw [e] at h3; exact h3), ?_⟩
      rw [Lfu.runGo, (s1 hm).1]; simp only [if_true, List.length_cons]; omega
    · obtain ⟨m, h3, h4⟩ := ih (c := (Lfu.touch c k).1) (n := n) h2 (fun x hx => hk x (by simp [hx]))
      refine ⟨m + 1, .miss hm h2.once hlen s3 s4 (by rw [e] at h3; exact h3), ?_⟩
      rw [Lfu.runGo, s2 hm]; simp only [Bool.false_eq_true, if_false, List.length_cons]; omega
/-! ### The clock -/
theorem ck_room (c : DClock) (k : Int) : (Clock.touch c k).1.room = c.room := by unfold Clock.touch; split; rfl; split <;> rfl
theorem ck_step {c : DClock} {k : Int} (ho : Clock.Ok c) : (k ∈ Clock.keysOf c.frames → (Clock.touch c k).2.1 = true ∧ ∀ x ∈ Clock.keysOf (Clock.touch c k).1.frames, x ∈ Clock.keysOf c.frames) ∧ (k ∉ Clock.keysOf c.frames → (Clock.touch c k).2.1 = false) ∧
    k ∈ Clock.keysOf (Clock.touch c k).1.frames ∧ ∀ x ∈ Clock.keysOf (Clock.touch c k).1.frames, x = k ∨ x ∈ Clock.keysOf c.frames := by
  by_cases h : 0 ≤ Clock.at_ c.frames k
  · have e := Clock.touch_hit h
    have e2 : Clock.keysOf (Clock.touch c k).1.frames = Clock.keysOf c.frames := by rw [e]; exact Clock.keysOf_clear _ true
    have hm : k ∈ Clock.keysOf c.frames := by
      rcases idxF_cases (fun x : DFrame => (x.key == k)) c.frames with ⟨j, hj, _, h1, _⟩ | ⟨e, _⟩
      · exact List.mem_map.2 ⟨_, List.getElem_mem hj, by simpa using h1⟩
      · unfold Clock.at_ at h; omega
    exact ⟨fun _ => ⟨by rw [e], fun x hx => e2 ▸ hx⟩, fun hn => absurd hm hn, by rw [e2]; exact hm, fun x hx => .inr (e2 ▸ hx)⟩
  · have hn := Clock.at_mem (l := c.frames) (key := k) (by omega)
    refine ⟨fun hm => absurd hm hn, fun _ => ?_, ?_⟩
    · unfold Clock.touch; rw [if_neg h]; split <;> rfl
    · by_cases h2 : (c.frames.length : Int) < c.room
      · have e : Clock.keysOf (Clock.touch c k).1.frames = Clock.keysOf c.frames ++ [k] := by rw [Clock.touch_room (by omega) h2]; simp [Clock.keysOf]
        rw [e]; exact ⟨by simp, fun x hx => by simpa [or_comm] using hx⟩
      · obtain ⟨i, hi, e, _⟩ := Clock.evict (key := k) ho (by omega) (by omega)
        rw [e]
        refine ⟨?_, fun x hx => Clock.mem_set_keys hx⟩
        have hlt : i < ((Clock.keysOf c.frames).set i k).length := by simpa [Clock.keysOf] using hi
        have := List.getElem_mem hlt
        rwa [List.getElem_set_self] at this
theorem ck_run {l : List Int} : ∀ {c : DClock} {n : Int}, Clock.check c = 0 → (∀ x ∈ l, Lru.okKey x = true) → ∃ m : Nat, Run c.room.toNat (Clock.keysOf c.frames) l m ∧ (Clock.runGo c n l).2 + m = n + l.length := by
  induction l with
  | nil => intro c n _ _; exact ⟨0, .nil _, by simp [Clock.runGo]⟩
  | cons k l ih =>
    intro c n h hk
    have h2 := Clock.check_touch h (hk k (by simp))
    have hr := (Clock.ok_of h2).room; have hl := (Clock.ok_of h2).len; have hnd := (Clock.ok_keys h2).2
    have e := ck_room c k
    obtain ⟨s1, s2, s3, s4⟩ := ck_step (k := k) (Clock.ok_of h)
    have hlen : (Clock.keysOf (Clock.touch c k).1.frames).length ≤ c.room.toNat := by rw [e] at hl hr; simp only [Clock.keysOf, List.length_map]; omega
    by_cases hm : k ∈ Clock.keysOf c.frames
    · obtain ⟨m, h3, h4⟩ := ih (c := (Clock.touch c k).1) (n := n + 1) h2 (fun x hx => hk x (by simp [hx]))
      refine ⟨m, .hit hm hnd hlen s3 (s1 hm).2 (by rw [e] at h3; exact h3), ?_⟩
      rw [Clock.runGo, (s1 hm).1]; simp only [if_true, List.length_cons]; omega
    · obtain ⟨m, h3, h4⟩ := ih (c := (Clock.touch c k).1) (n := n) h2 (fun x hx => hk x (by simp [hx]))
      refine ⟨m + 1, .miss hm hnd hlen s3 s4 (by rw [e] at h3; exact h3), ?_⟩
      rw [Clock.runGo, s2 hm]; simp only [Bool.false_eq_true, if_false, List.length_cons]; omega
/-! ### The law -/
theorem beats_lfu {room : Int} {l : List Int} (h : evErr l room = 0) (h2 : Lfu.runErr ⟨room, []⟩ l = 0) : (ev l room).2 ≤ (l.length : Int) - (Lfu.run ⟨room, []⟩ l).2 := by
  obtain ⟨a1, a2, a3⟩ := Lfu.run_ok h2
  obtain ⟨m, h3, h4⟩ := lfu_run (n := 0) (Lfu.ok_of a1) (Lru.trace_ok.1 a2).2
  have := least h h3; rw [a3]; omega
theorem beats_ck {room : Int} {l : List Int} (h : evErr l room = 0) (h2 : Clock.runErr ⟨room, 0, []⟩ l = 0) : (ev l room).2 ≤ (l.length : Int) - (Clock.run ⟨room, 0, []⟩ l).2 := by
  obtain ⟨a1, a2, a3⟩ := Clock.run_err h2
  obtain ⟨m, h3, h4⟩ := ck_run (n := 0) a1 (Lru.trace_ok.1 a2).2
  have := least h h3; rw [a3]; omega
/-- who refuses, and who does not -/
theorem beats_bad {room : Int} {l : List Int} (h : ((evErr l room ≠ 0 ∨ Lru.runErr ⟨room, []⟩ l ≠ 0) ∨ Clock.runErr ⟨room, 0, []⟩ l ≠ 0) ∨ Lfu.runErr ⟨room, []⟩ l ≠ 0) : (ev l room).2 = 0 := by
  have hne : evErr l room ≠ 0 := by
    intro h0
    obtain ⟨h1, h2, _⟩ := ev_ok h0
    have hr := Lru.room_ok h2
    have hk : Lru.keys [] = 0 := by decide
    rcases h with ((h | h) | h) | h
    · exact h h0
    · have : Lru.check ⟨room, []⟩ = 0 := by simp [Lru.check, h2, hk]; omega
      exact h (by unfold Lru.runErr; rw [if_pos this]; exact h1)
    · have : Clock.check ⟨room, 0, []⟩ = 0 := by simp [Clock.check, h2, hk, Clock.keysOf]; omega
      exact h (by unfold Clock.runErr; rw [if_pos this]; exact h1)
    · have : Lfu.check ⟨room, []⟩ = 0 := by simp [Lfu.check, h2, hk, Lfu.keysOf]; omega
      exact h (by unfold Lfu.runErr; rw [if_pos this]; exact h1)
  rw [ev_bad hne]
theorem lfu_small {c : DUses} {l : List Int} : ∀ {n : Int}, n ≤ (Lfu.runGo c n l).2 ∧ (Lfu.runGo c n l).2 ≤ n + l.length := by
  induction l generalizing c with
  | nil => intro n; simp [Lfu.runGo]
  | cons k l ih =>
    intro n; rw [Lfu.runGo]
    simp only [List.length_cons]
    by_cases ht : (Lfu.touch c k).2.1 = true
    · rw [if_pos ht]; have := @ih (Lfu.touch c k).1 (n + 1); omega
    · rw [if_neg ht]; have := @ih (Lfu.touch c k).1 n; omega
theorem beats_bd {room : Int} {l : List Int} (h1 : evErr l room = 0) (h2 : Lru.runErr ⟨room, []⟩ l = 0) (h3 : Clock.runErr ⟨room, 0, []⟩ l = 0) (h4 : Lfu.runErr ⟨room, []⟩ l = 0) :
    l.length ≤ 200 ∧ (0 ≤ (Lru.run ⟨room, []⟩ l).2 ∧ (Lru.run ⟨room, []⟩ l).2 ≤ 200) ∧ (0 ≤ (Clock.run ⟨room, 0, []⟩ l).2 ∧ (Clock.run ⟨room, 0, []⟩ l).2 ≤ 200) ∧ (0 ≤ (Lfu.run ⟨room, []⟩ l).2 ∧ (Lfu.run ⟨room, []⟩ l).2 ≤ 200) := by
  obtain ⟨_, _, _, _, g5⟩ := go_n h1
  obtain ⟨a1, a2, a3⟩ := Lru.run_ok h2
  obtain ⟨b1, b2, b3⟩ := Clock.run_err h3
  obtain ⟨c1, c2, c3⟩ := Lfu.run_ok h4
  have x1 := Lru.run_n l ⟨room, []⟩
  have x2 := Clock.run_n l ⟨room, 0, []⟩
  have x3 := @lfu_small ⟨room, []⟩ l 0
  rw [a3, b3, c3]
  refine ⟨g5, by omega, by omega, by omega⟩
end Go.Sx.Opt

/- Segmented caches: the plain functions. -/
namespace Go.Sx
structure DHalls where
  first : Int
  second : Int
  young : List Int
  old : List Int
deriving DecidableEq
namespace Seg
open Lru (okKey trace okRoom)
def check (h : DHalls) : Int :=
  if okRoom h.first = false ∨ okRoom h.second = false then 3 else if h.first < (h.young.length : Int) ∨ h.second < (h.old.length : Int) then 2 else Lru.keys (h.young ++ h.old)
structure Ok (h : DHalls) : Prop where
  first : 1 ≤ h.first ∧ h.first ≤ 40
  second : 1 ≤ h.second ∧ h.second ≤ 40
  len1 : (h.young.length : Int) ≤ h.first
  len2 : (h.old.length : Int) ≤ h.second
  key : ∀ k ∈ h.young ++ h.old, okKey k = true
  once : (h.young ++ h.old).Nodup
theorem check_ok {h : DHalls} : check h = 0 ↔ Ok h := by
  unfold check
  constructor
  · intro e
    split at e
    · cases e
    · split at e
      · cases e
      · rename_i h1 h2
        have h3 := Lru.keys_ok.1 e
        simp [okRoom] at h1
        exact ⟨by omega, by omega, by omega, by omega, h3.1, h3.2⟩
  · rintro ⟨a, b, c, d, e, f⟩
    rw [if_neg (by simp [okRoom]; omega), if_neg (by omega)]
    exact Lru.keys_ok.2 ⟨e, f⟩
theorem ok_of {h : DHalls} (e : check h = 0) : Ok h := check_ok.1 e
def touch (h : DHalls) (key : Int) : DHalls × Bool × List Int :=
  if key ∈ h.old ∨ key ∈ h.young then (⟨h.first, h.second, h.young.erase key, (key :: h.old.erase key).take h.second.toNat⟩, true, (key :: h.old.erase key).drop h.second.toNat)
  else (⟨h.first, h.second, (key :: h.young).take h.first.toNat, h.old⟩, false, (key :: h.young).drop h.first.toNat)
def zero : DHalls := ⟨0, 0, [], []⟩
def accessErr (c : DHalls) (key : Int) : Int := if check c = 0 then (if okKey key then 0 else 3) else check c
def access (c : DHalls) (key : Int) : DHalls × Bool × List Int := if accessErr c key = 0 then touch c key else (zero, false, [])
def runGo (c : DHalls) (n : Int) : List Int → DHalls × Int
  | [] => (c, n)
  | k :: l => runGo (touch c k).1 (if (touch c k).2.1 then n + 1 else n) l
def runErr (c : DHalls) (l : List Int) : Int := if check c = 0 then trace l else check c
def run (c : DHalls) (l : List Int) : DHalls × Int := if runErr c l = 0 then runGo c 0 l else (zero, 0)
def flat (c : DHalls) : List Int := if check c = 0 then c.young ++ c.old else []
theorem Ok.touch {c : DHalls} (h : Ok c) {key : Int} (hk : okKey key = true) : Ok (touch c key).1 := by
  obtain ⟨a, b, d, e, f, g⟩ := h
  rw [List.nodup_append] at g
  obtain ⟨g1, g2, g3⟩ := g
  unfold Seg.touch
  split
  · rename_i hm
    refine ⟨a, b, ?_, ?_, ?_, ?_⟩
    · have := List.length_erase_le (a := key) (l := c.young); simp only; omega
    · have := List.length_take_le c.second.toNat (key :: c.old.erase key); simp only; omega
    · intro k hk2
      rcases List.mem_append.1 hk2 with h | h
      · exact f k (List.mem_append_left _ (List.mem_of_mem_erase h))
      · rcases List.mem_cons.1 (List.mem_of_mem_take h) with rfl | h
        · exact hk
        · exact f k (List.mem_append_right _ (List.mem_of_mem_erase h))
    · rw [List.nodup_append]
      refine ⟨g1.erase _, ?_, ?_⟩
      · refine List.Nodup.sublist (List.take_sublist _ _) (List.nodup_cons.2 ⟨fun h => ?_, g2.erase _⟩)
        exact absurd rfl (g2.mem_erase_iff.1 h).1
      · intro x hx y hy e
        subst e
        rcases List.mem_cons.1 (List.mem_of_mem_take hy) with rfl | h
        · exact absurd rfl (g1.mem_erase_iff.1 hx).1
        · exact g3 x (List.mem_of_mem_erase hx) x (List.mem_of_mem_erase h) rfl
  · rename_i hm
    have hm1 : key ∉ c.old := fun h => hm (.inl h)
    have hm2 : key ∉ c.young := fun h => hm (.inr h)
    refine ⟨a, b, ?_, e, ?_, ?_⟩
    · have := List.length_take_le c.first.toNat (key :: c.young); simp only; omega
    · intro k hk2
      rcases List.mem_append.1 hk2 with h | h
      · rcases List.mem_cons.1 (List.mem_of_mem_take h) with rfl | h
        · exact hk
        · exact f k (List.mem_append_left _ h)
      · exact f k (List.mem_append_right _ h)
    · rw [List.nodup_append]
      refine ⟨List.Nodup.sublist (List.take_sublist _ _) (List.nodup_cons.2 ⟨hm2, g1⟩), g2, ?_⟩
      intro x hx y hy e
      subst e
      rcases List.mem_cons.1 (List.mem_of_mem_take hx) with rfl | h
      · exact hm1 hy
      · exact g3 x h x hy rfl
end Seg
end Go.Sx

/- Segmented caches: access and run, the loops of the reference, the laws. -/
namespace Go.Sx.Seg
/-! ### access and run -/
theorem acc_cases (c : DHalls) (key : Int) : (check c ≠ 0 ∧ access c key = (zero, false, []) ∧ accessErr c key = check c) ∨ (check c = 0 ∧ Lru.okKey key = false ∧ access c key = (zero, false, []) ∧ accessErr c key = 3) ∨ (check c = 0 ∧ Lru.okKey key = true ∧ access c key = touch c key ∧ accessErr c key = 0) := by
  by_cases hc : check c = 0
  · cases hr : Lru.okKey key
    · have e : accessErr c key = 3 := by unfold accessErr; rw [if_pos hc, if_neg (by simp [hr])]
      exact .inr (.inl ⟨hc, rfl, by unfold access; rw [e]; rfl, e⟩)
    · have e : accessErr c key = 0 := by unfold accessErr; rw [if_pos hc, if_pos hr]
      exact .inr (.inr ⟨hc, rfl, by unfold access; rw [if_pos e], e⟩)
  · have e : accessErr c key = check c := by unfold accessErr; rw [if_neg hc]
    exact .inl ⟨hc, by unfold access; rw [e, if_neg hc], e⟩
theorem acc1 {c : DHalls} {key : Int} (e : check c ≠ 0) : access c key = (zero, false, []) ∧ accessErr c key = check c := by
  rcases acc_cases c key with ⟨_, b⟩ | ⟨a, _⟩ | ⟨a, _⟩
  · exact b
  · exact absurd a e
  · exact absurd a e
theorem acc2 {c : DHalls} {key : Int} (e : check c = 0 ∧ Lru.okKey key = false) : access c key = (zero, false, []) ∧ accessErr c key = 3 := by
  rcases acc_cases c key with ⟨a, _⟩ | ⟨_, _, b⟩ | ⟨_, b, _⟩
  · exact absurd e.1 a
  · exact b
  · rw [e.2] at b; cases b
theorem acc3 {c : DHalls} {key : Int} (e2 : ¬ check c = 0 ∨ Lru.okKey key = true) (e : check c = 0) : access c key = touch c key ∧ accessErr c key = 0 := by
  rcases acc_cases c key with ⟨a, _⟩ | ⟨_, b, _⟩ | ⟨_, _, b⟩
  · exact absurd e a
  · rcases e2 with e2 | e2
    · exact absurd e e2
    · rw [e2] at b; cases b
  · exact b
theorem acc_bad {c : DHalls} {key : Int} (e : accessErr c key ≠ 0) : access c key = (zero, false, []) := if_neg e
theorem acc_ok {c : DHalls} {key : Int} (e : accessErr c key = 0) : check c = 0 ∧ Lru.okKey key = true ∧ access c key = touch c key := by
  rcases acc_cases c key with ⟨a, b, d⟩ | ⟨a, a2, b, d⟩ | ⟨a, a2, b, d⟩
  · exact absurd (d ▸ e) a
  · rw [d] at e; cases e
  · exact ⟨a, a2, b⟩
theorem run_cases (c : DHalls) (l : List Int) : (check c ≠ 0 ∧ run c l = (zero, 0) ∧ runErr c l = check c) ∨ (check c = 0 ∧ Lru.trace l ≠ 0 ∧ run c l = (zero, 0) ∧ runErr c l = Lru.trace l) ∨ (check c = 0 ∧ Lru.trace l = 0 ∧ run c l = runGo c 0 l ∧ runErr c l = 0) := by
  by_cases h : check c = 0
  · have e : runErr c l = Lru.trace l := by unfold runErr; rw [if_pos h]
    by_cases h2 : Lru.trace l = 0
    · exact .inr (.inr ⟨h, h2, by unfold run; rw [if_pos (e.trans h2)], e.trans h2⟩)
    · exact .inr (.inl ⟨h, h2, by unfold run; rw [if_neg (by rw [e]; exact h2)], e⟩)
  · have e : runErr c l = check c := by unfold runErr; rw [if_neg h]
    exact .inl ⟨h, by unfold run; rw [if_neg (by rw [e]; exact h)], e⟩
theorem run1 {c : DHalls} {l : List Int} (e : check c ≠ 0) : run c l = (zero, 0) ∧ runErr c l = check c := by
  rcases run_cases c l with ⟨_, b⟩ | ⟨a, _⟩ | ⟨a, _⟩
  · exact b
  · exact absurd a e
  · exact absurd a e
theorem run2 {c : DHalls} {l : List Int} (e : check c = 0) (e2 : Lru.trace l ≠ 0) : run c l = (zero, 0) ∧ runErr c l = Lru.trace l := by
  rcases run_cases c l with ⟨a, _⟩ | ⟨_, _, b⟩ | ⟨_, a, _⟩
  · exact absurd e a
  · exact b
  · exact absurd a e2
theorem run3 {c : DHalls} {l : List Int} (e : check c = 0) (e2 : Lru.trace l = 0) : run c l = runGo c 0 l ∧ runErr c l = 0 := by
  rcases run_cases c l with ⟨a, _⟩ | ⟨_, a, _⟩ | ⟨_, _, b⟩
  · exact absurd e a
  · exact absurd e2 a
  · exact b
theorem run_bad {c : DHalls} {l : List Int} (e : runErr c l ≠ 0) : run c l = (zero, 0) := if_neg e
theorem run_ok {c : DHalls} {l : List Int} (e : runErr c l = 0) : check c = 0 ∧ Lru.trace l = 0 ∧ run c l = runGo c 0 l := by
  rcases run_cases c l with ⟨a, b, d⟩ | ⟨a, a2, b, d⟩ | ⟨a, a2, b, d⟩
  · exact absurd (d ▸ e) a
  · exact absurd (d ▸ e) a2
  · exact ⟨a, a2, b⟩
structure RInv (c cc : DHalls) (l : List Int) (n : Int) (k : Nat) : Prop where
  ok : Ok cc
  key : ∀ x ∈ l, Lru.okKey x = true
  n0 : 0 ≤ n
  n1 : n ≤ (k : Int)
  le : k ≤ l.length
  go : runGo cc n (l.drop k) = runGo c 0 l
theorem RInv.start {c : DHalls} {l : List Int} (h : Ok c) (hk : ∀ x ∈ l, Lru.okKey x = true) : RInv c c l 0 0 := ⟨h, hk, Int.le_refl _, Int.le_refl _, Nat.zero_le _, rfl⟩
theorem RInv.start' {c : DHalls} {l : List Int} (h : check c = 0) (hk : Lru.trace l = 0) : RInv c c l 0 0 := RInv.start (ok_of h) (Lru.trace_ok.1 hk).2
theorem RInv.hit {c cc : DHalls} {l : List Int} {n : Int} {k : Nat} (h : RInv c cc l n k) (hk : k < l.length) (ht : (Seg.touch cc l[k]).2.1 = true) : RInv c (Seg.touch cc l[k]).1 l (n + 1) (k + 1) := by
  obtain ⟨g1, g0, g2, g3, g4, g5⟩ := h
  rw [List.drop_eq_getElem_cons hk, runGo, if_pos ht] at g5
  exact ⟨g1.touch (g0 _ (List.getElem_mem hk)), g0, by omega, by omega, hk, g5⟩
theorem RInv.miss {c cc : DHalls} {l : List Int} {n : Int} {k : Nat} (h : RInv c cc l n k) (hk : k < l.length) (ht : (Seg.touch cc l[k]).2.1 = false) : RInv c (Seg.touch cc l[k]).1 l n (k + 1) := by
  obtain ⟨g1, g0, g2, g3, g4, g5⟩ := h
  rw [List.drop_eq_getElem_cons hk, runGo, if_neg (by simp [ht])] at g5
  exact ⟨g1.touch (g0 _ (List.getElem_mem hk)), g0, by omega, by omega, hk, g5⟩
theorem RInv.done {c cc : DHalls} {l : List Int} {n : Int} {k : Nat} (h : RInv c cc l n k) (hk : (l.length : Int) ≤ k) : runGo c 0 l = (cc, n) := by
  rw [← h.go, List.drop_of_length_le (by omega)]; rfl
theorem Ok.runGo {l : List Int} : ∀ {c : DHalls} {n : Int}, Ok c → (∀ x ∈ l, Lru.okKey x = true) → Ok (runGo c n l).1 := by
  induction l with
  | nil => intro c n h _; exact h
  | cons k l ih => intro c n h hk; exact ih (h.touch (hk k (by simp))) (fun x hx => hk x (by simp [hx]))
theorem runGo_append {l m : List Int} : ∀ {c : DHalls} {n : Int}, Seg.runGo c n (l ++ m) = Seg.runGo (Seg.runGo c n l).1 (Seg.runGo c n l).2 m := by
  induction l with
  | nil => intro c n; rfl
  | cons k l ih => intro c n; rw [List.cons_append, Seg.runGo, ih]; rfl
theorem runGo_add {l : List Int} : ∀ {c : DHalls} {n : Int}, Seg.runGo c n l = ((Seg.runGo c 0 l).1, n + (Seg.runGo c 0 l).2) := by
  induction l with
  | nil => intro c n; simp [Seg.runGo]
  | cons k l ih =>
    intro c n
    rw [Seg.runGo, ih, Seg.runGo, ih (n := if (Seg.touch c k).2.1 = true then 0 + 1 else 0)]
    split <;> simp <;> omega
theorem run_n (l : List Int) : ∀ (c : DHalls), 0 ≤ (Seg.runGo c 0 l).2 ∧ (Seg.runGo c 0 l).2 ≤ l.length := by
  induction l with
  | nil => intro c; simp [Seg.runGo]
  | cons k l ih =>
    intro c
    rw [Seg.runGo, runGo_add]
    have := ih (touch c k).1
    split <;> simp <;> omega
theorem run_small {c : DHalls} {l : List Int} (h : runErr c l = 0) : l.length ≤ 200 := (Lru.trace_ok.1 (run_ok h).2.1).1
theorem run_oks {c : DHalls} {l : List Int} (h : runErr c l = 0) : Ok (run c l).1 := by
  obtain ⟨a, b, e⟩ := run_ok h
  rw [e]; exact (ok_of a).runGo (Lru.trace_ok.1 b).2
theorem parts_err {c : DHalls} {l m : List Int} (h : runErr c l = 0) : runErr (run c l).1 m = runErr c (l ++ m) ∨ runErr c (l ++ m) = 2 := by
  have ho := run_oks h
  obtain ⟨a1, a2, a3⟩ := run_ok h
  obtain ⟨t1, t2⟩ := Lru.trace_ok.1 a2
  have e1 : runErr (run c l).1 m = Lru.trace m := by unfold runErr; rw [if_pos (check_ok.2 ho)]
  have e2 : runErr c (l ++ m) = Lru.trace (l ++ m) := by unfold runErr; rw [if_pos a1]
  rw [e1, e2]
  by_cases g : 200 < (l ++ m).length
  · right; unfold Lru.trace; rw [if_pos g]
  · left
    have g2 : ¬ 200 < m.length := by rw [List.length_append] at g; omega
    have g3 : (l ++ m).any (fun k => !Lru.okKey k) = m.any (fun k => !Lru.okKey k) := by
      have : l.any (fun k => !Lru.okKey k) = false := List.any_eq_false.2 fun k hk => by simp [t2 k hk]
      rw [List.any_append, this, Bool.false_or]
    unfold Lru.trace; rw [if_neg g, if_neg g2, g3]
theorem parts_ok {c : DHalls} {l m : List Int} (h : runErr c l = 0) (h2 : runErr (run c l).1 m = 0) (h3 : runErr c (l ++ m) = 0) :
    (run (run c l).1 m).1 = (run c (l ++ m)).1 ∧ (run c (l ++ m)).2 = (run c l).2 + (run (run c l).1 m).2 ∧ 0 ≤ (run c l).2 ∧ (run c l).2 ≤ 200 ∧ 0 ≤ (run (run c l).1 m).2 ∧ (run (run c l).1 m).2 ≤ 200 := by
  obtain ⟨a1, a2, a3⟩ := run_ok h
  obtain ⟨b1, b2, b3⟩ := run_ok h2
  obtain ⟨c1, c2, c3⟩ := run_ok h3
  have n1 := run_n l c
  have n2 := run_n m (run c l).1
  have t1 := (Lru.trace_ok.1 a2).1
  have t2 := (Lru.trace_ok.1 b2).1
  have e := runGo_append (l := l) (m := m) (c := c) (n := 0)
  rw [runGo_add (l := m)] at e
  rw [b3, c3, e, a3] at *
  exact ⟨rfl, rfl, by omega, by omega, by omega, by omega⟩
theorem parts_bool2 {c : DHalls} {l m : List Int} (h : runErr c l = 0) : (runErr (run c l).1 m == runErr c ([] ++ l ++ m) || runErr c ([] ++ l ++ m) == 2) = true := by
  rcases parts_err (l := l) (m := m) h with e | e
  · simp only [List.nil_append]; simp [e]
  · simp only [List.nil_append]; simp [e]

/-! ### the check -/
theorem chk1 {h : DHalls} (e : Lru.okRoom h.first = false ∨ Lru.okRoom h.second = false) : 3 = check h := by unfold check; rw [if_pos e]
theorem chk2 {h : DHalls} (e : Lru.okRoom h.first = true ∧ Lru.okRoom h.second = true) (e2 : h.first < (h.young.length : Int) ∨ h.second < (h.old.length : Int)) : 2 = check h := by unfold check; rw [if_neg (by simp [e]), if_pos e2]
theorem chk3 {h : DHalls} (e : Lru.okRoom h.first = true ∧ Lru.okRoom h.second = true) (e2 : (h.young.length : Int) ≤ h.first ∧ (h.old.length : Int) ≤ h.second) : Lru.keys (h.young ++ h.old) = check h := by unfold check; rw [if_neg (by simp [e]), if_neg (by omega)]
theorem flat1 {c : DHalls} (h : check c ≠ 0) : flat c = [] := if_neg h
theorem flat2 {c : DHalls} (h : check c = 0) : flat c = c.young ++ c.old := if_pos h
theorem ins0 (l : List Int) (k : Int) : l.take (0 : Int).toNat ++ [k] ++ l.drop (0 : Int).toNat = k :: l := rfl
theorem min_len (l : List Int) (k room : Int) : (min ((l.take (0 : Int).toNat ++ [k] ++ l.drop (0 : Int).toNat).length : Int) room).toNat = min room.toNat (k :: l).length := by
  rw [ins0]; omega
theorem cut_a (l : List Int) (k room : Int) : (k :: l).take (min room.toNat (k :: l).length) = (k :: l).take room.toNat := Lru.take_min _ _
theorem cut_b (l : List Int) (k room : Int) : (k :: l).drop (min room.toNat (k :: l).length) = (k :: l).drop room.toNat := Lru.drop_min _ _
/-- a touch, case by case -/
theorem touch_old {b : DHalls} {key : Int} (h : key ∈ b.old) (hn : (b.young ++ b.old).Nodup) : touch b key = (⟨b.first, b.second, b.young, (key :: b.old.erase key).take b.second.toNat⟩, true, (key :: b.old.erase key).drop b.second.toNat) := by
  have : key ∉ b.young := fun h2 => (List.nodup_append.1 hn).2.2 key h2 key h rfl
  unfold touch; rw [if_pos (.inl h), List.erase_of_not_mem this]
theorem touch_young {b : DHalls} {key : Int} (h0 : key ∉ b.old) (h : key ∈ b.young) : touch b key = (⟨b.first, b.second, b.young.erase key, (key :: b.old).take b.second.toNat⟩, true, (key :: b.old).drop b.second.toNat) := by
  unfold touch; rw [if_pos (.inr h), List.erase_of_not_mem h0]
theorem touch_new {b : DHalls} {key : Int} (h0 : key ∉ b.old) (h : key ∉ b.young) : touch b key = (⟨b.first, b.second, (key :: b.young).take b.first.toNat, b.old⟩, false, (key :: b.young).drop b.first.toNat) := by
  unfold touch; rw [if_neg (by simp [h0, h])]
/-! ### butKey -/
def pre (first : Int) : List Int := if 0 ≤ first then [first] else []
def but (l : List Int) (key first : Int) : List Int := pre first ++ l.filter fun x => !(x == key)
structure BI (l : List Int) (key first room : Int) (out gone : List Int) (i : Nat) : Prop where
  le : i ≤ l.length
  out : out = (but (l.take i) key first).take room.toNat
  gone : gone = (but (l.take i) key first).drop room.toNat
theorem BI.start {l : List Int} {key first room : Int} (hr : 1 ≤ room) : BI l key first room (pre first) [] 0 := by
  have h : (pre first).length ≤ 1 := by unfold pre; split <;> simp
  refine ⟨Nat.zero_le _, ?_, ?_⟩
  · simp only [but, List.take_zero, List.filter_nil, List.append_nil]; rw [List.take_of_length_le (by omega)]
  · simp only [but, List.take_zero, List.filter_nil, List.append_nil]; rw [List.drop_of_length_le (by omega)]
theorem BI.start1 {l : List Int} {key first room : Int} (hr : 1 ≤ room) (h : 0 ≤ first) : BI l key first room [first] [] 0 := by
  have := BI.start (l := l) (key := key) (first := first) hr; rwa [show pre first = [first] from if_pos h] at this
theorem BI.start2 {l : List Int} {key first room : Int} (hr : 1 ≤ room) (h : first < 0) : BI l key first room [] [] 0 := by
  have := BI.start (l := l) (key := key) (first := first) hr; rwa [show pre first = [] from if_neg (by omega)] at this
theorem but_skip {l : List Int} {key first : Int} {i : Nat} (hi : i < l.length) (hx : l[i] = key) : but (l.take (i + 1)) key first = but (l.take i) key first := by
  unfold but; rw [List.take_succ_eq_append_getElem hi, List.filter_append]; simp [hx]
theorem but_add {l : List Int} {key first : Int} {i : Nat} (hi : i < l.length) (hx : l[i] ≠ key) : but (l.take (i + 1)) key first = but (l.take i) key first ++ [l[i]] := by
  unfold but; rw [List.take_succ_eq_append_getElem hi, List.filter_append]; simp [hx]
theorem BI.skip {l out gone : List Int} {key first room : Int} {i : Nat} (h : BI l key first room out gone i) (hi : i < l.length) (hx : l[i] = key) : BI l key first room out gone (i + 1) := ⟨by omega, by rw [but_skip hi hx]; exact h.out, by rw [but_skip hi hx]; exact h.gone⟩
theorem BI.add {l out gone : List Int} {key first room : Int} {i : Nat} (h : BI l key first room out gone i) (hi : i < l.length) (hx : l[i] ≠ key) (hl : (out.length : Int) < room) : BI l key first room (out ++ [l[i]]) gone (i + 1) := by
  have hb : (but (l.take i) key first).length < room.toNat := by have h1 := congrArg List.length h.out; rw [List.length_take] at h1; omega
  refine ⟨by omega, ?_, ?_⟩
  · rw [but_add hi hx, h.out, List.take_of_length_le (l := but (l.take i) key first) (by omega), List.take_of_length_le (l := but (l.take i) key first ++ [l[i]]) (by rw [List.length_append, List.length_singleton]; omega)]
  · rw [but_add hi hx, h.gone, List.drop_of_length_le (l := but (l.take i) key first) (by omega), List.drop_of_length_le (l := but (l.take i) key first ++ [l[i]]) (by rw [List.length_append, List.length_singleton]; omega)]
theorem BI.drop {l out gone : List Int} {key first room : Int} {i : Nat} (h : BI l key first room out gone i) (hi : i < l.length) (hx : l[i] ≠ key) (hr : 1 ≤ room) (hl : room ≤ (out.length : Int)) : BI l key first room out (gone ++ [l[i]]) (i + 1) := by
  have hb : room.toNat ≤ (but (l.take i) key first).length := by have h1 := congrArg List.length h.out; rw [List.length_take] at h1; omega
  refine ⟨by omega, ?_, ?_⟩
  · rw [but_add hi hx, h.out, List.take_append_of_le_length hb]
  · rw [but_add hi hx, h.gone, List.drop_append_of_le_length hb]
theorem BI.len {l out gone : List Int} {key first room : Int} {i : Nat} (h : BI l key first room out gone i) : out.length + gone.length ≤ i + 1 := by
  have h1 := congrArg List.length h.out; have h2 := congrArg List.length h.gone
  rw [List.length_take] at h1; rw [List.length_drop] at h2
  have h3 : (but (l.take i) key first).length ≤ i + 1 := by
    unfold but; rw [List.length_append]
    have h4 := List.length_filter_le (fun x => !(x == key)) (l.take i); rw [List.length_take] at h4
    have h5 : (pre first).length ≤ 1 := by unfold pre; split <;> simp
    omega
  omega
theorem BI.done {l out gone : List Int} {key first room : Int} {i : Nat} (h : BI l key first room out gone i) (hi : l.length ≤ i) : out = (but l key first).take room.toNat ∧ gone = (but l key first).drop room.toNat := by
  have := h.out; have := h.gone; rw [List.take_of_length_le hi] at *; exact ⟨by assumption, by assumption⟩
theorem but_is {l : List Int} (hn : l.Nodup) {key first : Int} : but l key first = pre first ++ l.erase key := by unfold but; rw [Lru.filter_erase hn]
theorem Ok.halves {b : DHalls} (h : Ok b) : b.young.Nodup ∧ b.old.Nodup := ⟨(List.nodup_append.1 h.once).1, (List.nodup_append.1 h.once).2.1⟩
theorem ref_hit {b : DHalls} {key : Int} (h : Ok b) (hk : Lru.okKey key = true) (hm : Ref.hasInt b.young key = true ∨ Ref.hasInt b.old key = true) : touch b key = (⟨b.first, b.second, (but b.young key (-1)).take b.first.toNat, (but b.old key key).take b.second.toNat⟩, true, (but b.old key key).drop b.second.toNat) := by
  have hm2 : key ∈ b.old ∨ key ∈ b.young := by simpa [Ref.hasInt, or_comm] using hm
  have h0 := (Lru.key_ok hk).1
  have e := List.length_erase_le (a := key) (l := b.young); have h1 := h.len1; have h2 := h.first
  unfold touch; rw [if_pos hm2, but_is h.halves.1, but_is h.halves.2]
  simp only [pre, if_pos h0, if_neg (show ¬ (0 : Int) ≤ -1 by decide), List.nil_append, List.singleton_append]
  rw [List.take_of_length_le (l := b.young.erase key) (by omega)]
theorem ref_miss {b : DHalls} {key : Int} (hk : Lru.okKey key = true) (hm : Ref.hasInt b.young key = false ∧ Ref.hasInt b.old key = false) (h : Ok b) : touch b key = (⟨b.first, b.second, (but b.young key key).take b.first.toNat, b.old⟩, false, (but b.young key key).drop b.first.toNat) := by
  have hm2 : key ∉ b.old ∧ key ∉ b.young := by simpa [Ref.hasInt, and_comm] using hm
  have h0 := (Lru.key_ok hk).1
  rw [touch_new hm2.1 hm2.2, but_is h.halves.1, List.erase_of_not_mem hm2.2]
  simp only [pre, if_pos h0, List.singleton_append]
theorem same_halls {a b : DHalls} : a = b ↔ a.first = b.first ∧ a.second = b.second ∧ a.young = b.young ∧ a.old = b.old := by
  cases a; cases b; simp
/-! ### what the laws say -/
theorem runGo_ge {l : List Int} : ∀ {c : DHalls} {n : Int}, n ≤ (Seg.runGo c n l).2 := by
  induction l with
  | nil => intro c n; exact Int.le_refl _
  | cons k l ih =>
    intro c n; rw [Seg.runGo]
    have := ih (c := (touch c k).1) (n := if (touch c k).2.1 = true then n + 1 else n)
    split at this <;> rename_i h <;> simp only [h, if_true, if_false, Bool.false_eq_true] <;> omega
theorem scan {l : List Int} : ∀ {c : DHalls} {n : Int}, (Seg.runGo c n l).2 ≤ n → (Seg.runGo c n l).1.old = c.old := by
  induction l with
  | nil => intro c n _; rfl
  | cons k l ih =>
    intro c n h
    rw [Seg.runGo] at h ⊢
    cases ht : (touch c k).2.1
    · rw [ht] at h
      simp only [Bool.false_eq_true, if_false] at h ⊢
      rw [ih h]
      unfold touch at ht ⊢
      split at ht
      · cases ht
      · rename_i h2; rw [if_neg h2]
    · rw [ht] at h
      simp only [if_true] at h
      have := runGo_ge (l := l) (c := (touch c k).1) (n := n + 1); omega
theorem runGo_first {l : List Int} : ∀ {c : DHalls} {n : Int}, (Seg.runGo c n l).1.first = c.first := by
  induction l with
  | nil => intro c n; rfl
  | cons k l ih => intro c n; rw [Seg.runGo, ih]; unfold touch; split <;> rfl
theorem scan_law {h : DHalls} {l : List Int} (e : runErr h l = 0) (e2 : (run h l).2 ≤ 0) : (run h l).1.old = h.old ∧ ((run h l).1.young.length : Int) ≤ h.first ∧ check (run h l).1 = 0 := by
  obtain ⟨a1, a2, a3⟩ := run_ok e
  have ho := run_oks e
  refine ⟨?_, ?_, check_ok.2 ho⟩
  · rw [a3] at e2 ⊢; exact scan e2
  · have := ho.len1; rw [a3] at this ⊢; rwa [runGo_first] at this
theorem run_bad0 {h : DHalls} {l : List Int} (e : runErr h l ≠ 0) : run h l = (zero, 0) := run_bad e
/-- all keys that were there, and the one that is touched: cached, or gone -/
theorem kept {b : DHalls} (h : Ok b) {key : Int} : ∃ N : List Int, N.Nodup ∧ (((touch b key).1.young ++ (touch b key).1.old) ++ (touch b key).2.2).Perm N ∧ (∀ x ∈ b.young ++ b.old, x ∈ N) ∧ (N.length : Int) = (b.young ++ b.old).length + (if (touch b key).2.1 then 0 else 1) ∧ key ∈ (touch b key).1.young ++ (touch b key).1.old ∧ (touch b key).2.1 = decide (key ∈ b.young ++ b.old) ∧ (touch b key).2.2.length ≤ 1 := by
  have hn := h.once
  have hs := h.second; have hf := h.first; have hl1 := h.len1; have hl2 := h.len2
  obtain ⟨s, es⟩ : ∃ s, b.second.toNat = s + 1 := ⟨b.second.toNat - 1, by omega⟩
  obtain ⟨f, ef⟩ : ∃ f, b.first.toNat = f + 1 := ⟨b.first.toNat - 1, by omega⟩
  by_cases ho : key ∈ b.old
  · rw [touch_old ho hn]
    have hp := List.perm_cons_erase ho
    refine ⟨b.young ++ b.old, hn, ?_, fun x hx => hx, by simp, ?_, by simp [ho], ?_⟩
    · simp only [List.append_assoc, List.take_append_drop]; exact List.Perm.append_left _ hp.symm
    · simp only; rw [es, List.take_succ_cons]; simp
    · have := List.length_erase_le (a := key) (l := b.old); simp only [List.length_drop, List.length_cons]; omega
  · by_cases hy : key ∈ b.young
    · rw [touch_young ho hy]
      have hp := List.perm_cons_erase hy
      refine ⟨b.young ++ b.old, hn, ?_, fun x hx => hx, by simp, ?_, by simp [hy], ?_⟩
      · simp only [List.append_assoc, List.take_append_drop]
        exact (List.perm_middle.trans (List.Perm.append_right b.old hp.symm : (key :: (b.young.erase key) ++ b.old).Perm _))
      · simp only; rw [es, List.take_succ_cons]; simp
      · simp only [List.length_drop, List.length_cons]; omega
    · rw [touch_new ho hy]
      refine ⟨key :: (b.young ++ b.old), List.nodup_cons.2 ⟨by simp [ho, hy], hn⟩, ?_, fun x hx => by simp at hx ⊢; right; exact hx, by simp, ?_, by simp [ho, hy], ?_⟩
      · simp only
        have h1 : (((key :: b.young).take b.first.toNat ++ b.old) ++ (key :: b.young).drop b.first.toNat).Perm (((key :: b.young).take b.first.toNat ++ (key :: b.young).drop b.first.toNat) ++ b.old) := by
          rw [List.append_assoc, List.append_assoc]; exact List.Perm.append_left _ List.perm_append_comm
        rw [List.take_append_drop] at h1
        exact h1
      · simp only; rw [ef, List.take_succ_cons]; simp
      · simp only [List.length_drop, List.length_cons]; omega
theorem keeps_law {h : DHalls} {key : Int} (e : accessErr h key = 0) : check h = 0 ∧ check (access h key).1 = 0 ∧ (access h key).2.2.length ≤ 1 ∧ (access h key).2.1 = Ref.hasInt (flat h) key ∧ Ref.hasInt (flat (access h key).1) key = true ∧
    (∀ x ∈ flat h, Ref.hasInt (flat (access h key).1) x ≠ Ref.hasInt (access h key).2.2 x) ∧ ((flat (access h key).1).length : Int) = (flat h).length + (if (access h key).2.1 then 0 else 1) - (access h key).2.2.length := by
  obtain ⟨h1, h2, h3⟩ := acc_ok e
  have ho := ok_of h1
  have ho2 := ho.touch h2
  obtain ⟨N, n1, n2, n3, n4, n5, n6, n7⟩ := kept ho (key := key)
  rw [h3, flat2 h1, flat2 (check_ok.2 ho2)]
  have n8 := n2.length_eq
  rw [List.length_append] at n8
  refine ⟨h1, check_ok.2 ho2, n7, n6, by simpa [Ref.hasInt] using n5, fun x hx hb => ?_, by rw [← n4] ; omega⟩
  have hx2 := (n2.mem_iff (a := x)).2 (n3 x hx)
  have hnd := (List.nodup_append.1 (n2.nodup_iff.2 n1)).2.2
  simp only [Ref.hasInt] at hb
  rcases List.mem_append.1 hx2 with h9 | h9
  · rw [decide_eq_true h9] at hb
    exact hnd x h9 x (of_decide_eq_true hb.symm) rfl
  · rw [decide_eq_true h9] at hb
    exact hnd x (of_decide_eq_true hb) x h9 rfl
theorem keeps_bad {h : DHalls} {key : Int} (e : accessErr h key ≠ 0) : access h key = (zero, false, []) := acc_bad e
theorem twice {b : DHalls} (h : Ok b) {key : Int} (hk : Lru.okKey key = true) : ∃ t, (Seg.runGo b 0 [key, key]).1.old = key :: t ∧ key ∉ (Seg.runGo b 0 [key, key]).1.young := by
  have h1 := h.touch hk
  obtain ⟨N, _, _, _, _, n5, _⟩ := kept h (key := key)
  have hs := h1.second
  obtain ⟨s, es⟩ : ∃ s, (touch b key).1.second.toNat = s + 1 := ⟨(touch b key).1.second.toNat - 1, by omega⟩
  have e : (Seg.runGo b 0 [key, key]).1 = (touch (touch b key).1 key).1 := rfl
  rw [e]
  rcases List.mem_append.1 n5 with hy | ho
  · have hno : key ∉ (touch b key).1.old := fun h9 => (List.nodup_append.1 h1.once).2.2 key hy key h9 rfl
    rw [touch_young hno hy]
    refine ⟨_, by simp only; rw [es, List.take_succ_cons], ?_⟩
    exact fun h9 => absurd rfl (((List.nodup_append.1 h1.once).1.mem_erase_iff).1 h9).1
  · rw [touch_old ho h1.once]
    refine ⟨_, by simp only; rw [es, List.take_succ_cons], ?_⟩
    exact fun h9 => (List.nodup_append.1 h1.once).2.2 key h9 key ho rfl
theorem twice_law {b : DHalls} {key : Int} (e : runErr b [key, key] = 0) : 0 < (run b [key, key]).1.old.length ∧ (run b [key, key]).1.old.getD 0 default = key ∧ Ref.hasInt (run b [key, key]).1.young key = false := by
  obtain ⟨a1, a2, a3⟩ := run_ok e
  obtain ⟨t, h1, h2⟩ := twice (ok_of a1) ((Lru.trace_ok.1 a2).2 key (by simp))
  rw [a3]
  refine ⟨by rw [h1]; simp, by rw [h1]; rfl, by simpa [Ref.hasInt] using h2⟩
theorem parts_bool3 {c : DHalls} {l m : List Int} (h : runErr c l = 0) (h2 : runErr (run c l).1 m ≠ 0 ∨ runErr c (l ++ m) ≠ 0) : (runErr (run c l).1 m == runErr c (l ++ m) || runErr c (l ++ m) == 2) = true := by
  rcases parts_err (l := l) (m := m) h with e | e <;> simp [e]
theorem parts_end {b z c : DHalls} {n s e key : Int} (p1 : b = z) (p2 : n = s) (htw : e = 0 → 0 < c.old.length ∧ c.old.getD 0 default = key ∧ Ref.hasInt c.young key = false) :
    ((decide (b = z) && (n == s)) && ((e != 0) || ((decide ((0 : Int) < (c.old.length : Int)) && (c.old.getD 0 default == key)) && (!(Ref.hasInt c.young key))))) = true := by
  rw [decide_eq_true p1, beq_iff_eq.2 p2]
  by_cases h9 : e = 0
  · obtain ⟨w1, w2, w3⟩ := htw h9
    rw [w3, beq_iff_eq.2 w2, decide_eq_true (by omega : (0 : Int) < (c.old.length : Int))]; simp
  · rw [bne_iff_ne.2 h9]; rfl
end Go.Sx.Seg

/- Insertion sort, as the library does it: the plain function, its loops, and what it gives. -/
namespace Go.Sx.St
section
variable {α : Type}
def insR (f : α → α → Int) (x : α) : List α → List α
  | [] => [x]
  | p :: r => if f x p < 0 then p :: insR f x r else x :: p :: r
def insF (f : α → α → Int) (P : List α) (x : α) : List α := (insR f x P.reverse).reverse
def isort (f : α → α → Int) (l : List α) : List α := l.foldl (insF f) []
theorem insR_perm (f : α → α → Int) (x : α) : ∀ l, (insR f x l).Perm (x :: l)
  | [] => List.Perm.refl _
  | p :: r => by
    simp only [insR]
    split
    · exact ((insR_perm f x r).cons p).trans (List.Perm.swap x p r)
    · exact List.Perm.refl _
theorem insF_perm (f : α → α → Int) (P : List α) (x : α) : (insF f P x).Perm (x :: P) :=
  (List.reverse_perm _).trans ((insR_perm f x _).trans ((List.reverse_perm P).cons x))
theorem rev_ind {p : List α → Prop} (h0 : p []) (h1 : ∀ l x, p l → p (l ++ [x])) (l : List α) : p l := by
  have h : ∀ m : List α, p m.reverse := by
    intro m
    induction m with
    | nil => exact h0
    | cons x m ih => rw [List.reverse_cons]; exact h1 _ _ ih
  have := h l.reverse
  rwa [List.reverse_reverse] at this
theorem isort_snoc (f : α → α → Int) (l : List α) (x : α) : isort f (l ++ [x]) = insF f (isort f l) x := by simp [isort]
theorem isort_perm (f : α → α → Int) (l : List α) : (isort f l).Perm l := by
  refine rev_ind (p := fun l => (isort f l).Perm l) (List.Perm.refl _) (fun l x ih => ?_) l
  · show (isort f (l ++ [x])).Perm (l ++ [x])
    rw [isort_snoc]
    exact (insF_perm f _ x).trans ((ih.cons x).trans (List.perm_append_singleton x l).symm)
theorem isort_len (f : α → α → Int) (l : List α) : (isort f l).length = l.length := (isort_perm f l).length_eq
theorem ite_len (f : α → α → Int) (l : List α) (a : Int) : (if a = 0 then isort f l else l).length = l.length := by split; exact isort_len f l; rfl
theorem isort_mem {f : α → α → Int} {l : List α} {x : α} : x ∈ isort f l ↔ x ∈ l := (isort_perm f l).mem_iff
theorem isort_next (f : α → α → Int) {l : List α} {i : Nat} (h : i < l.length) : isort f (l.take (i + 1)) = insF f (isort f (l.take i)) l[i] := by
  rw [List.take_succ_eq_append_getElem h, isort_snoc]
theorem insR_at {f : α → α → Int} {x : α} : ∀ {r : List α} {k : Nat}, k ≤ r.length → (∀ p ∈ r.take k, f x p < 0) → (∀ (h : k < r.length), ¬ f x r[k] < 0) → insR f x r = r.take k ++ x :: r.drop k
  | [], k, _, _, _ => by simp [insR]
  | p :: r, 0, _, _, h => by simp only [insR]; rw [if_neg (show ¬ f x p < 0 from h (by simp))]; rfl
  | p :: r, k + 1, hk, h1, h2 => by
    simp only [insR]
    rw [if_pos (h1 p (by simp)), insR_at (r := r) (k := k) (by simpa using hk) (fun q hq => h1 q (by simp [hq])) (fun h => by have := h2 (by simpa using h); simpa using this)]
    simp
theorem insF_at {f : α → α → Int} {x : α} {P : List α} {j : Nat} (hj : j ≤ P.length) (h1 : ∀ p ∈ P.drop j, f x p < 0) (h2 : ∀ (h : 0 < j), ¬ f x (P[j - 1]'(by omega)) < 0) : insF f P x = P.take j ++ x :: P.drop j := by
  unfold insF
  rw [insR_at (k := P.length - j) (by simp) (fun p hp => h1 p (by
    rw [List.take_reverse] at hp
    rw [show P.length - (P.length - j) = j by omega] at hp
    simpa using hp)) (fun h => by
    rw [List.getElem_reverse]
    have := h2 (by simp at h; omega)
    have e : P.length - 1 - (P.length - j) = j - 1 := by omega
    simpa only [e] using this)]
  rw [List.take_reverse, List.drop_reverse, show P.length - (P.length - j) = j by omega]
  simp
/-! ### the order -/
theorem insR_sorted {f : α → α → Int} {x : α} {R : α → α → Prop} (ht : ∀ a b c, R a b → R b c → R a c) : ∀ {r : List α}, (∀ p ∈ r, f x p < 0 → R x p) → (∀ p ∈ r, ¬ f x p < 0 → R p x) → r.Pairwise (fun a b => R b a) → (insR f x r).Pairwise (fun a b => R b a)
  | [], _, _, _ => by simp [insR]
  | p :: r, h1, h2, hp => by
    obtain ⟨hp1, hp2⟩ := List.pairwise_cons.1 hp
    simp only [insR]
    split
    · rename_i hn
      refine List.pairwise_cons.2 ⟨fun y hy => ?_, insR_sorted (r := r) ht (fun q hq => h1 q (by simp [hq])) (fun q hq => h2 q (by simp [hq])) hp2⟩
      rcases List.mem_cons.1 ((insR_perm f x r).mem_iff.1 hy) with rfl | hy
      · exact h1 p (by simp) hn
      · exact hp1 y hy
    · rename_i hn
      refine List.pairwise_cons.2 ⟨fun y hy => ?_, hp⟩
      have hpx := h2 p (by simp) hn
      rcases List.mem_cons.1 hy with rfl | hy
      · exact hpx
      · exact ht _ _ _ (hp1 y hy) hpx
theorem insF_sorted {f : α → α → Int} {x : α} {R : α → α → Prop} (ht : ∀ a b c, R a b → R b c → R a c) {P : List α} (h1 : ∀ p ∈ P, f x p < 0 → R x p) (h2 : ∀ p ∈ P, ¬ f x p < 0 → R p x) (hp : P.Pairwise R) : (insF f P x).Pairwise R := by
  unfold insF
  rw [List.pairwise_reverse]
  exact insR_sorted ht (fun p hp => h1 p (by simpa using hp)) (fun p hp => h2 p (by simpa using hp)) (List.pairwise_reverse.2 hp)
/-- O: the order in which the elements stand ahead of the sorting -/
theorem isort_sorted {f : α → α → Int} {R O : α → α → Prop} (ht : ∀ a b c, R a b → R b c → R a c) (h1 : ∀ {x p}, O p x → f x p < 0 → R x p) (h2 : ∀ {x p}, O p x → ¬ f x p < 0 → R p x) (l : List α) (hO : l.Pairwise O) : (isort f l).Pairwise R := by
  revert hO
  refine rev_ind (p := fun l => l.Pairwise O → (isort f l).Pairwise R) (fun _ => List.Pairwise.nil) (fun l x ih hO => ?_) l
  · rw [isort_snoc]
    obtain ⟨ho1, _, ho2⟩ := List.pairwise_append.1 hO
    exact insF_sorted ht (fun p hp => h1 (ho2 p (isort_mem.1 hp) x (by simp))) (fun p hp => h2 (ho2 p (isort_mem.1 hp) x (by simp))) (ih ho1)
/-! ### the loops -/
structure OI (f : α → α → Int) (l : List α) (a : Int) (ls : List α) (i : Int) : Prop where
  lo : a + 1 ≤ i
  hi : i ≤ l.length ∨ i = a + 1
  eq : (a = 0 ∧ ls = isort f (l.take i.toNat) ++ l.drop i.toNat) ∨ (a = l.length ∧ ls = l)
theorem OI.len {f : α → α → Int} {l ls : List α} {a i : Int} (h : OI f l a ls i) : ls.length = l.length := by
  rcases h.eq with ⟨_, e⟩ | ⟨_, e⟩ <;> rw [e]
  rw [List.length_append, isort_len, List.length_take, List.length_drop]; omega
theorem OI.mem {f : α → α → Int} {l ls : List α} {a i : Int} (h : OI f l a ls i) : ls.Perm l := by
  rcases h.eq with ⟨_, e⟩ | ⟨_, e⟩ <;> rw [e]
  exact ((isort_perm f _).append_right _).trans (by rw [List.take_append_drop])
theorem OI.start {f : α → α → Int} {l : List α} {a : Int} (h : a = 0 ∨ a = l.length) : OI f l a l (a + 1) :=
  ⟨Int.le_refl _, .inr rfl, by
    rcases h with h | h
    · left; subst h; refine ⟨rfl, ?_⟩
      show l = isort f (l.take 1) ++ l.drop 1
      match l with
      | [] => rfl
      | [x] => rfl
      | x :: y :: r => rfl
    · right; exact ⟨h, rfl⟩⟩
theorem OI.done {f : α → α → Int} {l ls : List α} {a i : Int} (h : OI f l a ls i) (hi : (l.length : Int) ≤ i) : ls = if a = 0 then isort f l else l := by
  rcases h.eq with ⟨e1, e⟩ | ⟨e1, e⟩
  · rw [if_pos e1, e, List.take_of_length_le (by omega), List.drop_of_length_le (by omega), List.append_nil]
  · rw [e]; split
    · match l with
      | [] => rfl
      | x :: r => simp at e1; omega
    · rfl
theorem plen (f : α → α → Int) {l : List α} {i : Int} (h : 0 < i ∧ i < l.length) : (isort f (l.take i.toNat)).length = i.toNat := by
  rw [isort_len, List.length_take]; omega
theorem swap_mid (A B : List α) (p x : α) {j : Nat} (hj : j = A.length + 1) : ((A ++ p :: x :: B).set j p).set (j - 1) x = A ++ x :: p :: B := by
  subst hj
  rw [List.set_append_right _ _ (by omega), show A.length + 1 - A.length = 1 by omega, List.set_append_right _ _ (by omega), show A.length + 1 - 1 - A.length = 0 by omega]
  rfl
/-- blocks of twenty, at lists of at most twenty -/
inductive BI (f : α → α → Int) (l ls : List α) (a b : Int) : Prop where
  | first (h1 : a = 0) (h2 : b = 20) (h3 : ls = l) : BI f l ls a b
  | then_ (h1 : a = 20) (h2 : b = 40) (h4 : l.length = 20) (h3 : ls = isort f l) : BI f l ls a b
theorem BI.start {f : α → α → Int} {l : List α} : BI f l l 0 20 := .first rfl rfl rfl
theorem BI.len {f : α → α → Int} {l ls : List α} {a b : Int} (h : BI f l ls a b) : ls.length = l.length := by
  rcases h with ⟨_, _, rfl⟩ | ⟨_, _, _, rfl⟩
  · rfl
  · exact isort_len f l
theorem BI.cases {f : α → α → Int} {l ls : List α} {a b : Int} (h : BI f l ls a b) : (a = 0 ∧ b = 20) ∨ (a = 20 ∧ b = 40 ∧ (l.length : Int) = 20) := by
  rcases h with ⟨h1, h2, _⟩ | ⟨h1, h2, h3, _⟩
  · exact .inl ⟨h1, h2⟩
  · exact .inr ⟨h1, h2, by omega⟩
theorem BI.mem {f : α → α → Int} {l ls : List α} {a b : Int} (h : BI f l ls a b) {x : α} : x ∈ ls ↔ x ∈ l := by
  rcases h with ⟨_, _, rfl⟩ | ⟨_, _, _, rfl⟩
  · rfl
  · exact isort_mem
theorem BI.next {f : α → α → Int} {l ls : List α} {a b : Int} (h : BI f l ls a b) (hb : b ≤ 20 ∧ (l.length : Int) = 20) : BI f l (if a = 0 then isort f ls else ls) b (b + 20) := by
  rcases h with ⟨h1, h2, rfl⟩ | ⟨h1, h2, h3, rfl⟩
  · exact .then_ h2 (by omega) (by omega) (by rw [if_pos h1])
  · omega
theorem BI.done {f : α → α → Int} {l ls : List α} {a b : Int} (h : BI f l ls a b) : (if a = 0 then isort f ls else ls) = isort f l := by
  rcases h with ⟨h1, h2, rfl⟩ | ⟨h1, h2, h3, rfl⟩
  · rw [if_pos h1]
  · rw [if_neg (by omega)]
variable [Inhabited α]
structure II (f : α → α → Int) (l : List α) (a : Int) (ls : List α) (i j : Int) : Prop where
  a0 : a = 0
  ilt : 0 < i ∧ i < l.length
  jlo : 0 ≤ j
  jhi : j ≤ i
  eq : ls = (isort f (l.take i.toNat)).take j.toNat ++ (l.getD i.toNat default) :: (isort f (l.take i.toNat)).drop j.toNat ++ l.drop (i.toNat + 1)
  big : ∀ p ∈ (isort f (l.take i.toNat)).drop j.toNat, f (l.getD i.toNat default) p < 0
theorem II.len {f : α → α → Int} {l ls : List α} {a i j : Int} (h : II f l a ls i j) : ls.length = l.length := by
  have := plen f h.ilt; have := h.ilt; have := h.jlo; have := h.jhi
  rw [h.eq]; simp only [List.length_append, List.length_cons, List.length_take, List.length_drop]; omega
theorem II.start {f : α → α → Int} {l ls : List α} {a i : Int} (h : OI f l a ls i) (ha : 0 ≤ a) (hi : i < l.length) : II f l a ls i i := by
  have hlo := h.lo
  rcases h.eq with ⟨e1, e⟩ | ⟨e1, e⟩
  · refine ⟨e1, ⟨by omega, hi⟩, by omega, Int.le_refl _, ?_, ?_⟩
    · have hp := plen f (l := l) (i := i) ⟨by omega, hi⟩
      rw [e, List.take_of_length_le (l := isort f (l.take i.toNat)) (by omega), List.drop_of_length_le (l := isort f (l.take i.toNat)) (by omega), List.append_assoc]
      congr 1
      rw [List.drop_eq_getElem_cons (show i.toNat < l.length by omega), ← getd_at (show i.toNat < l.length by omega) default]
      rfl
    · rw [List.drop_of_length_le (by rw [plen f ⟨by omega, hi⟩]; exact Nat.le_refl _)]
      intro p hp; cases hp
  · omega
theorem II.perm {f : α → α → Int} {l ls : List α} {a i j : Int} (h : II f l a ls i j) : ls.Perm l := by
  have hi := h.ilt
  have e : l = l.take i.toNat ++ (l.getD i.toNat default) :: l.drop (i.toNat + 1) := by
    rw [← getd_at (show i.toNat < l.length by omega) default, ← List.drop_eq_getElem_cons (show i.toNat < l.length by omega), List.take_append_drop]
  have h1 : ls.Perm ((l.getD i.toNat default) :: (isort f (l.take i.toNat)) ++ l.drop (i.toNat + 1)) := by
    rw [h.eq]
    refine List.Perm.append_right _ ?_
    refine List.perm_middle.trans ?_
    rw [List.take_append_drop]
  refine h1.trans ?_
  refine (((isort_perm f (l.take i.toNat)).cons _).append_right _).trans ?_
  have h2 : ((l.getD i.toNat default) :: l.take i.toNat ++ l.drop (i.toNat + 1)).Perm (l.take i.toNat ++ (l.getD i.toNat default) :: l.drop (i.toNat + 1)) := by
    rw [List.cons_append]; exact List.perm_middle.symm
  rw [← e] at h2; exact h2
theorem II.x {f : α → α → Int} {l ls : List α} {a i j : Int} (h : II f l a ls i j) : ls.getD j.toNat default = l.getD i.toNat default := by
  have := plen f h.ilt; have := h.ilt; have := h.jlo; have := h.jhi
  rw [h.eq, List.getD_eq_getElem?_getD, List.append_assoc, List.getElem?_append_right (by rw [List.length_take]; omega)]
  rw [List.length_take, show j.toNat - min j.toNat (isort f (l.take i.toNat)).length = 0 by omega]
  rfl
theorem II.p {f : α → α → Int} {l ls : List α} {a i j : Int} (h : II f l a ls i j) (hj : 0 < j) : ls.getD (j - 1).toNat default = (isort f (l.take i.toNat)).getD (j.toNat - 1) default := by
  have := plen f h.ilt; have := h.ilt; have := h.jlo; have := h.jhi
  rw [h.eq, List.append_assoc, List.getD_eq_getElem?_getD, List.getElem?_append_left (by rw [List.length_take]; omega), List.getElem?_take, if_pos (by omega), List.getD_eq_getElem?_getD, show (j - 1).toNat = j.toNat - 1 by omega]
theorem II.next {f : α → α → Int} {l ls : List α} {a i j : Int} (h : II f l a ls i j) (hj : 0 < j) (hlt : f (ls.getD j.toNat default) (ls.getD (j - 1).toNat default) < 0) : II f l a ((ls.set j.toNat (ls.getD (j - 1).toNat default)).set (j - 1).toNat (ls.getD j.toNat default)) i (j - 1) := by
  have hpl := plen f h.ilt; have hil := h.ilt; have hjl := h.jlo; have hjh := h.jhi
  rw [h.x, h.p hj] at *
  have hdrop : (isort f (l.take i.toNat)).drop (j - 1).toNat = (isort f (l.take i.toNat)).getD (j.toNat - 1) default :: (isort f (l.take i.toNat)).drop j.toNat := by
    rw [show (j - 1).toNat = j.toNat - 1 by omega, List.drop_eq_getElem_cons (show j.toNat - 1 < _ by omega), ← getd_at (show j.toNat - 1 < (isort f (l.take i.toNat)).length by omega) default, show j.toNat - 1 + 1 = j.toNat by omega]
  have htake : (isort f (l.take i.toNat)).take j.toNat = (isort f (l.take i.toNat)).take (j - 1).toNat ++ [(isort f (l.take i.toNat)).getD (j.toNat - 1) default] := by
    rw [show j.toNat = (j - 1).toNat + 1 by omega, List.take_succ_eq_append_getElem (by omega), show (j - 1).toNat + 1 - 1 = (j - 1).toNat by omega, ← getd_at (show (j - 1).toNat < (isort f (l.take i.toNat)).length by omega) default]
  refine ⟨h.a0, hil, by omega, by omega, ?_, ?_⟩
  · rw [h.eq, htake, hdrop]
    simp only [List.append_assoc, List.singleton_append, List.cons_append, List.nil_append]
    have := swap_mid ((isort f (l.take i.toNat)).take (j - 1).toNat) ((isort f (l.take i.toNat)).drop j.toNat ++ l.drop (i.toNat + 1)) ((isort f (l.take i.toNat)).getD (j.toNat - 1) default) (l.getD i.toNat default) (j := j.toNat) (by rw [List.length_take]; omega)
    rw [show (j - 1).toNat = j.toNat - 1 by omega] at *
    exact this
  · rw [hdrop]
    intro p hp
    rcases List.mem_cons.1 hp with rfl | hp
    · exact hlt
    · exact h.big p hp
theorem II.fin {f : α → α → Int} {l ls : List α} {a i j : Int} (h : II f l a ls i j) (he : j ≤ 0 ∨ ¬ f (ls.getD j.toNat default) (ls.getD (j - 1).toNat default) < 0) : OI f l a ls (i + 1) := by
  have hpl := plen f h.ilt; have hil := h.ilt; have hjl := h.jlo; have hjh := h.jhi
  refine ⟨by have := h.a0; omega, .inl (by omega), .inl ⟨h.a0, ?_⟩⟩
  rw [show (i + 1).toNat = i.toNat + 1 by omega, isort_next f (show i.toNat < l.length by omega), getd_at (show i.toNat < l.length by omega) default]
  rw [insF_at (j := j.toNat) (by omega) h.big (fun h0 => ?_), ← h.eq]
  have h1 := he.resolve_left (by omega)
  rw [h.x, h.p (by omega), ← getd_at (show j.toNat - 1 < (isort f (l.take i.toNat)).length by omega) default] at h1
  exact h1
theorem II.both {f : α → α → Int} {l ls : List α} {a i j : Int} (h : II f l a ls i j) {p : α → Prop} (hp : ∀ x ∈ l, p x) (hj : 0 < j) : p (ls.getD j.toNat default) ∧ p (ls.getD (j - 1).toNat default) := by
  have hil := h.ilt; have hjl := h.jlo; have hjh := h.jhi; have hl := h.len
  have key : ∀ k, k < ls.length → p (ls.getD k default) := fun k hk => by
    rw [← getd_at hk default]; exact hp _ (h.perm.mem_iff.1 (List.getElem_mem hk))
  exact ⟨key _ (by omega), key _ (by omega)⟩
end
end Go.Sx.St

/- A comparison of policies: the plain functions. -/
namespace Go.Sx
/-- a function value without captured variables -/
def tFun : Ty Nat := ⟨1, fun f => [.func (.func f) #[] #[]], fun _ => rfl⟩
namespace Cmp
def by_ (l : List Int) (room k : Int) : Int :=
  if k = 1 then (Lru.run ⟨room, []⟩ l).2 else if k = 2 then (Clock.run ⟨room, 0, []⟩ l).2 else if k = 3 then (Lfu.run ⟨room, []⟩ l).2
  else if k = 4 then (Seg.run ⟨room.tdiv 2, room - room.tdiv 2, [], []⟩ l).2 else (l.length : Int) - (Opt.ev l room).2
def check (l : List Int) (room : Int) : Int := if Lru.trace l = 0 ∧ (room < 2 ∨ 40 < room) then 3 else Lru.trace l
theorem chk1 {l : List Int} {room : Int} (h : Lru.trace l = 0 ∧ (room < 2 ∨ 40 < room)) : 3 = check l room := (if_pos h).symm
theorem chk2 {l : List Int} {room : Int} (h : ¬ Lru.trace l = 0 ∨ (2 ≤ room ∧ room ≤ 40)) : Lru.trace l = check l room := (if_neg (by omega)).symm
theorem chk_ok {l : List Int} {room : Int} : check l room = 0 ↔ Lru.trace l = 0 ∧ 2 ≤ room ∧ room ≤ 40 := by
  unfold check; split <;> omega
def hits (l : List Int) (room : Int) : List Int := if check l room = 0 then (List.range 5).map (fun i : Nat => by_ l room ((i : Int) + 1)) else []
theorem hits_ok {l : List Int} {room : Int} (h : check l room = 0) : hits l room = (List.range 5).map (fun i : Nat => by_ l room ((i : Int) + 1)) := if_pos h
theorem hits_bad {l : List Int} {room : Int} (h : check l room ≠ 0) : hits l room = [] := if_neg h
theorem hits_len {l : List Int} {room : Int} (h : check l room = 0) : (hits l room).length = 5 := by rw [hits_ok h]; simp
theorem hits_at {l : List Int} {room : Int} (h : check l room = 0) {i : Nat} (hi : i < 5) : (hits l room).getD i default = by_ l room ((i : Int) + 1) := by
  rw [hits_ok h, ← getd_at (by simpa using hi) default, List.getElem_map, List.getElem_range]
def cmp (q : List Int) (a b : Int) : Int := cmpI (q.getD (b - 1).toNat default) (q.getD (a - 1).toNat default)
def rank (l : List Int) (room : Int) : List Int := if check l room = 0 then St.isort (cmp (hits l room)) ((List.range 5).map (fun i : Nat => (i : Int) + 1)) else []
theorem rank_ok {l : List Int} {room : Int} (h : check l room = 0) : rank l room = St.isort (cmp (hits l room)) ((List.range 5).map (fun i : Nat => (i : Int) + 1)) := if_pos h
theorem rank_bad {l : List Int} {room : Int} (h : check l room ≠ 0) : rank l room = [] := if_neg h
theorem rank_len {l : List Int} {room : Int} (h : check l room = 0) : (rank l room).length = 5 := by rw [rank_ok h, St.isort_len]; simp
theorem side {q out : List Int} {k : Nat} (e : out = (List.range k).map (fun i : Nat => (i : Int) + 1)) (hk : k ≤ q.length) : ∀ x ∈ out, 1 ≤ x ∧ x ≤ (q.length : Int) := fun x hx => by
  rw [e, List.mem_map] at hx
  obtain ⟨i, hi, rfl⟩ := hx
  have := List.mem_range.1 hi
  omega
def okPol (n : Int) : Bool := decide (1 ≤ n) && decide (n ≤ 5)
theorem pol_ok {n : Int} (h : okPol n = true) : 1 ≤ n ∧ n ≤ 5 := by simpa [okPol] using h
theorem pol_no {n : Int} (h : okPol n = false) : n < 1 ∨ 5 < n := by
  simp only [okPol, Bool.and_eq_false_iff, decide_eq_false_iff_not] at h; omega
def curveErr (l : List Int) (n : Int) : Int := if Lru.trace l = 0 ∧ okPol n = false then 7 else Lru.trace l
theorem ce1 {l : List Int} {n : Int} (h : Lru.trace l = 0 ∧ okPol n = false) : 7 = curveErr l n := (if_pos h).symm
theorem ce2 {l : List Int} {n : Int} (h : ¬ Lru.trace l = 0 ∨ okPol n = true) : Lru.trace l = curveErr l n := (if_neg (by rintro ⟨a, b⟩; rcases h with h | h; exact h a; rw [h] at b; cases b)).symm
theorem ce_ok {l : List Int} {n : Int} : curveErr l n = 0 ↔ Lru.trace l = 0 ∧ okPol n = true := by
  unfold curveErr; split
  · rename_i h; rw [h.2]; simp
  · rename_i h
    constructor
    · intro h2; exact ⟨h2, by cases hp : okPol n; exact absurd ⟨h2, hp⟩ h; rfl⟩
    · intro h2; exact h2.1
def curve (l : List Int) (n : Int) : List Int := if curveErr l n = 0 then (List.range 39).map (fun i : Nat => by_ l ((i : Int) + 2) n) else []
theorem curve_ok {l : List Int} {n : Int} (h : curveErr l n = 0) : curve l n = (List.range 39).map (fun i : Nat => by_ l ((i : Int) + 2) n) := if_pos h
theorem curve_bad {l : List Int} {n : Int} (h : curveErr l n ≠ 0) : curve l n = [] := if_neg h
theorem curve_len {l : List Int} {n : Int} (h : curveErr l n = 0) : (curve l n).length = 39 := by rw [curve_ok h]; simp
theorem curve_at {l : List Int} {n : Int} (h : curveErr l n = 0) {i : Nat} (hi : i < 39) : (curve l n).getD i default = by_ l ((i : Int) + 2) n := by
  rw [curve_ok h, ← getd_at (by simpa using hi) default, List.getElem_map, List.getElem_range]
def roomE (l : List Int) (room n : Int) : Int := if check l room = 0 ∧ okPol n = false then 7 else check l room
theorem re1 {l : List Int} {room n : Int} (h : check l room = 0 ∧ okPol n = false) : 7 = roomE l room n := (if_pos h).symm
theorem re2 {l : List Int} {room n : Int} (h : ¬ check l room = 0 ∨ okPol n = true) : check l room = roomE l room n := (if_neg (by rintro ⟨a, b⟩; rcases h with h | h; exact h a; rw [h] at b; cases b)).symm
theorem re_ok {l : List Int} {room n : Int} : roomE l room n = 0 ↔ check l room = 0 ∧ okPol n = true := by
  unfold roomE; split
  · rename_i h; rw [h.2]; simp
  · rename_i h
    constructor
    · intro h2; exact ⟨h2, by cases hp : okPol n; exact absurd ⟨h2, hp⟩ h; rfl⟩
    · intro h2; exact h2.1
def roomAt (l : List Int) (room n : Int) : Int := idxF (fun many => decide ((hits l room).getD 4 default ≤ many)) (curve l n)
def roomErr (l : List Int) (room n : Int) : Int := if roomE l room n ≠ 0 then roomE l room n else if roomAt l room n < 0 then 5 else 0
def room (l : List Int) (room_ n : Int) : Int := if roomErr l room_ n = 0 then roomAt l room_ n + 2 else 0
theorem rm_cases (l : List Int) (r n : Int) : (roomE l r n ≠ 0 ∧ roomErr l r n = roomE l r n ∧ room l r n = 0) ∨ (roomE l r n = 0 ∧ roomAt l r n < 0 ∧ roomErr l r n = 5 ∧ room l r n = 0) ∨ (roomE l r n = 0 ∧ 0 ≤ roomAt l r n ∧ roomErr l r n = 0 ∧ room l r n = roomAt l r n + 2) := by
  by_cases h : roomE l r n = 0
  · by_cases h2 : roomAt l r n < 0
    · have e : roomErr l r n = 5 := by unfold roomErr; rw [if_neg (by simp [h]), if_pos h2]
      exact .inr (.inl ⟨h, h2, e, by unfold room; rw [e]; rfl⟩)
    · have e : roomErr l r n = 0 := by unfold roomErr; rw [if_neg (by simp [h]), if_neg h2]
      exact .inr (.inr ⟨h, by omega, e, by unfold room; rw [if_pos e]⟩)
  · have e : roomErr l r n = roomE l r n := by unfold roomErr; rw [if_pos h]
    exact .inl ⟨h, e, by unfold room; rw [if_neg (by rw [e]; exact h)]⟩
theorem map_next (f : Nat → Int) (k : Nat) : (List.range k).map f ++ [f k] = (List.range (k + 1)).map f := by rw [List.range_succ, List.map_append]; rfl
end Cmp
end Go.Sx

/- A comparison of policies: bounds; the laws' plain parts. -/
namespace Go.Sx.Opt
theorem evErr_ok {l : List Int} {room : Int} (h : Lru.trace l = 0) (hr : 1 ≤ room ∧ room ≤ 40) : evErr l room = 0 := by
  unfold evErr; rw [if_pos h, room_yes hr]; rfl
theorem ev_bd2 {l : List Int} {room : Int} (h : Lru.trace l = 0) (hr : 1 ≤ room ∧ room ≤ 40) : 0 ≤ (ev l room).2 ∧ (ev l room).2 ≤ (l.length : Int) := by
  have h1 := go_n (evErr_ok h hr)
  exact ⟨h1.1, h1.2.1⟩
end Go.Sx.Opt
namespace Go.Sx.Cmp
theorem curve_next {l out : List Int} {n room : Int} (h : out = (List.range (room - 2).toNat).map (fun i : Nat => by_ l ((i : Int) + 2) n)) (hr : 2 ≤ room) : out ++ [by_ l room n] = (List.range (room + 1 - 2).toNat).map (fun i : Nat => by_ l ((i : Int) + 2) n) := by
  rw [h, show (room + 1 - 2).toNat = (room - 2).toNat + 1 by omega, List.range_succ, List.map_append]
  congr 1
  simp only [List.map_cons, List.map_nil]
  rw [show (((room - 2).toNat : Nat) : Int) + 2 = room by omega]
theorem roomAt_bd (l : List Int) (r n : Int) : -1 ≤ roomAt l r n ∧ roomAt l r n < 39 := by
  unfold roomAt
  have h := idxF_lt (fun many => decide ((hits l r).getD 4 default ≤ many)) (curve l n)
  have hl : (curve l n).length ≤ 39 := by
    by_cases hc : curveErr l n = 0
    · rw [curve_len hc]; exact Nat.le_refl _
    · rw [curve_bad hc]; exact Nat.zero_le _
  rcases idxF_cases (fun many => decide ((hits l r).getD 4 default ≤ many)) (curve l n) with ⟨k, hk, e, _⟩ | ⟨e, _⟩ <;> rw [e] <;> omega
end Go.Sx.Cmp

/- A comparison of policies: misses and different keys; policies that evict only when they must; segments. -/
namespace Go.Sx.Belady
/-- each different key that is not there misses once at least -/
theorem Run.distinct {room : Nat} {C t : List Int} {n : Nat} (h : Run room C t n) : ∀ {D : List Int}, D.Nodup → (∀ x ∈ D, x ∈ t ∧ x ∉ C) → D.length ≤ n := by
  induction h with
  | nil C =>
    intro D _ hD
    match D with
    | [] => exact Nat.le_refl _
    | x :: _ => exact absurd (hD x (by simp)).1 (by simp)
  | hit hk _ _ _ hs _ ih =>
    intro D hn hD
    refine ih hn fun x hx => ?_
    obtain ⟨h1, h2⟩ := hD x hx
    rcases List.mem_cons.1 h1 with e | h1
    · exact absurd (e ▸ hk) h2
    · exact ⟨h1, fun hc => h2 (hs x hc)⟩
  | @miss C C' k t n hk _ _ _ hs _ ih =>
    intro D hn hD
    have h1 := ih (D := D.erase k) (hn.erase k) fun x hx => by
      have hxD := List.mem_of_mem_erase hx
      have hne : x ≠ k := fun e => by subst e; exact (List.Nodup.not_mem_erase hn) hx
      obtain ⟨h1, h2⟩ := hD x hxD
      refine ⟨(List.mem_cons.1 h1).resolve_left hne, fun hc => ?_⟩
      rcases hs x hc with e | e
      · exact hne e
      · exact h2 e
    have h2 := List.length_erase_of_mem (a := k) (l := D)
    by_cases hm : k ∈ D
    · have := h2 hm; omega
    · rw [List.erase_of_not_mem hm] at h1; omega
/-- a policy that evicts only when there is no room -/
inductive Lazy (room : Nat) : List Int → List Int → Nat → Prop
  | nil (C : List Int) : Lazy room C [] 0
  | hit {C C' : List Int} {k : Int} {t : List Int} {n : Nat} : k ∈ C → C'.Nodup → (∀ x ∈ C', x ∈ C) → C'.length = C.length → Lazy room C' t n → Lazy room C (k :: t) n
  | miss {C C' : List Int} {k : Int} {t : List Int} {n : Nat} : k ∉ C → C'.Nodup → (∀ x ∈ C', x = k ∨ x ∈ C) → (C.length < room → C'.length = C.length + 1) → Lazy room C' t n → Lazy room C (k :: t) (n + 1)
theorem back {C D : List Int} (hC : C.Nodup) (hs : ∀ x ∈ C, x ∈ D) (hl : D.length ≤ C.length) : ∀ x ∈ D, x ∈ C := fun x hx => by
  by_cases h : x ∈ C
  · exact h
  · have := nodup_le (l := x :: C) (m := D) (List.nodup_cons.2 ⟨h, hC⟩) fun y hy => (List.mem_cons.1 hy).elim (fun e => e ▸ hx) (hs y)
    simp only [List.length_cons] at this; omega
theorem Lazy.fits {room : Nat} {C t : List Int} {n : Nat} (h : Lazy room C t n) : ∀ {D : List Int}, C.Nodup → D.Nodup → (∀ x ∈ C, x ∈ D) → (∀ x ∈ t, x ∈ D) → D.length ≤ room → (∀ x ∈ D, x ∈ C ∨ x ∈ t) → C.length + n = D.length := by
  induction h with
  | nil C =>
    intro D hC hD h1 _ _ h3
    have := nodup_le hC h1
    have := nodup_le hD fun x hx => (h3 x hx).resolve_right (by simp)
    omega
  | hit hk hn hs hl _ ih =>
    intro D hC hD h1 h2 hr h3
    have hb := back hn hs (by omega)
    rw [← hl]
    refine ih hn hD (fun x hx => h1 x (hs x hx)) (fun x hx => h2 x (by simp [hx])) hr fun x hx => ?_
    rcases h3 x hx with h | h
    · exact .inl (hb x h)
    · rcases List.mem_cons.1 h with e | h
      · exact .inl (hb x (e ▸ hk))
      · exact .inr h
  | @miss C C' k t n hk hn hs hl _ ih =>
    intro D hC hD h1 h2 hr h3
    have hlt := nodup_le (l := k :: C) (m := D) (List.nodup_cons.2 ⟨hk, hC⟩) fun y hy => (List.mem_cons.1 hy).elim (fun e => e ▸ h2 k (by simp)) (h1 y)
    simp only [List.length_cons] at hlt
    have e := hl (by omega)
    have hb := back (C := C') (D := k :: C) hn (fun x hx => by simpa using hs x hx) (by simp only [List.length_cons]; omega)
    have := ih hn hD (fun x hx => (hs x hx).elim (fun e => e ▸ h2 k (by simp)) (h1 x)) (fun x hx => h2 x (by simp [hx])) hr fun x hx => by
      rcases h3 x hx with h | h
      · exact .inl (hb x (by simp [h]))
      · rcases List.mem_cons.1 h with e | h
        · exact .inl (hb x (by simp [e]))
        · exact .inr h
    omega
end Go.Sx.Belady
namespace Go.Sx.Opt
open Belady (Run Lazy)
theorem lru_lazy {l : List Int} : ∀ {c : DCache} {n : Int}, Lru.Ok c → (∀ x ∈ l, Lru.okKey x = true) → ∃ m : Nat, Lazy c.room.toNat c.keys l m ∧ (Lru.runGo c n l).2 + m = n + l.length := by
  induction l with
  | nil => intro c n _ _; exact ⟨0, .nil _, by simp [Lru.runGo]⟩
  | cons k l ih =>
    intro c n h hk
    have h2 := h.touch (hk k (by simp))
    have hr := h.room; have hl := h.len
    have e : (Lru.touch c k).1.room = c.room := rfl
    have hsub : ∀ x ∈ (Lru.touch c k).1.keys, x = k ∨ x ∈ c.keys := fun x hx => Lru.mem_front hx
    by_cases hm : k ∈ c.keys
    · obtain ⟨m, h3, h4⟩ := ih (c := (Lru.touch c k).1) (n := n + 1) h2 (fun x hx => hk x (by simp [hx]))
      refine ⟨m, .hit hm h2.once (fun x hx => (hsub x hx).elim (fun e => e ▸ hm) id) ?_ (by rw [e] at h3; exact h3), ?_⟩
      · show (Lru.front c.room.toNat c.keys k).length = _
        have := List.length_erase_of_mem hm; have := List.length_pos_of_mem hm
        unfold Lru.front; rw [List.length_take, List.length_cons]; omega
      · rw [Lru.runGo, show (Lru.touch c k).2.1 = true from decide_eq_true hm]; simp only [if_true, List.length_cons]; omega
    · obtain ⟨m, h3, h4⟩ := ih (c := (Lru.touch c k).1) (n := n) h2 (fun x hx => hk x (by simp [hx]))
      refine ⟨m + 1, .miss hm h2.once hsub (fun hlt => ?_) (by rw [e] at h3; exact h3), ?_⟩
      · show (Lru.front c.room.toNat c.keys k).length = _
        unfold Lru.front; rw [List.erase_of_not_mem hm, List.length_take, List.length_cons]; omega
      · rw [Lru.runGo, show (Lru.touch c k).2.1 = false from decide_eq_false hm]; simp only [Bool.false_eq_true, if_false, List.length_cons]; omega
theorem lfu_lazy {l : List Int} : ∀ {c : DUses} {n : Int}, Lfu.Ok c → (∀ x ∈ l, Lru.okKey x = true) → ∃ m : Nat, Lazy c.room.toNat (Lfu.keysOf c.list) l m ∧ (Lfu.runGo c n l).2 + m = n + l.length := by
  induction l with
  | nil => intro c n _ _; exact ⟨0, .nil _, by simp [Lfu.runGo]⟩
  | cons k l ih =>
    intro c n h hk
    have h2 := h.touch (hk k (by simp))
    have hr := h.room; have hl := h.len
    have e := Lfu.touch_room c k
    obtain ⟨s1, s2, s3, s4⟩ := lfu_step (c := c) (k := k)
    by_cases hm : k ∈ Lfu.keysOf c.list
    · obtain ⟨m, h3, h4⟩ := ih (c := (Lfu.touch c k).1) (n := n + 1) h2 (fun x hx => hk x (by simp [hx]))
      refine ⟨m, .hit hm h2.once (s1 hm).2 ?_ (by rw [e] at h3; exact h3), ?_⟩
      · have hp : 0 ≤ Lfu.at_ c.list k := by
          rcases Int.lt_or_le (Lfu.at_ c.list k) 0 with h9 | h9
          · obtain ⟨x, hx, hxk⟩ := List.mem_map.1 hm
            exact absurd hxk (Lfu.at_neg.1 h9 x hx)
          · exact h9
        obtain ⟨hlt, _⟩ := Lfu.at_pos hp
        rw [Lfu.touch_hit hp hlt]
        simp only [Lfu.keysOf, List.map_cons, List.length_cons, List.length_map, List.length_eraseIdx]
        rw [if_pos hlt]; omega
      · rw [Lfu.runGo, (s1 hm).1]; simp only [if_true, List.length_cons]; omega
    · obtain ⟨m, h3, h4⟩ := ih (c := (Lfu.touch c k).1) (n := n) h2 (fun x hx => hk x (by simp [hx]))
      refine ⟨m + 1, .miss hm h2.once s4 (fun hlt => ?_) (by rw [e] at h3; exact h3), ?_⟩
      · have hp : Lfu.at_ c.list k < 0 := by
          rcases Int.lt_or_le (Lfu.at_ c.list k) 0 with h9 | h9
          · exact h9
          · obtain ⟨hlt, hx⟩ := Lfu.at_pos h9
            exact absurd (List.mem_map.2 ⟨_, List.getElem_mem hlt, hx⟩) hm
        have hlen : (Lfu.keysOf c.list).length = c.list.length := by simp [Lfu.keysOf]
        rw [Lfu.t_add hp (by omega)]
        simp [Lfu.keysOf]
      · rw [Lfu.runGo, s2 hm]; simp only [Bool.false_eq_true, if_false, List.length_cons]; omega
theorem ck_lazy {l : List Int} : ∀ {c : DClock} {n : Int}, Clock.check c = 0 → (∀ x ∈ l, Lru.okKey x = true) → ∃ m : Nat, Lazy c.room.toNat (Clock.keysOf c.frames) l m ∧ (Clock.runGo c n l).2 + m = n + l.length := by
  induction l with
  | nil => intro c n _ _; exact ⟨0, .nil _, by simp [Clock.runGo]⟩
  | cons k l ih =>
    intro c n h hk
    have h2 := Clock.check_touch h (hk k (by simp))
    have hr := (Clock.ok_of h).room; have hl := (Clock.ok_of h).len; have hnd := (Clock.ok_keys h2).2
    have e := ck_room c k
    obtain ⟨s1, s2, s3, s4⟩ := ck_step (k := k) (Clock.ok_of h)
    by_cases hm : k ∈ Clock.keysOf c.frames
    · obtain ⟨m, h3, h4⟩ := ih (c := (Clock.touch c k).1) (n := n + 1) h2 (fun x hx => hk x (by simp [hx]))
      refine ⟨m, .hit hm hnd (s1 hm).2 ?_ (by rw [e] at h3; exact h3), ?_⟩
      · have hp : 0 ≤ Clock.at_ c.frames k := by
          rcases Int.lt_or_le (Clock.at_ c.frames k) 0 with h9 | h9
          · exact absurd hm (Clock.at_mem h9)
          · exact h9
        rw [Clock.touch_hit hp]
        simp [Clock.keysOf]
      · rw [Clock.runGo, (s1 hm).1]; simp only [if_true, List.length_cons]; omega
    · obtain ⟨m, h3, h4⟩ := ih (c := (Clock.touch c k).1) (n := n) h2 (fun x hx => hk x (by simp [hx]))
      refine ⟨m + 1, .miss hm hnd s4 (fun hlt => ?_) (by rw [e] at h3; exact h3), ?_⟩
      · have hp : Clock.at_ c.frames k < 0 := by
          rcases Int.lt_or_le (Clock.at_ c.frames k) 0 with h9 | h9
          · exact h9
          · exfalso
            rcases idxF_cases (fun x : DFrame => (x.key == k)) c.frames with ⟨j, hj, _, h1, _⟩ | ⟨e, _⟩
            · exact hm (List.mem_map.2 ⟨_, List.getElem_mem hj, by simpa using h1⟩)
            · unfold Clock.at_ at h9; omega
        have hlen : (Clock.keysOf c.frames).length = c.frames.length := by simp [Clock.keysOf]
        rw [Clock.touch_room hp (by omega)]
        simp [Clock.keysOf]
      · rw [Clock.runGo, s2 hm]; simp only [Bool.false_eq_true, if_false, List.length_cons]; omega
/-! ### segments as a run -/
theorem seg_room (c : DHalls) (k : Int) : (Seg.touch c k).1.first = c.first ∧ (Seg.touch c k).1.second = c.second := by unfold Seg.touch; split <;> exact ⟨rfl, rfl⟩
theorem seg_sub {c : DHalls} {k : Int} : ∀ x ∈ (Seg.touch c k).1.young ++ (Seg.touch c k).1.old, x = k ∨ x ∈ c.young ++ c.old := by
  intro x hx
  unfold Seg.touch at hx
  split at hx
  · rcases List.mem_append.1 hx with h | h
    · exact .inr (List.mem_append.2 (.inl (List.mem_of_mem_erase h)))
    · rcases List.mem_cons.1 (List.mem_of_mem_take h) with h | h
      · exact .inl h
      · exact .inr (List.mem_append.2 (.inr (List.mem_of_mem_erase h)))
  · rcases List.mem_append.1 hx with h | h
    · rcases List.mem_cons.1 (List.mem_of_mem_take h) with h | h
      · exact .inl h
      · exact .inr (List.mem_append.2 (.inl h))
    · exact .inr (List.mem_append.2 (.inr h))
theorem seg_run {l : List Int} : ∀ {c : DHalls} {n : Int}, Seg.Ok c → (∀ x ∈ l, Lru.okKey x = true) → ∃ m : Nat, Run (c.first + c.second).toNat (c.young ++ c.old) l m ∧ (Seg.runGo c n l).2 + m = n + l.length := by
  induction l with
  | nil => intro c n _ _; exact ⟨0, .nil _, by simp [Seg.runGo]⟩
  | cons k l ih =>
    intro c n h hk
    have h2 := h.touch (hk k (by simp))
    obtain ⟨e1, e2⟩ := seg_room c k
    have hl1 := h2.len1; have hl2 := h2.len2
    obtain ⟨N, _, _, _, _, hin, hit, _⟩ := Seg.kept h (key := k)
    have hlen : ((Seg.touch c k).1.young ++ (Seg.touch c k).1.old).length ≤ (c.first + c.second).toNat := by rw [List.length_append]; omega
    by_cases hm : k ∈ c.young ++ c.old
    · obtain ⟨m, h3, h4⟩ := ih (c := (Seg.touch c k).1) (n := n + 1) h2 (fun x hx => hk x (by simp [hx]))
      refine ⟨m, .hit hm h2.once hlen hin (fun x hx => (seg_sub x hx).elim (fun e => e ▸ hm) id) (by rw [e1, e2] at h3; exact h3), ?_⟩
      rw [Seg.runGo, show (Seg.touch c k).2.1 = true by rw [hit]; exact decide_eq_true hm]; simp only [if_true, List.length_cons]; omega
    · obtain ⟨m, h3, h4⟩ := ih (c := (Seg.touch c k).1) (n := n) h2 (fun x hx => hk x (by simp [hx]))
      refine ⟨m + 1, .miss hm h2.once hlen hin seg_sub (by rw [e1, e2] at h3; exact h3), ?_⟩
      rw [Seg.runGo, show (Seg.touch c k).2.1 = false by rw [hit]; exact decide_eq_false hm]; simp only [Bool.false_eq_true, if_false, List.length_cons]; omega
end Go.Sx.Opt

/- A comparison of policies: the optimal one, rankings, more room. -/
namespace Go.Sx.Cmp
open Belady (Run Lazy)
theorem lru_err {l : List Int} {room : Int} (h : Lru.trace l = 0) (hr : 1 ≤ room ∧ room ≤ 40) : Lru.runErr ⟨room, []⟩ l = 0 := by
  have hc : Lru.check ⟨room, []⟩ = 0 := by
    unfold Lru.check; rw [if_neg (by rw [Opt.room_yes hr]; simp), if_neg (by simp; omega)]; rfl
  exact (Lru.run3 hc h).2
theorem lfu_err {l : List Int} {room : Int} (h : Lru.trace l = 0) (hr : 1 ≤ room ∧ room ≤ 40) : Lfu.runErr ⟨room, []⟩ l = 0 := by
  have hc : Lfu.check ⟨room, []⟩ = 0 := by
    unfold Lfu.check; rw [if_neg (by rw [Opt.room_yes hr]; simp), if_neg (by simp; omega)]; rfl
  exact (Lfu.run3 hc h).2
theorem ck_check {room : Int} (hr : 1 ≤ room ∧ room ≤ 40) : Clock.check ⟨room, 0, []⟩ = 0 :=
  Clock.check_of (by constructor <;> simp <;> omega) (by simp [Clock.keysOf]) (by simp [Clock.keysOf])
theorem ck_err {l : List Int} {room : Int} (h : Lru.trace l = 0) (hr : 1 ≤ room ∧ room ≤ 40) : Clock.runErr ⟨room, 0, []⟩ l = 0 := by
  unfold Clock.runErr; rw [if_pos (ck_check hr)]; exact h
theorem seg_check {room : Int} (hr : 2 ≤ room ∧ room ≤ 40) : Seg.check ⟨room.tdiv 2, room - room.tdiv 2, [], []⟩ = 0 := by
  have e : room.tdiv 2 = room / 2 := Int.tdiv_eq_ediv_of_nonneg (by omega)
  exact Seg.check_ok.2 ⟨by simp only; omega, by simp only; omega, by simp only [List.length_nil]; omega, by simp only [List.length_nil]; omega, by simp, by simp⟩
theorem pol_run {l : List Int} {room k : Int} (h : Lru.trace l = 0) (hr : 2 ≤ room ∧ room ≤ 40) (hk : 1 ≤ k ∧ k ≤ 4) : ∃ m : Nat, Run room.toNat [] l m ∧ by_ l room k + m = l.length := by
  have hr1 : 1 ≤ room ∧ room ≤ 40 := ⟨by omega, hr.2⟩
  have hkeys := (Lru.trace_ok.1 h).2
  unfold by_
  by_cases k1 : k = 1
  · rw [if_pos k1]; exact Opt.lru_zero (lru_err h hr1)
  · rw [if_neg k1]
    by_cases k2 : k = 2
    · rw [if_pos k2]
      obtain ⟨a1, a2, a3⟩ := Clock.run_err (ck_err h hr1)
      obtain ⟨m, h3, h4⟩ := Opt.ck_run (n := 0) a1 hkeys
      exact ⟨m, h3, by rw [a3]; omega⟩
    · rw [if_neg k2]
      by_cases k3 : k = 3
      · rw [if_pos k3]
        obtain ⟨a1, a2, a3⟩ := Lfu.run_ok (lfu_err h hr1)
        obtain ⟨m, h3, h4⟩ := Opt.lfu_run (n := 0) (Lfu.ok_of a1) hkeys
        exact ⟨m, h3, by rw [a3]; omega⟩
      · rw [if_neg k3, if_pos (by omega)]
        obtain ⟨a3, _⟩ := Seg.run3 (seg_check hr) h
        obtain ⟨m, h3, h4⟩ := Opt.seg_run (n := 0) (Seg.ok_of (seg_check hr)) hkeys
        refine ⟨m, ?_, by rw [a3]; omega⟩
        have e : (room.tdiv 2 + (room - room.tdiv 2)).toNat = room.toNat := by congr 1; omega
        simp only [e] at h3
        exact h3
theorem pol_lazy {l : List Int} {room k : Int} (h : Lru.trace l = 0) (hr : 2 ≤ room ∧ room ≤ 40) (hk : 1 ≤ k ∧ k ≤ 3) : ∃ m : Nat, Lazy room.toNat [] l m ∧ by_ l room k + m = l.length := by
  have hr1 : 1 ≤ room ∧ room ≤ 40 := ⟨by omega, hr.2⟩
  have hkeys := (Lru.trace_ok.1 h).2
  unfold by_
  by_cases k1 : k = 1
  · rw [if_pos k1]
    obtain ⟨a1, a2, a3⟩ := Lru.run_ok (lru_err h hr1)
    obtain ⟨m, h3, h4⟩ := Opt.lru_lazy (n := 0) (Lru.ok_of a1) hkeys
    exact ⟨m, h3, by rw [a3]; omega⟩
  · rw [if_neg k1]
    by_cases k2 : k = 2
    · rw [if_pos k2]
      obtain ⟨a1, a2, a3⟩ := Clock.run_err (ck_err h hr1)
      obtain ⟨m, h3, h4⟩ := Opt.ck_lazy (n := 0) a1 hkeys
      exact ⟨m, h3, by rw [a3]; omega⟩
    · rw [if_neg k2, if_pos (by omega)]
      obtain ⟨a1, a2, a3⟩ := Lfu.run_ok (lfu_err h hr1)
      obtain ⟨m, h3, h4⟩ := Opt.lfu_lazy (n := 0) (Lfu.ok_of a1) hkeys
      exact ⟨m, h3, by rw [a3]; omega⟩
theorem by5 (l : List Int) (room : Int) : by_ l room 5 = (l.length : Int) - (Opt.ev l room).2 := by
  unfold by_; rw [if_neg (by decide), if_neg (by decide), if_neg (by decide), if_neg (by decide)]
theorem run_le {room : Nat} {C t : List Int} {n : Nat} (h : Run room C t n) : n ≤ t.length := by
  induction h with
  | nil => exact Nat.zero_le _
  | hit _ _ _ _ _ _ ih => simp only [List.length_cons]; omega
  | miss _ _ _ _ _ _ ih => simp only [List.length_cons]; omega
theorem by_bd {l : List Int} {room k : Int} (h : Lru.trace l = 0) (hr : 2 ≤ room ∧ room ≤ 40) (hk : 1 ≤ k ∧ k ≤ 5) : 0 ≤ by_ l room k ∧ by_ l room k ≤ l.length ∧ by_ l room k ≤ by_ l room 5 := by
  have hb := Opt.ev_bd2 h (room := room) ⟨by omega, hr.2⟩
  by_cases h5 : k = 5
  · rw [h5, by5]; omega
  · obtain ⟨m, h1, h2⟩ := pol_run (k := k) h hr (by omega)
    have h3 := Opt.least (Opt.evErr_ok h ⟨by omega, hr.2⟩) h1
    have h4 : (Opt.ev l room).2 ≤ l.length := hb.2
    rw [by5]
    have h6 := run_le h1
    omega
/-- the different keys -/
structure UL (l u : List Int) (i : Nat) : Prop where
  le : i ≤ l.length
  once : u.Nodup
  mem : ∀ x, x ∈ u ↔ x ∈ l.take i
  len : u.length ≤ i
theorem UL.start (l : List Int) : UL l [] 0 := ⟨Nat.zero_le _, List.nodup_nil, fun x => by simp, Nat.le_refl _⟩
theorem UL.add {l u : List Int} {i : Nat} (h : UL l u i) (hi : i < l.length) (hn : Ref.hasInt u (l.getD i default) = false) : UL l (u ++ [l.getD i default]) (i + 1) := by
  have hn' : l.getD i default ∉ u := of_decide_eq_false hn
  refine ⟨by omega, ?_, fun x => ?_, by have := h.len; simp; omega⟩
  · rw [List.nodup_append]
    refine ⟨h.once, by simp, fun a ha b hb e => ?_⟩
    rw [List.mem_singleton.1 hb] at e; subst e; exact hn' ha
  · rw [List.take_succ_eq_append_getElem hi, List.mem_append, List.mem_append, h.mem x, getd_at hi default]
theorem UL.skip {l u : List Int} {i : Nat} (h : UL l u i) (hi : i < l.length) (hn : Ref.hasInt u (l.getD i default) = true) : UL l u (i + 1) := by
  have hn' : l.getD i default ∈ u := of_decide_eq_true hn
  refine ⟨by omega, h.once, fun x => ?_, by have := h.len; omega⟩
  rw [List.take_succ_eq_append_getElem hi, List.mem_append, h.mem x, getd_at hi default, List.mem_singleton]
  constructor
  · exact .inl
  · rintro (h1 | h1)
    · exact h1
    · rw [h1]; exact (h.mem _).1 hn'
theorem UL.all {l u : List Int} {i : Nat} (h : UL l u i) (hi : l.length ≤ i) : u.Nodup ∧ ∀ x, x ∈ u ↔ x ∈ l := ⟨h.once, fun x => by rw [h.mem x, List.take_of_length_le hi]⟩
structure Best (l : List Int) (room : Int) (u : List Int) (i : Nat) : Prop where
  top : (hits l room).getD i default ≤ (hits l room).getD 4 default
  most : (hits l room).getD i default ≤ (l.length : Int) - (u.length : Int)
  all : (u.length : Int) ≤ room → i ≠ 3 → (hits l room).getD i default = (l.length : Int) - (u.length : Int)
theorem best {l u : List Int} {room : Int} (h : check l room = 0) (hu : u.Nodup ∧ ∀ x, x ∈ u ↔ x ∈ l) {i : Nat} (hi : i < 5) : Best l room u i := by
  obtain ⟨htr, hr⟩ := chk_ok.1 h
  have hr1 : 1 ≤ room ∧ room ≤ 40 := ⟨by omega, hr.2⟩
  have h4 : (hits l room).getD 4 default = by_ l room 5 := hits_at h (by decide)
  have hi' := hits_at h hi
  obtain ⟨_, _, b3⟩ := by_bd htr hr (k := (i : Int) + 1) (by omega)
  have hev := Opt.evErr_ok htr hr1
  have hb := Opt.ev_bd2 htr hr1
  obtain ⟨g1, g2, g3, _⟩ := Opt.go_n hev
  have hd := (g3.run List.nodup_nil (Nat.zero_le _)).distinct hu.1 fun x hx => ⟨(hu.2 x).1 hx, by simp⟩
  have hm : by_ l room 5 ≤ (l.length : Int) - (u.length : Int) := by rw [by5]; omega
  have hall : ∀ k : Int, 1 ≤ k → k ≤ 3 → (u.length : Int) ≤ room → by_ l room k = (l.length : Int) - (u.length : Int) := fun k k1 k2 hf => by
    obtain ⟨m, l1, l2⟩ := pol_lazy htr hr ⟨k1, k2⟩
    have := l1.fits (D := u) List.nodup_nil hu.1 (by simp) (fun x hx => (hu.2 x).2 hx) (by omega) (fun x hx => .inr ((hu.2 x).1 hx))
    simp only [List.length_nil] at this
    omega
  refine ⟨by rw [hi', h4]; exact b3, by rw [hi']; omega, fun hf h3 => ?_⟩
  rw [hi']
  by_cases h5 : i = 4
  · have h1 := hall 1 (by decide) (by decide) hf
    obtain ⟨_, _, b1⟩ := by_bd htr hr (k := 1) (by omega)
    rw [h5, show (((4 : Nat) : Int) + 1) = 5 from rfl]
    omega
  · exact hall _ (by omega) (by omega) hf
/-! ### the ranking -/
def R (q : List Int) (a b : Int) : Prop := q.getD (b - 1).toNat default < q.getD (a - 1).toNat default ∨ (q.getD (a - 1).toNat default = q.getD (b - 1).toNat default ∧ a < b)
theorem rank_sorted {l : List Int} {room : Int} (h : check l room = 0) : (rank l room).Pairwise (R (hits l room)) := by
  rw [rank_ok h]
  refine St.isort_sorted (O := (· < ·)) (fun a b c h1 h2 => by unfold R at *; omega) (fun {x p} _ hn => .inl (cmpI_neg.1 hn)) (fun {x p} ho hn => ?_) _ ?_
  · have h2 : ¬ _ := fun e => hn (cmpI_neg.2 e)
    unfold R; omega
  · rw [List.pairwise_map]; exact List.pairwise_lt_range.imp fun h => by omega
theorem rank_at {l : List Int} {room : Int} (h : check l room = 0) {i : Nat} (hi : i < 5) : 1 ≤ (rank l room).getD i default ∧ (rank l room).getD i default ≤ 5 := by
  have hl := rank_len h
  rw [← getd_at (show i < (rank l room).length by omega) default]
  have hm := List.getElem_mem (show i < (rank l room).length by omega)
  generalize (rank l room)[i]'(by omega) = x at *
  rw [rank_ok h, St.isort_mem, List.mem_map] at hm
  obtain ⟨j, hj, rfl⟩ := hm
  have := List.mem_range.1 hj
  omega
theorem rank_lt {l : List Int} {room : Int} (h : check l room = 0) {i : Nat} (h0 : 0 < i) (hi : i < 5) : R (hits l room) ((rank l room).getD ((i : Int) - 1).toNat default) ((rank l room).getD i default) := by
  have hl := rank_len h
  have := List.pairwise_iff_getElem.1 (rank_sorted h) (i - 1) i (by omega) (by omega) (by omega)
  rw [getd_at (show i - 1 < (rank l room).length by omega) default, getd_at (show i < (rank l room).length by omega) default] at this
  rw [show ((i : Int) - 1).toNat = i - 1 by omega]; exact this
theorem hits_bad2 {l : List Int} {room : Int} (h : check l room ≠ 0) : (((((hits l room).length : Int) + ((rank l room).length : Int)) == 0) && (check l room == check l room)) = true := by
  rw [hits_bad h, rank_bad h]; simp
/-! ### more room -/
structure Mono (l : List Int) (i : Nat) : Prop where
  a : 0 < i → (curve l 1).getD ((i : Int) - 1).toNat default ≤ (curve l 1).getD i default
  b : 0 < i → (curve l 5).getD ((i : Int) - 1).toNat default ≤ (curve l 5).getD i default
  c : (curve l 1).getD i default ≤ (curve l 5).getD i default
theorem err15 (l : List Int) : curveErr l 1 = Lru.trace l ∧ curveErr l 5 = Lru.trace l := by
  constructor <;> (unfold curveErr; rw [if_neg (by simp [okPol])])
theorem mono {l : List Int} (h : curveErr l 1 = 0) {i : Nat} (hi : i < 39) : Mono l i := by
  have htr : Lru.trace l = 0 := (err15 l).1 ▸ h
  have h5 : curveErr l 5 = 0 := (err15 l).2.trans htr
  have e1 : by_ l ((i : Int) + 2) 1 = (Lru.run ⟨(i : Int) + 2, []⟩ l).2 := by unfold by_; rw [if_pos rfl]
  refine ⟨fun h0 => ?_, fun h0 => ?_, ?_⟩
  · rw [show ((i : Int) - 1).toNat = i - 1 by omega, curve_at h (show i - 1 < 39 by omega), curve_at h hi]
    have e2 : by_ l (((i - 1 : Nat) : Int) + 2) 1 = (Lru.run ⟨((i - 1 : Nat) : Int) + 2, []⟩ l).2 := by unfold by_; rw [if_pos rfl]
    rw [e1, e2]
    exact (Lru.incl (lru_err htr ⟨by omega, by omega⟩) (lru_err htr ⟨by omega, by omega⟩) (by omega)).1
  · rw [show ((i : Int) - 1).toNat = i - 1 by omega, curve_at h5 (show i - 1 < 39 by omega), curve_at h5 hi, by5, by5]
    have := Opt.more (Opt.evErr_ok htr (room := ((i - 1 : Nat) : Int) + 2) ⟨by omega, by omega⟩) (Opt.evErr_ok htr (room := (i : Int) + 2) ⟨by omega, by omega⟩) (by omega)
    omega
  · rw [curve_at h hi, curve_at h5 hi]
    exact (by_bd htr ⟨by omega, by omega⟩ ⟨by omega, by omega⟩).2.2
theorem mono_bad {l : List Int} (h : curveErr l 1 ≠ 0) : ((curveErr l 5 == curveErr l 1) && ((((curve l 1).length : Int) + ((curve l 5).length : Int)) == 0)) = true := by
  have e : curveErr l 5 = curveErr l 1 := by rw [(err15 l).1, (err15 l).2]
  rw [curve_bad h, curve_bad (by rw [e]; exact h), e]; simp
end Go.Sx.Cmp

/- A comparison of policies: the reference's answers. -/
namespace Go.Sx.Cmp
theorem lru_okc {room : Int} (hr : 1 ≤ room ∧ room ≤ 40) : Lru.Ok (⟨room, []⟩ : DCache) := Lru.ok_of (by
  unfold Lru.check; rw [if_neg (by rw [Opt.room_yes hr]; simp), if_neg (by simp; omega)]; rfl)
theorem lfu_okc {room : Int} (hr : 1 ≤ room ∧ room ≤ 40) : Lfu.Ok (⟨room, []⟩ : DUses) := Lfu.ok_of (by
  unfold Lfu.check; rw [if_neg (by rw [Opt.room_yes hr]; simp), if_neg (by simp; omega)]; rfl)
theorem ck_okc {room : Int} (hr : 1 ≤ room ∧ room ≤ 40) : Clock.Ok (⟨room, 0, []⟩ : DClock) := Clock.ok_of (ck_check hr)
theorem go_ev {l : List Int} {room : Int} (h : Lru.trace l = 0) (hr : 1 ≤ room ∧ room ≤ 40) : (Opt.go l room l.length).2.2 = (Opt.ev l room).2 := by rw [(Opt.ev_ok (Opt.evErr_ok h hr)).2.2]
variable {l : List Int} {room pol : Int}
theorem ref1 (h : Lru.trace l = 0) (hr : 1 ≤ room ∧ room ≤ 40) (hp : pol = 1) : (Lru.runGo ⟨room, []⟩ 0 l).2 = by_ l room pol := by
  unfold by_; rw [if_pos hp, (Lru.run_ok (lru_err h hr)).2.2]
theorem ref2 (h : Lru.trace l = 0) (hr : 1 ≤ room ∧ room ≤ 40) (hp : pol = 2) : (Clock.runGo ⟨room, 0, []⟩ 0 l).2 = by_ l room pol := by
  unfold by_; rw [if_neg (by omega), if_pos hp, (Clock.run_err (ck_err h hr)).2.2]
theorem ref3 (h : Lru.trace l = 0) (hr : 1 ≤ room ∧ room ≤ 40) (hp : pol = 3) : (Lfu.runGo ⟨room, []⟩ 0 l).2 = by_ l room pol := by
  unfold by_; rw [if_neg (by omega), if_neg (by omega), if_pos hp, (Lfu.run_ok (lfu_err h hr)).2.2]
theorem ref4 (h : Lru.trace l = 0) (hr : 2 ≤ room ∧ room ≤ 40) (hp : pol = 4) : (Seg.runGo ⟨room.tdiv 2, room - room.tdiv 2, [], []⟩ 0 l).2 = by_ l room pol := by
  unfold by_; rw [if_neg (by omega), if_neg (by omega), if_neg (by omega), if_pos hp, (Seg.run3 (seg_check hr) h).1]
theorem ref5 (h : Lru.trace l = 0) (hr : 1 ≤ room ∧ room ≤ 40) (h1 : pol ≠ 1) (h2 : pol ≠ 2) (h3 : pol ≠ 3) (h4 : pol ≠ 4) : (l.length : Int) - (Opt.go l room l.length).2.2 = by_ l room pol := by
  unfold by_; rw [if_neg h1, if_neg h2, if_neg h3, if_neg h4, go_ev h hr]
end Go.Sx.Cmp
namespace Go.Sx.Cmp
theorem cj1 {l : List Int} {n : Int} (h : Lru.trace l = 0 ∧ (n < 1 ∨ 5 < n)) : 7 = curveErr l n := ce1 ⟨h.1, by
  cases e : okPol n
  · rfl
  · have := pol_ok e; omega⟩
theorem cj2 {l : List Int} {n : Int} (h : ¬ Lru.trace l = 0 ∨ (1 ≤ n ∧ n ≤ 5)) : Lru.trace l = curveErr l n := ce2 (h.imp id fun q => by simp [okPol]; exact q)
theorem curves_end {l want : List Int} {n r w : Int} (hw : w = curveErr l n) (h1 : 2 ≤ r) (h2 : r ≤ 41) (h3 : w ≠ 0 → r = 2) (h4 : want = (List.range (r - 2).toNat).map (fun i : Nat => by_ l ((i : Int) + 2) n)) (hst : 40 < r ∨ ¬ w = 0) : want = curve l n := by
  by_cases h : w = 0
  · rw [curve_ok (hw ▸ h), h4, show (r - 2).toNat = 39 by omega]
  · rw [curve_bad (hw ▸ h), h4, h3 h]; rfl
end Go.Sx.Cmp

/- The text form of traces: the plain functions. -/
namespace Go.Sx.Trc
/-! ### bytes and texts -/
def ofL (l : List UInt8) : ByteArray := ⟨l.toArray⟩
theorem ofL_data (l : List UInt8) : (ofL l).data.toList = l := rfl
theorem data_ofL (s : ByteArray) : ofL s.data.toList = s := by obtain ⟨⟨l⟩⟩ := s; rfl
theorem ofL_size (l : List UInt8) : (ofL l).size = l.length := by rw [Go.Lib.size_eq]; rfl
theorem ofL_inj {a b : List UInt8} (h : ofL a = ofL b) : a = b := by have := congrArg (fun s : ByteArray => s.data.toList) h; exact this
theorem ofL_append (a b : List UInt8) : ofL a ++ ofL b = ofL (a ++ b) := by
  apply ByteArray.ext
  show (ofL a ++ ofL b).data = (a ++ b).toArray
  rw [ByteArray.data_append]; simp [ofL]
theorem ofL_extract (l : List UInt8) (a b : Nat) : (ofL l).extract a b = ofL ((l.drop a).take (b - a)) := by
  rw [← data_ofL ((ofL l).extract a b), Go.Lib.extract_data]; rfl
theorem empty_ofL : ByteArray.empty = ofL [] := rfl
theorem eq_empty {l : List UInt8} : ofL l = ByteArray.empty ↔ l = [] := ⟨fun h => ofL_inj h, fun h => by rw [h]; rfl⟩
theorem byteAt_ofL {l : List UInt8} {i : Nat} : byteAt (ofL l) i = l.getD i 0 := by
  show (l.toArray).getD i 0 = _
  simp [Array.getD_eq_getD_getElem?]
/-! ### numbers -/
def digs : List UInt8 := [48, 49, 50, 51, 52, 53, 54, 55, 56, 57]
def isD (b : UInt8) : Bool := decide (48 ≤ b.toNat) && decide (b.toNat ≤ 57)
theorem digs_fin : ∀ b : Fin 256, digs.contains (UInt8.ofNat b.val) = isD (UInt8.ofNat b.val) := by decide +kernel
theorem digs_isD (b : UInt8) : digs.contains b = isD b := by
  have h := digs_fin ⟨b.toNat, b.toNat_lt⟩
  simpa using h
def value (l : List UInt8) : Nat := l.foldl (fun n b => 10 * n + (b.toNat - 48)) 0
/-- a number of one to seven digits without zeros ahead -/
def numOk (l : List UInt8) : Prop := l ≠ [] ∧ l.length ≤ 7 ∧ ¬ (1 < l.length ∧ l.getD 0 0 = 48) ∧ l.all isD = true
instance (l : List UInt8) : Decidable (numOk l) := by unfold numOk; infer_instance
def numL (l : List UInt8) : Int := if numOk l then (value l : Int) else -1
def num (s : ByteArray) : Int := numL s.data.toList
theorem num_ofL (l : List UInt8) : num (ofL l) = numL l := rfl
theorem dropWhile_nil {α : Type} {p : α → Bool} {l : List α} : l.dropWhile p = [] ↔ l.all p = true := by
  induction l with
  | nil => simp
  | cons x r ih =>
    by_cases h : p x = true
    · rw [List.dropWhile_cons_of_pos h, ih]; simp [h]
    · rw [List.dropWhile_cons_of_neg h]; simp [h]
theorem all_dropWhile {α : Type} {p : α → Bool} {l : List α} (h : l.all p = true) : (l.dropWhile p) = [] := dropWhile_nil.2 h
theorem trim_nil {l : List UInt8} : Go.Lib.trimS l digs = [] ↔ l.all isD = true := by
  have e : (digs.contains ·) = isD := funext digs_isD
  unfold Go.Lib.trimS Go.Lib.trimLeftS Go.Lib.trimRightS
  rw [e, dropWhile_nil, List.all_reverse]
  constructor
  · intro h
    rw [List.all_eq_true] at h ⊢
    have hs := List.takeWhile_append_dropWhile (p := isD) (l := l.reverse)
    intro x hx
    rw [← List.mem_reverse, ← hs, List.mem_append] at hx
    rcases hx with hx | hx
    · have h9 := List.all_eq_true.1 (List.all_takeWhile (p := isD) (l := l.reverse)) x hx
      exact h9
    · exact h x hx
  · intro h
    rw [List.all_eq_true] at h ⊢
    intro x hx
    exact h x (List.mem_reverse.1 ((List.dropWhile_sublist isD).subset hx))
theorem decFrom_all : ∀ (l : List UInt8) (n : Nat), l.all isD = true → Go.Lib.decFrom n l = some (l.foldl (fun n b => 10 * n + (b.toNat - 48)) n)
  | [], n, _ => rfl
  | b :: r, n, h => by
    simp only [List.all_cons, Bool.and_eq_true] at h
    have hb : 48 ≤ b.toNat ∧ b.toNat ≤ 57 := by simpa [isD] using h.1
    rw [Go.Lib.decFrom, Go.Lib.digitVal, if_pos hb]
    show Go.Lib.decFrom (n * 10 + (b.toNat - 48)) r = _
    rw [decFrom_all r _ h.2, List.foldl_cons, Nat.mul_comm]
theorem atoi_all {l : List UInt8} (h0 : l ≠ []) (h : l.all isD = true) : Go.Lib.atoi l = some (value l : Int) := by
  match l, h0 with
  | b :: r, _ =>
    have hb : 48 ≤ b.toNat ∧ b.toNat ≤ 57 := by
      simp only [List.all_cons, Bool.and_eq_true] at h
      simpa [isD] using h.1
    have e1 : (b == 45) = false := beq_eq_false_iff_ne.2 (fun e => by rw [e] at hb; exact absurd hb.1 (by decide))
    have e2 : (b == 43) = false := beq_eq_false_iff_ne.2 (fun e => by rw [e] at hb; exact absurd hb.1 (by decide))
    rw [Go.Lib.atoi, e1, e2]
    simp only [Bool.false_eq_true, if_false]
    rw [Go.Lib.decNat]
    simp only [List.isEmpty_cons, Bool.false_eq_true, if_false]
    rw [decFrom_all _ _ h]
    rfl
theorem value_snoc (l : List UInt8) (b : UInt8) : value (l ++ [b]) = 10 * value l + (b.toNat - 48) := by
  unfold value; rw [List.foldl_append]; rfl
theorem foldl_lt : ∀ (l : List UInt8) (n k : Nat), l.all isD = true → n < 10 ^ k → l.foldl (fun n b => 10 * n + (b.toNat - 48)) n < 10 ^ (k + l.length)
  | [], n, k, _, h => h
  | b :: r, n, k, h, hn => by
    simp only [List.all_cons, Bool.and_eq_true] at h
    have hb : 48 ≤ b.toNat ∧ b.toNat ≤ 57 := by simpa [isD] using h.1
    have := foldl_lt r (10 * n + (b.toNat - 48)) (k + 1) h.2 (by rw [Nat.pow_succ]; omega)
    rw [List.foldl_cons, List.length_cons]
    rw [show k + 1 + r.length = k + (r.length + 1) by omega] at this
    exact this
theorem value_lt {l : List UInt8} (h : l.all isD = true) : value l < 10 ^ l.length := by
  have := foldl_lt l 0 0 h (by decide)
  rwa [Nat.zero_add] at this
theorem num_cases (l : List UInt8) : numL l = -1 ∨ (0 ≤ numL l ∧ numL l ≤ 9999999) := by
  unfold numL
  split
  · rename_i h
    have h1 := value_lt h.2.2.2
    have h2 : 10 ^ l.length ≤ 10 ^ 7 := Nat.pow_le_pow_right (by decide) h.2.1
    right; omega
  · exact .inl rfl
theorem num_ge (s : ByteArray) : -1 ≤ num s ∧ num s ≤ 9999999 := by
  rcases num_cases s.data.toList with h | h <;> unfold num <;> omega
/-! ### decimal digits -/
def dec (n : Int) : List UInt8 := Go.Lib.decDigits n.toNat
def decS (n : Int) : ByteArray := ofL (dec n)
theorem itoa_dec {n : Int} (h : 0 ≤ n) : Go.Lib.itoa n = dec n := by unfold Go.Lib.itoa dec; rw [if_neg (by omega)]
theorem dec_small {n : Nat} (h : n < 10) : Go.Lib.decDigits n = [UInt8.ofNat (48 + n)] := by rw [Go.Lib.decDigits, dif_pos h]
theorem dec_big {n : Nat} (h : ¬ n < 10) : Go.Lib.decDigits n = Go.Lib.decDigits (n / 10) ++ [UInt8.ofNat (48 + n % 10)] := by rw [Go.Lib.decDigits, dif_neg h]
theorem isD_digit {n : Nat} (h : n < 10) : isD (UInt8.ofNat (48 + n)) = true ∧ (UInt8.ofNat (48 + n)).toNat - 48 = n := by
  have e : (UInt8.ofNat (48 + n)).toNat = 48 + n := by rw [UInt8.toNat_ofNat']; omega
  unfold isD; rw [e]; simp; omega
theorem dec_ok (n : Nat) : Go.Lib.decDigits n ≠ [] ∧ (Go.Lib.decDigits n).all isD = true ∧ value (Go.Lib.decDigits n) = n ∧ ((Go.Lib.decDigits n).getD 0 0 = 48 → n = 0) := by
  induction n using Nat.strongRecOn with
  | ind n ih =>
    by_cases h : n < 10
    · have hd := isD_digit h
      rw [dec_small h]
      refine ⟨by simp, by simpa using hd.1, ?_, fun e => ?_⟩
      · show 10 * 0 + ((UInt8.ofNat (48 + n)).toNat - 48) = n
        rw [hd.2]; omega
      · have e2 : UInt8.ofNat (48 + n) = 48 := e
        have h9 := hd.2; rw [e2] at h9; exact h9.symm
    · obtain ⟨i1, i2, i3, i4⟩ := ih (n / 10) (by omega)
      have hd := isD_digit (n := n % 10) (by omega)
      rw [dec_big h]
      refine ⟨by simp, by rw [List.all_append, i2]; simpa using hd.1, by rw [value_snoc, i3, hd.2]; omega, fun e => ?_⟩
      have e2 : (Go.Lib.decDigits (n / 10) ++ [UInt8.ofNat (48 + n % 10)]).getD 0 0 = (Go.Lib.decDigits (n / 10)).getD 0 0 := by
        cases hq : Go.Lib.decDigits (n / 10) with
        | nil => exact absurd hq i1
        | cons x r => rfl
      rw [e2] at e
      have := i4 e; omega
theorem dec_len : ∀ (k n : Nat), n < 10 ^ (k + 1) → (Go.Lib.decDigits n).length ≤ k + 1
  | 0, n, h => by rw [dec_small (by simpa using h)]; simp
  | k + 1, n, h => by
    by_cases h1 : n < 10
    · rw [dec_small h1]; simp
    · rw [dec_big h1, List.length_append, List.length_singleton]
      have := dec_len k (n / 10) (by rw [Nat.pow_succ] at h; omega)
      omega
theorem numL_dec {n : Int} (h0 : 0 ≤ n) (h : n < 10000000) : numL (dec n) = n := by
  obtain ⟨h1, h2, h3, h4⟩ := dec_ok n.toNat
  have hl := dec_len 6 n.toNat (by omega)
  unfold numL dec
  rw [if_pos ⟨h1, hl, fun ⟨q1, q2⟩ => by have := h4 q2; rw [this, dec_small (by decide)] at q1; simp at q1, h2⟩, h3]
  omega
/-! ### pieces -/
def sepB (b : UInt8) : Bool := b == 42 || b == 45
/-- where the first sign stands; behind the last byte: there is none -/
def cutN (w : ByteArray) : Nat := w.data.toList.findIdx sepB
def cutI (w : ByteArray) : Int := idxF sepB w.data.toList
theorem contains_sep (b : UInt8) : [42, 45].contains b = sepB b := by
  simp only [List.contains, List.elem, sepB]
  cases (b == 42) <;> cases (b == 45) <;> rfl
theorem indexAny_eq : ∀ (l : List UInt8), Go.Lib.indexAny l [42, 45] = idxF sepB l
  | [] => rfl
  | b :: r => by
    rw [Go.Lib.indexAny, contains_sep]
    have ih := indexAny_eq r
    unfold idxF
    rw [List.findIdx_cons]
    cases hb : sepB b with
    | true => simp
    | false =>
      simp only [Bool.false_eq_true, if_false, cond_false, List.length_cons]
      rw [ih]; unfold idxF
      by_cases h : r.findIdx sepB < r.length
      · rw [if_pos h, if_neg (by rw [beq_iff_eq]; omega), if_pos (by omega)]; omega
      · rw [if_neg h, if_pos (by rfl), if_neg (by omega)]
theorem cutI_lt (w : ByteArray) : -1 ≤ cutI w ∧ cutI w < (w.size : Int) := by
  have h := idxF_lt sepB w.data.toList
  rw [← Go.Lib.size_eq] at h
  exact ⟨h.2, h.1⟩
def pk (w : ByteArray) : Int := if cutI w < 0 then num w else num (w.extract 0 (cutI w).toNat)
def pm (w : ByteArray) : Int := if cutI w < 0 then 1 else num (w.extract ((cutI w).toNat + 1) w.size)
def star (w : ByteArray) : Prop := 0 ≤ cutI w ∧ byteAt w (cutI w).toNat = 42
def dash (w : ByteArray) : Prop := 0 ≤ cutI w ∧ byteAt w (cutI w).toNat = 45
instance (w : ByteArray) : Decidable (star w) := by unfold star; infer_instance
instance (w : ByteArray) : Decidable (dash w) := by unfold dash; infer_instance
def pErr (w : ByteArray) : Int :=
  if pk w < 0 ∨ pm w < 0 then 1 else if (star w ∧ pm w < 2) ∨ (dash w ∧ pm w < pk w + 2) then 1 else if Lru.okKey (if dash w then pm w else pk w) then 0 else 3
def pKey (w : ByteArray) : Int := if pErr w = 0 then pk w else 0
def pBy (w : ByteArray) : Int := if pErr w = 0 ∧ dash w then 1 else 0
def pMany (w : ByteArray) : Int := if pErr w = 0 then (if dash w then pm w - pk w + 1 else pm w) else 0
/-! ### the text in words -/
def wordsL : List UInt8 → List (List UInt8)
  | [] => [[]]
  | b :: l => if b = 32 then [] :: wordsL l else match wordsL l with
    | [] => [[b]]
    | w :: r => (b :: w) :: r
def words (s : ByteArray) : List ByteArray := (wordsL s.data.toList).map ofL
theorem wordsL_ne : ∀ l : List UInt8, wordsL l ≠ []
  | [] => by simp [wordsL]
  | b :: l => by
    rw [wordsL]; split
    · simp
    · split <;> simp
theorem wordsL_plain : ∀ {l : List UInt8}, (32 : UInt8) ∉ l → wordsL l = [l]
  | [], _ => rfl
  | b :: l, h => by
    have h1 : b ≠ 32 := fun e => h (by simp [e])
    rw [wordsL, if_neg h1, wordsL_plain (fun q => h (List.mem_cons_of_mem _ q))]
theorem wordsL_cut : ∀ {a : List UInt8} (r : List UInt8), (32 : UInt8) ∉ a → wordsL (a ++ 32 :: r) = a :: wordsL r
  | [], r, _ => by show wordsL (32 :: r) = _; rw [wordsL, if_pos rfl]
  | b :: a, r, h => by
    have h1 : b ≠ 32 := fun e => h (by simp [e])
    show wordsL (b :: (a ++ 32 :: r)) = _
    rw [wordsL, if_neg h1, wordsL_cut r (fun q => h (List.mem_cons_of_mem _ q))]
theorem wordsL_sp (b : List UInt8) : wordsL (32 :: b) = [] :: wordsL b := by rw [wordsL, if_pos rfl]
theorem wordsL_join (a b : List UInt8) : wordsL (a ++ 32 :: b) = wordsL a ++ wordsL b := by
  induction a with
  | nil => exact wordsL_sp b
  | cons x a ih =>
    show wordsL (x :: (a ++ 32 :: b)) = _
    rw [wordsL, ih]
    by_cases h : x = 32
    · rw [if_pos h, wordsL, if_pos h]; rfl
    · rw [if_neg h, wordsL, if_neg h]
      cases hq : wordsL a with
      | nil => exact absurd hq (wordsL_ne a)
      | cons w r => rfl
/-- what strings.Split gives -/
theorem index_sp : ∀ l : List UInt8, Go.Lib.index l [32] = idxF (fun b => b == 32) l
  | [] => rfl
  | b :: r => by
    have ih := index_sp r
    rw [Go.Lib.index]
    have hp : ([32] : List UInt8).isPrefixOf (b :: r) = ((32 : UInt8) == b) := by simp [List.isPrefixOf]
    rw [hp]
    unfold idxF
    rw [List.findIdx_cons]
    by_cases hb : b = 32
    · subst hb; simp
    · have e1 : ((32 : UInt8) == b) = false := beq_eq_false_iff_ne.2 (fun e => hb e.symm)
      have e2 : (b == (32 : UInt8)) = false := beq_eq_false_iff_ne.2 hb
      rw [e1, e2]
      simp only [Bool.false_eq_true, if_false, cond_false, List.length_cons]
      rw [ih]; unfold idxF
      by_cases h : r.findIdx (fun b => b == 32) < r.length
      · rw [if_pos h, if_neg (by rw [beq_iff_eq]; omega), if_pos (by omega)]; omega
      · rw [if_neg h, if_pos (by rfl), if_neg (by omega)]
theorem splitK_words : ∀ (k : Nat) (l : List UInt8), l.count 32 = k → Go.Lib.splitK [32] 0 k l = wordsL l
  | 0, l, h => by
    rw [wordsL_plain (List.count_eq_zero.1 h)]; rfl
  | k + 1, l, h => by
    have hm : (32 : UInt8) ∈ l := List.count_pos_iff.1 (by omega)
    have hx : l.findIdx (fun b => b == 32) < l.length := List.findIdx_lt_length.2 ⟨32, hm, rfl⟩
    have e : Go.Lib.index l [32] = (l.findIdx (fun b => b == 32) : Int) := by rw [index_sp]; unfold idxF; rw [if_pos hx]
    have hb := List.findIdx_getElem (w := hx)
    have hn : (32 : UInt8) ∉ l.take (l.findIdx (fun b => b == 32)) := by
      intro hq
      obtain ⟨j, hj, e2⟩ := List.mem_iff_getElem.1 hq
      rw [List.length_take] at hj
      rw [List.getElem_take] at e2
      have := List.not_of_lt_findIdx (p := fun b : UInt8 => b == 32) (xs := l) (i := j) (by omega)
      simp [e2] at this
    have hl : l = l.take (l.findIdx (fun b => b == 32)) ++ 32 :: l.drop (l.findIdx (fun b => b == 32) + 1) := by
      have h9 : l[l.findIdx (fun b => b == 32)] = 32 := by simpa using hb
      conv => lhs; rw [← List.take_append_drop (l.findIdx (fun b => b == 32)) l, List.drop_eq_getElem_cons hx, h9]
    rw [Go.Lib.splitK, e, if_neg (by rw [beq_iff_eq]; omega)]
    simp only [Int.toNat_natCast, Nat.add_zero, List.length_singleton]
    generalize l.findIdx (fun b => b == 32) = i at *
    have hc : (l.drop (i + 1)).count 32 = k := by
      have h2 := congrArg (List.count (32 : UInt8)) hl
      rw [List.count_append, List.count_cons_self, List.count_eq_zero.2 hn] at h2
      omega
    rw [splitK_words k _ hc]
    conv => rhs; rw [hl]
    rw [wordsL_cut _ hn]
theorem split_words (s : ByteArray) : Go.Lib.splitB ⟨#[32]⟩ 0 (Go.Lib.countB s ⟨#[32]⟩) s = words s := by
  have hd := Go.Lib.splitB_data ⟨#[32]⟩ 0 (Go.Lib.countB s ⟨#[32]⟩) s
  have hc : Go.Lib.countB s ⟨#[32]⟩ = s.data.toList.count 32 := by
    show Go.Lib.count s.data.toList [32] = _
    exact Go.Lib.count_one 32 _
  have e : (Go.Lib.splitB ⟨#[32]⟩ 0 (Go.Lib.countB s ⟨#[32]⟩) s).map (fun x => x.data.toList) = wordsL s.data.toList := by
    rw [hd]; exact splitK_words _ _ hc.symm
  unfold words
  rw [← e, List.map_map]
  exact (List.map_id'' (fun x => data_ofL x) _).symm
/-! ### parsing -/
def steps (key by_ many : Int) : List Int := (List.range many.toNat).map (fun i : Nat => key + (i : Int) * by_)
def go : List ByteArray → List Int → List Int × Int
  | [], out => (out, 0)
  | w :: ws, out => if pErr w ≠ 0 then ([], pErr w) else if 200 < (out.length : Int) + pMany w then ([], 2) else go ws (out ++ steps (pKey w) (pBy w) (pMany w))
def parse (s : ByteArray) : List Int × Int := if 2000 < s.size then ([], 2) else if s = ByteArray.empty then ([], 0) else go (words s) []
/-! ### formatting -/
def runLen : Int → Int → List Int → Nat
  | _, _, [] => 0
  | p, d, y :: r => if y = p + d then 1 + runLen y d r else 0
def run (d : Int) : List Int → Nat
  | [] => 1
  | x :: r => 1 + runLen x d r
/-- how many keys the first item takes -/
def itemN (l : List Int) : Nat := if 1 < run 0 l then run 0 l else if 2 < run 1 l then run 1 l else 1
def itemL (l : List Int) : List UInt8 := if 1 < run 0 l then dec (l.getD 0 0) ++ 42 :: dec (run 0 l) else if 2 < run 1 l then dec (l.getD 0 0) ++ 45 :: dec (l.getD 0 0 + (run 1 l : Int) - 1) else dec (l.getD 0 0)
theorem run_pos (d : Int) (l : List Int) : 1 ≤ run d l := by cases l <;> simp only [run] <;> omega
theorem itemN_pos (l : List Int) : 1 ≤ itemN l := by unfold itemN; split; omega; split <;> omega
def pieces (l : List Int) : List (List UInt8) := if h : l = [] then [] else itemL l :: pieces (l.drop (itemN l))
termination_by l.length
decreasing_by
  have := itemN_pos l
  have := List.length_pos_iff.2 h
  rw [List.length_drop]; omega
def write (l : List Int) : List UInt8 := Go.Lib.join (pieces l) [32]
def formatE (l : List Int) : Int := Lru.trace l
def format (l : List Int) : ByteArray := if Lru.trace l = 0 then ofL (write l) else ByteArray.empty
def compactE (s : ByteArray) : Int := (parse s).2
def compact (s : ByteArray) : ByteArray := if (parse s).2 = 0 then format (parse s).1 else ByteArray.empty
end Go.Sx.Trc

/- The text form of traces: what is written is read again; texts in succession. -/
namespace Go.Sx.Trc
/-! ### one item -/
theorem isD_sep {b : UInt8} (h : isD b = true) : sepB b = false ∧ b ≠ 32 := by
  have hb : 48 ≤ b.toNat ∧ b.toNat ≤ 57 := by simpa [isD] using h
  refine ⟨?_, fun e => by rw [e] at hb; exact absurd hb.1 (by decide)⟩
  unfold sepB
  have e1 : (b == 42) = false := beq_eq_false_iff_ne.2 (fun e => by rw [e] at hb; exact absurd hb.1 (by decide))
  have e2 : (b == 45) = false := beq_eq_false_iff_ne.2 (fun e => by rw [e] at hb; exact absurd hb.1 (by decide))
  rw [e1, e2]; rfl
theorem cut_none {A : List UInt8} (h : A.all isD = true) : cutI (ofL A) = -1 := by
  show idxF sepB A = -1
  exact (idxF_none fun j hj => (isD_sep (List.all_eq_true.1 h _ (List.getElem_mem hj))).1).symm
theorem cut_at {A B : List UInt8} {c : UInt8} (h : A.all isD = true) (hc : sepB c = true) : cutI (ofL (A ++ c :: B)) = (A.length : Int) := by
  show idxF sepB (A ++ c :: B) = _
  refine (idxF_found (k := A.length) (by simp) (by simpa using hc) (fun j hj hlt => ?_)).symm
  rw [List.getElem_append_left hlt]
  exact (isD_sep (List.all_eq_true.1 h _ (List.getElem_mem hlt))).1
theorem parts_at {A B : List UInt8} {c : UInt8} (h : A.all isD = true) (hc : sepB c = true) :
    pk (ofL (A ++ c :: B)) = numL A ∧ pm (ofL (A ++ c :: B)) = numL B ∧ byteAt (ofL (A ++ c :: B)) (cutI (ofL (A ++ c :: B))).toNat = c := by
  have e := cut_at (B := B) h hc
  have e2 : (cutI (ofL (A ++ c :: B))).toNat = A.length := by omega
  refine ⟨?_, ?_, ?_⟩
  · unfold pk; rw [if_neg (by omega), e2, ofL_extract, num_ofL]
    simp
  · unfold pm; rw [if_neg (by omega), e2, ofL_extract, num_ofL, ofL_size]
    congr 1
    rw [List.drop_append, List.drop_of_length_le (by omega)]
    have : A.length + 1 - A.length = 1 := by omega
    rw [this]
    simp
    rw [List.take_of_length_le (by omega)]
  · rw [e2, byteAt_ofL]
    simp [List.getD_eq_getElem?_getD]
theorem okKey_iff {n : Int} : Lru.okKey n = true ↔ 0 ≤ n ∧ n ≤ 1048576 := by simp [Lru.okKey]
theorem item_plain {k : Int} (hk : Lru.okKey k = true) : pErr (ofL (dec k)) = 0 ∧ pKey (ofL (dec k)) = k ∧ pBy (ofL (dec k)) = 0 ∧ pMany (ofL (dec k)) = 1 := by
  have h := okKey_iff.1 hk
  have hd := (dec_ok k.toNat).2.1
  have c := cut_none hd
  have ek : pk (ofL (dec k)) = k := by
    unfold pk; unfold dec; rw [if_pos (by omega)]; exact numL_dec h.1 (by omega)
  have em : pm (ofL (dec k)) = 1 := by unfold pm; unfold dec; rw [if_pos (by omega)]
  have hs : ¬ star (ofL (dec k)) := fun q => by have := q.1; unfold dec at this; omega
  have hda : ¬ dash (ofL (dec k)) := fun q => by have := q.1; unfold dec at this; omega
  have e : pErr (ofL (dec k)) = 0 := by
    unfold pErr
    rw [if_neg (by omega), if_neg (by rintro (q | q); exact hs q.1; exact hda q.1), if_neg hda, ek, if_pos hk]
  refine ⟨e, ?_, ?_, ?_⟩
  · unfold pKey; rw [if_pos e, ek]
  · unfold pBy; rw [if_neg (fun q => hda q.2)]
  · unfold pMany; rw [if_pos e, if_neg hda, em]
theorem item_star {k n : Int} (hk : Lru.okKey k = true) (h2 : 2 ≤ n) (hn : n < 10000000) :
    pErr (ofL (dec k ++ 42 :: dec n)) = 0 ∧ pKey (ofL (dec k ++ 42 :: dec n)) = k ∧ pBy (ofL (dec k ++ 42 :: dec n)) = 0 ∧ pMany (ofL (dec k ++ 42 :: dec n)) = n := by
  have h := okKey_iff.1 hk
  have hd : (dec k).all isD = true := (dec_ok k.toNat).2.1
  obtain ⟨ek, em, eb⟩ := parts_at (A := dec k) (B := dec n) (c := 42) hd rfl
  rw [numL_dec h.1 (by omega)] at ek
  rw [numL_dec (by omega) hn] at em
  have c := cut_at (A := dec k) (B := dec n) (c := 42) hd rfl
  have hda : ¬ dash (ofL (dec k ++ 42 :: dec n)) := fun q => by have := q.2; rw [eb] at this; exact absurd this (by decide)
  generalize ofL (dec k ++ 42 :: dec n) = w at *
  have e : pErr w = 0 := by
    unfold pErr
    rw [if_neg (by omega), if_neg (by rintro (q | q); have := q.2; omega; exact hda q.1), if_neg hda, ek, if_pos hk]
  refine ⟨e, ?_, ?_, ?_⟩
  · unfold pKey; rw [if_pos e, ek]
  · unfold pBy; rw [if_neg (fun q => hda q.2)]
  · unfold pMany; rw [if_pos e, if_neg hda, em]
theorem item_dash {k m : Int} (hk : 0 ≤ k) (h2 : k + 2 ≤ m) (hm : Lru.okKey m = true) :
    pErr (ofL (dec k ++ 45 :: dec m)) = 0 ∧ pKey (ofL (dec k ++ 45 :: dec m)) = k ∧ pBy (ofL (dec k ++ 45 :: dec m)) = 1 ∧ pMany (ofL (dec k ++ 45 :: dec m)) = m - k + 1 := by
  have h := okKey_iff.1 hm
  have hd : (dec k).all isD = true := (dec_ok k.toNat).2.1
  obtain ⟨ek, em, eb⟩ := parts_at (A := dec k) (B := dec m) (c := 45) hd rfl
  rw [numL_dec hk (by omega)] at ek
  rw [numL_dec (by omega) (by omega)] at em
  have c := cut_at (A := dec k) (B := dec m) (c := 45) hd rfl
  have hda : dash (ofL (dec k ++ 45 :: dec m)) := ⟨by omega, eb⟩
  have hst : ¬ star (ofL (dec k ++ 45 :: dec m)) := fun q => by have := q.2; rw [eb] at this; exact absurd this (by decide)
  generalize ofL (dec k ++ 45 :: dec m) = w at *
  have e : pErr w = 0 := by
    unfold pErr
    rw [if_neg (by omega), if_neg (by rintro (q | q); exact hst q.1; have := q.2; omega), if_pos hda, em, if_pos hm]
  refine ⟨e, ?_, ?_, ?_⟩
  · unfold pKey; rw [if_pos e, ek]
  · unfold pBy; rw [if_pos ⟨e, hda⟩]
  · unfold pMany; rw [if_pos e, if_pos hda, em, ek]
/-! ### runs -/
theorem runLen_le : ∀ (r : List Int) (p d : Int), runLen p d r ≤ r.length
  | [], _, _ => Nat.le_refl _
  | y :: r, p, d => by
    rw [runLen]; split
    · have := runLen_le r y d; simp only [List.length_cons]; omega
    · simp
theorem run_le {l : List Int} (h : l ≠ []) (d : Int) : run d l ≤ l.length := by
  match l, h with
  | x :: r, _ => have := runLen_le r x d; simp only [run, List.length_cons]; omega
theorem runLen_get : ∀ (r : List Int) (p d : Int) (i : Nat) (h : i < r.length), i < runLen p d r → r[i] = p + ((i : Int) + 1) * d
  | y :: r, p, d, i, h, hi => by
    rw [runLen] at hi
    split at hi
    · rename_i e
      cases i with
      | zero => simp; omega
      | succ i =>
        have hl : i < r.length := by simpa using h
        have := runLen_get r y d i hl (by omega)
        rw [List.getElem_cons_succ, this, e]
        have e3 : ((i + 1 : Nat) : Int) = (i : Int) + 1 := by omega
        rw [e3]
        simp only [Int.add_mul, Int.one_mul]; omega
    · omega
theorem run_get {l : List Int} {d : Int} {i : Nat} (h : i < l.length) (hi : i < run d l) : l[i] = l.getD 0 0 + (i : Int) * d := by
  match l, h with
  | x :: r, h =>
    cases i with
    | zero => simp
    | succ i =>
      have hl : i < r.length := by simpa using h
      have := runLen_get r x d i hl (by simp only [run] at hi; omega)
      rw [List.getElem_cons_succ, this]
      have e3 : ((i + 1 : Nat) : Int) = (i : Int) + 1 := by omega
      rw [e3]; simp
theorem runLen_stop : ∀ (r : List Int) (p d : Int), (h : runLen p d r < r.length) → r[runLen p d r] ≠ p + ((runLen p d r : Int) + 1) * d
  | [], _, _, h => by simp [runLen] at h
  | y :: r, p, d, h => by
    intro hq
    by_cases e : y = p + d
    · have e2 : runLen p d (y :: r) = runLen y d r + 1 := by rw [runLen, if_pos e]; omega
      simp only [e2] at h hq
      have hl : runLen y d r < r.length := by simpa using h
      rw [List.getElem_cons_succ] at hq
      refine runLen_stop r y d hl (hq.trans ?_)
      rw [e]
      have e3 : ((runLen y d r + 1 : Nat) : Int) = (runLen y d r : Int) + 1 := by omega
      rw [e] at e3
      rw [e3]
      simp only [Int.add_mul, Int.one_mul]; omega
    · have e2 : runLen p d (y :: r) = 0 := by rw [runLen, if_neg e]
      simp only [e2] at hq
      simp at hq
      omega
theorem run_stop {l : List Int} {d : Int} (hl : l ≠ []) (h : run d l < l.length) : l[run d l] ≠ l.getD 0 0 + (run d l : Int) * d := by
  match l, hl with
  | x :: r, _ =>
    have e2 : run d (x :: r) = runLen x d r + 1 := by rw [run]; omega
    intro hq
    simp only [e2] at h hq
    have h3 : runLen x d r < r.length := by simpa using h
    rw [List.getElem_cons_succ] at hq
    refine runLen_stop r x d h3 (hq.trans ?_)
    have e3 : ((runLen x d r + 1 : Nat) : Int) = (runLen x d r : Int) + 1 := by omega
    rw [e3]; rfl
/-- what a loop finds is the run -/
theorem run_eq {l : List Int} {d : Int} {n : Nat} (hl : l ≠ []) (h1 : 1 ≤ n) (hn : n ≤ l.length) (hg : ∀ i (h : i < l.length), i < n → l[i] = l.getD 0 0 + (i : Int) * d) (hs : ∀ h : n < l.length, l[n] ≠ l.getD 0 0 + (n : Int) * d) : run d l = n := by
  have hle := run_le hl d
  rcases Nat.lt_trichotomy (run d l) n with h | h | h
  · exact absurd (hg (run d l) (by omega) h) (run_stop hl (by omega))
  · exact h
  · exact absurd (run_get (by omega) h) (hs (by omega))
theorem steps_len (k d n : Int) : (steps k d n).length = n.toNat := by simp [steps]
theorem steps_run {l : List Int} (hl : l ≠ []) (d : Int) : steps (l.getD 0 0) d (run d l : Int) = l.take (run d l) := by
  have hle := run_le hl d
  apply List.ext_getElem
  · rw [steps_len, List.length_take]; omega
  · intro i h1 h2
    rw [List.getElem_take]
    rw [List.length_take] at h2
    have e := run_get (l := l) (d := d) (i := i) (by omega) (by omega)
    refine Eq.trans ?_ e.symm
    simp [steps]
theorem steps_zero {k : Int} (n : Int) (d : Int) (h : n = 1) : steps k d n = [k] := by subst h; simp [steps, List.range_succ]
/-! ### the items of a trace -/
theorem pieces_nil : pieces [] = [] := by rw [pieces, dif_pos rfl]
theorem pieces_cons {l : List Int} (h : l ≠ []) : pieces l = itemL l :: pieces (l.drop (itemN l)) := by rw [pieces, dif_neg h]
theorem itemN_le {l : List Int} (h : l ≠ []) : itemN l ≤ l.length := by
  have h0 := run_le h 0; have h1 := run_le h 1
  have := List.length_pos_iff.2 h
  unfold itemN; split
  · exact h0
  · split
    · exact h1
    · omega
theorem keys_at {l : List Int} (hk : ∀ k ∈ l, Lru.okKey k = true) {i : Nat} (h : i < l.length) : 0 ≤ l[i] ∧ l[i] ≤ 1048576 := okKey_iff.1 (hk _ (List.getElem_mem h))
theorem rise_last {l : List Int} (hl : l ≠ []) (hk : ∀ k ∈ l, Lru.okKey k = true) : Lru.okKey (l.getD 0 0 + (run 1 l : Int) - 1) = true := by
  have hle := run_le hl 1; have hp := run_pos 1 l
  have h := run_get (l := l) (d := 1) (i := run 1 l - 1) (by omega) (by omega)
  have h9 := hk _ (List.getElem_mem (show run 1 l - 1 < l.length by omega))
  rw [h] at h9
  have e : l.getD 0 0 + (run 1 l : Int) - 1 = l.getD 0 0 + ((run 1 l - 1 : Nat) : Int) * 1 := by omega
  rw [e]; exact h9
theorem first_ok {l : List Int} (hl : l ≠ []) (hk : ∀ k ∈ l, Lru.okKey k = true) : Lru.okKey (l.getD 0 0) = true := by
  match l, hl with
  | x :: r, _ => exact hk x (by simp)
theorem item_law {l : List Int} (hl : l ≠ []) (hk : ∀ k ∈ l, Lru.okKey k = true) (hn : l.length < 10000000) :
    pErr (ofL (itemL l)) = 0 ∧ pMany (ofL (itemL l)) = (itemN l : Int) ∧ steps (pKey (ofL (itemL l))) (pBy (ofL (itemL l))) (pMany (ofL (itemL l))) = l.take (itemN l) := by
  have hf := first_ok hl hk
  have h0 := run_le hl 0
  unfold itemL itemN
  by_cases h1 : 1 < run 0 l
  · simp only [if_pos h1]
    obtain ⟨e1, e2, e3, e4⟩ := item_star hf (n := (run 0 l : Int)) (by omega) (by omega)
    refine ⟨e1, e4, ?_⟩
    rw [e2, e3, e4]; exact steps_run hl 0
  · simp only [if_neg h1]
    by_cases h2 : 2 < run 1 l
    · simp only [if_pos h2]
      have hz := (okKey_iff.1 hf)
      obtain ⟨e1, e2, e3, e4⟩ := item_dash (k := l.getD 0 0) (m := l.getD 0 0 + (run 1 l : Int) - 1) hz.1 (by omega) (rise_last hl hk)
      have e5 : l.getD 0 0 + (run 1 l : Int) - 1 - l.getD 0 0 + 1 = (run 1 l : Int) := by omega
      rw [e5] at e4
      refine ⟨e1, e4, ?_⟩
      rw [e2, e3, e4]; exact steps_run hl 1
    · simp only [if_neg h2]
      obtain ⟨e1, e2, e3, e4⟩ := item_plain hf
      refine ⟨e1, e4, ?_⟩
      rw [e2, e3, e4, steps_zero 1 0 rfl]
      match l, hl with
      | x :: r, _ => rfl
theorem go_pieces : ∀ (n : Nat) (l : List Int), l.length = n → (∀ k ∈ l, Lru.okKey k = true) → ∀ out : List Int, out.length + l.length ≤ 200 → go ((pieces l).map ofL) out = (out ++ l, 0) := by
  intro n
  induction n using Nat.strongRecOn with
  | ind n ih =>
    intro l hn hk out ho
    by_cases hl : l = []
    · subst hl; rw [pieces_nil]; simp [go]
    · rw [pieces_cons hl, List.map_cons, go]
      have hp := itemN_pos l; have hle := itemN_le hl
      obtain ⟨e1, e2, e3⟩ := item_law hl hk (by omega)
      rw [if_neg (fun q => q e1), if_neg (by omega), e3]
      have := ih (l.drop (itemN l)).length (by rw [List.length_drop]; omega) (l.drop (itemN l)) rfl (fun k hm => hk k (List.mem_of_mem_drop hm)) (out ++ l.take (itemN l)) (by simp only [List.length_append, List.length_take, List.length_drop]; omega)
      rw [this, List.append_assoc, List.take_append_drop]
/-! ### the text -/
theorem dec_digit {n : Int} {b : UInt8} (h : b ∈ dec n) : isD b = true := List.all_eq_true.1 (dec_ok n.toNat).2.1 b h
theorem item_nospace (l : List Int) : (32 : UInt8) ∉ itemL l ∧ itemL l ≠ [] := by
  have hd : ∀ n : Int, (32 : UInt8) ∉ dec n := fun n h => (isD_sep (dec_digit h)).2 rfl
  have hne : ∀ n : Int, dec n ≠ [] := fun n => (dec_ok n.toNat).1
  unfold itemL
  split
  · exact ⟨by simp [hd], by simp⟩
  · split
    · exact ⟨by simp [hd], by simp⟩
    · exact ⟨hd _, hne _⟩
theorem pieces_nospace : ∀ (n : Nat) (l : List Int), l.length = n → ∀ p ∈ pieces l, (32 : UInt8) ∉ p := by
  intro n
  induction n using Nat.strongRecOn with
  | ind n ih =>
    intro l hn p hp
    by_cases hl : l = []
    · subst hl; rw [pieces_nil] at hp; cases hp
    · rw [pieces_cons hl] at hp
      rcases List.mem_cons.1 hp with e | e
      · rw [e]; exact (item_nospace l).1
      · have h1 := itemN_pos l; have h2 := List.length_pos_iff.2 hl
        exact ih (l.drop (itemN l)).length (by rw [List.length_drop]; omega) _ rfl p e
theorem join_two (x y : List UInt8) (r : List (List UInt8)) : Go.Lib.join (x :: y :: r) [32] = x ++ 32 :: Go.Lib.join (y :: r) [32] := by
  rw [Go.Lib.join_cons, Go.Lib.join_cons]
  simp [Go.Lib.joinTail]
theorem wordsL_pieces : ∀ {ps : List (List UInt8)}, ps ≠ [] → (∀ p ∈ ps, (32 : UInt8) ∉ p) → wordsL (Go.Lib.join ps [32]) = ps
  | [x], _, h => by rw [Go.Lib.join_one]; exact wordsL_plain (h x (by simp))
  | x :: y :: r, _, h => by
    rw [join_two, wordsL_cut _ (h x (by simp)), wordsL_pieces (ps := y :: r) (by simp) (fun p hp => h p (by simp [hp]))]
theorem dec_len7 {n : Int} (h : n < 10000000) : (dec n).length ≤ 7 := dec_len 6 n.toNat (by omega)
theorem dec_len3 {n : Int} (h : n < 1000) : (dec n).length ≤ 3 := dec_len 2 n.toNat (by omega)
theorem item_len {l : List Int} (hl : l ≠ []) (hk : ∀ k ∈ l, Lru.okKey k = true) (hn : l.length ≤ 200) : (itemL l).length + 1 ≤ 8 * itemN l := by
  have hf := okKey_iff.1 (first_ok hl hk)
  have h7 := dec_len7 (n := l.getD 0 0) (by omega)
  have h0 := run_le hl 0
  unfold itemL itemN
  split
  · have h3 := dec_len3 (n := (run 0 l : Int)) (by omega)
    simp only [List.length_append, List.length_cons]; omega
  · split
    · have hr := okKey_iff.1 (rise_last hl hk)
      have h8 := dec_len7 (n := l.getD 0 0 + (run 1 l : Int) - 1) (by omega)
      simp only [List.length_append, List.length_cons]; omega
    · omega
theorem joinTail_len (ps : List (List UInt8)) : (Go.Lib.joinTail [32] ps).length = (ps.map (fun p => p.length + 1)).sum := by
  induction ps with
  | nil => rfl
  | cons x r ih =>
    have : Go.Lib.joinTail [32] (x :: r) = 32 :: x ++ Go.Lib.joinTail [32] r := by simp [Go.Lib.joinTail]
    rw [this]; simp only [List.length_append, List.length_cons, ih, List.map_cons, List.sum_cons]
theorem join_len_le (ps : List (List UInt8)) : (Go.Lib.join ps [32]).length ≤ (ps.map (fun p => p.length + 1)).sum := by
  cases ps with
  | nil => simp [Go.Lib.join_nil]
  | cons x r => rw [Go.Lib.join_cons, List.length_append, joinTail_len]; simp only [List.map_cons, List.sum_cons]; omega
theorem pieces_len : ∀ (n : Nat) (l : List Int), l.length = n → l.length ≤ 200 → (∀ k ∈ l, Lru.okKey k = true) → ((pieces l).map (fun p => p.length + 1)).sum ≤ 8 * l.length ∧ (pieces l).length ≤ l.length := by
  intro n
  induction n using Nat.strongRecOn with
  | ind n ih =>
    intro l hn h2 hk
    by_cases hl : l = []
    · subst hl; rw [pieces_nil]; simp
    · have h1 := itemN_pos l; have h3 := List.length_pos_iff.2 hl; have hle := itemN_le hl
      have hi := item_len hl hk h2
      obtain ⟨i1, i2⟩ := ih (l.drop (itemN l)).length (by rw [List.length_drop]; omega) (l.drop (itemN l)) rfl (by rw [List.length_drop]; omega) (fun k hm => hk k (List.mem_of_mem_drop hm))
      rw [pieces_cons hl]
      rw [List.length_drop] at i1 i2
      simp only [List.map_cons, List.sum_cons, List.length_cons]
      omega
theorem write_len {l : List Int} (hn : l.length ≤ 200) (hk : ∀ k ∈ l, Lru.okKey k = true) : (write l).length ≤ 8 * l.length := Nat.le_trans (join_len_le _) (pieces_len _ l rfl hn hk).1
theorem write_nil : write [] = [] := by unfold write; rw [pieces_nil]; rfl
theorem write_ne {l : List Int} (hl : l ≠ []) : write l ≠ [] := by
  unfold write
  rw [pieces_cons hl, Go.Lib.join_cons]
  have := (item_nospace l).2
  simp [this]
theorem trace_ok {l : List Int} : Lru.trace l = 0 ↔ l.length ≤ 200 ∧ ∀ k ∈ l, Lru.okKey k = true := by
  unfold Lru.trace
  split
  · constructor
    · intro h; omega
    · intro h; omega
  · split
    · rename_i h
      obtain ⟨x, hx, h2⟩ := List.any_eq_true.1 h
      constructor
      · intro q; omega
      · intro q; have := q.2 x hx; simp [this] at h2
    · rename_i h1 h
      refine ⟨fun _ => ⟨by omega, fun k hk => ?_⟩, fun _ => rfl⟩
      cases hq : Lru.okKey k with
      | true => rfl
      | false => exact absurd (List.any_eq_true.2 ⟨k, hk, by simp [hq]⟩) h
/-- parsing what was written -/
theorem round_trip {l : List Int} (h : Lru.trace l = 0) : parse (ofL (write l)) = (l, 0) := by
  obtain ⟨hn, hk⟩ := trace_ok.1 h
  have hw := write_len hn hk
  unfold parse
  rw [if_neg (by rw [ofL_size]; omega)]
  by_cases hl : l = []
  · subst hl; rw [write_nil, if_pos empty_ofL.symm]
  · rw [if_neg (fun e => write_ne hl (eq_empty.1 e))]
    have e : words (ofL (write l)) = (pieces l).map ofL := by
      show (wordsL (write l)).map ofL = _
      unfold write
      rw [wordsL_pieces (by rw [pieces_cons hl]; simp) (pieces_nospace _ l rfl)]
    rw [e, go_pieces _ l rfl hk [] (by simpa using hn)]; rfl
/-! ### what parsing gives is a right trace -/
theorem cut_sign {w : ByteArray} (hs : 0 ≤ cutI w) : star w ∨ dash w := by
  have hsep : sepB (byteAt w (cutI w).toNat) = true := by
    have hs' := hs
    unfold cutI at hs' ⊢
    rcases idxF_cases sepB w.data.toList with ⟨k, hk, e, e2, _⟩ | ⟨e, _⟩
    · rw [e]
      have : byteAt w k = w.data.toList[k] := by
        conv => lhs; rw [← data_ofL w]
        rw [byteAt_ofL, List.getD_eq_getElem?_getD, List.getElem?_eq_getElem hk]; rfl
      rw [show ((k : Int)).toNat = k by omega, this]; exact e2
    · omega
  unfold sepB at hsep
  rw [Bool.or_eq_true] at hsep
  rcases hsep with q | q
  · exact .inl ⟨hs, by simpa using q⟩
  · exact .inr ⟨hs, by simpa using q⟩
theorem pErr_parts {w : ByteArray} (h : pErr w = 0) : 0 ≤ pk w ∧ 0 ≤ pm w ∧ (star w → 2 ≤ pm w) ∧ (dash w → pk w + 2 ≤ pm w ∧ pm w ≤ 1048576) ∧ (¬ dash w → pk w ≤ 1048576) := by
  unfold pErr at h
  by_cases h1 : pk w < 0 ∨ pm w < 0
  · rw [if_pos h1] at h; omega
  · rw [if_neg h1] at h
    by_cases h2 : (star w ∧ pm w < 2) ∨ (dash w ∧ pm w < pk w + 2)
    · rw [if_pos h2] at h; omega
    · rw [if_neg h2] at h
      have h3 : Lru.okKey (if dash w then pm w else pk w) = true := by
        cases hq : Lru.okKey (if dash w then pm w else pk w) with
        | true => rfl
        | false => rw [hq] at h; exact absurd h (by decide)
      have hst : star w → 2 ≤ pm w := fun q => by
        by_cases hx : pm w < 2
        · exact absurd (.inl ⟨q, hx⟩) h2
        · omega
      have hds : dash w → pk w + 2 ≤ pm w := fun q => by
        by_cases hx : pm w < pk w + 2
        · exact absurd (.inr ⟨q, hx⟩) h2
        · omega
      refine ⟨by omega, by omega, hst, fun q => ?_, fun q => ?_⟩
      · rw [if_pos q] at h3
        have := okKey_iff.1 h3
        exact ⟨hds q, this.2⟩
      · rw [if_neg q] at h3
        exact (okKey_iff.1 h3).2
theorem pErr_ok {w : ByteArray} (h : pErr w = 0) : 0 ≤ pKey w ∧ 1 ≤ pMany w ∧ (pBy w = 0 ∨ pBy w = 1) ∧ pKey w + (pMany w - 1) * pBy w ≤ 1048576 := by
  obtain ⟨h1, h2, h3, h4, h5⟩ := pErr_parts h
  unfold pKey pMany pBy
  rw [if_pos h, if_pos h]
  by_cases hd : dash w
  · rw [if_pos hd, if_pos ⟨h, hd⟩]
    have := h4 hd
    refine ⟨h1, by omega, .inr rfl, by omega⟩
  · rw [if_neg hd, if_neg (fun q => hd q.2)]
    have h6 := h5 hd
    refine ⟨h1, ?_, .inl rfl, by omega⟩
    by_cases hs : 0 ≤ cutI w
    · rcases cut_sign hs with q | q
      · have := h3 q; omega
      · exact absurd q hd
    · have : pm w = 1 := by unfold pm; rw [if_pos (by omega)]
      omega
theorem steps_ok {w : ByteArray} (h : pErr w = 0) : ∀ k ∈ steps (pKey w) (pBy w) (pMany w), Lru.okKey k = true := by
  obtain ⟨h1, h2, h3, h4⟩ := pErr_ok h
  intro k hk
  obtain ⟨i, hi, rfl⟩ := List.mem_map.1 hk
  have hi' := List.mem_range.1 hi
  rw [okKey_iff]
  rcases h3 with e | e <;> rw [e] at h4 ⊢ <;> omega
theorem go_ok : ∀ (ws : List ByteArray) (out : List Int), out.length ≤ 200 → (∀ k ∈ out, Lru.okKey k = true) → (go ws out).2 = 0 → (go ws out).1.length ≤ 200 ∧ ∀ k ∈ (go ws out).1, Lru.okKey k = true
  | [], out, h1, h2, _ => ⟨h1, h2⟩
  | w :: ws, out, h1, h2, h3 => by
    rw [go] at h3 ⊢
    by_cases e : pErr w = 0
    · rw [if_neg (fun q => q e)] at h3 ⊢
      by_cases e2 : 200 < (out.length : Int) + pMany w
      · rw [if_pos e2] at h3; exact absurd h3 (by decide)
      · rw [if_neg e2] at h3 ⊢
        refine go_ok ws _ ?_ ?_ h3
        · rw [List.length_append, steps_len]
          obtain ⟨q1, q2, q3, q4⟩ := pErr_ok e
          omega
        · intro k hk
          rcases List.mem_append.1 hk with hk | hk
          · exact h2 k hk
          · exact steps_ok e k hk
    · rw [if_pos e] at h3; exact absurd h3 e
theorem parse_ok {s : ByteArray} (h : (parse s).2 = 0) : Lru.trace (parse s).1 = 0 := by
  rw [trace_ok]
  unfold parse at h ⊢
  split at h
  · exact absurd h (by decide)
  · rename_i h1
    rw [if_neg h1]
    split
    · exact ⟨by simp, by simp⟩
    · rename_i h2
      rw [if_neg h2] at h
      exact go_ok _ [] (by simp) (by simp) h
theorem go_bad : ∀ (ws : List ByteArray) (out : List Int), (go ws out).2 ≠ 0 → (go ws out).1 = []
  | [], _, h => absurd rfl h
  | w :: ws, out, h => by
    rw [go] at h ⊢
    split
    · rfl
    · rename_i h1
      rw [if_neg h1] at h
      split
      · rfl
      · rename_i h2
        rw [if_neg h2] at h
        exact go_bad ws _ h
theorem parse_bad {s : ByteArray} (h : (parse s).2 ≠ 0) : (parse s).1 = [] := by
  unfold parse at h ⊢
  split
  · rfl
  · rename_i h1
    rw [if_neg h1] at h
    split
    · rfl
    · rename_i h2
      rw [if_neg h2] at h
      exact go_bad _ _ h
/-! ### compact -/
theorem compact_law {s : ByteArray} (h : (parse s).2 = 0) : parse (compact s) = ((parse s).1, 0) ∧ compact (compact s) = compact s := by
  have hp := parse_ok h
  have e : compact s = ofL (write (parse s).1) := by unfold compact format; rw [if_pos h, if_pos hp]
  have hr := round_trip hp
  rw [← e] at hr
  refine ⟨hr, ?_⟩
  have e2 : compact (compact s) = format (parse (compact s)).1 := by rw [compact, if_pos (by rw [hr])]
  rw [e2, hr]
  conv => rhs; rw [compact, if_pos h]
/-! ### joins -/
theorem go_cons {w : ByteArray} (ws : List ByteArray) (out : List Int) (e : pErr w = 0) (e2 : ¬ 200 < (out.length : Int) + pMany w) : go (w :: ws) out = go ws (out ++ steps (pKey w) (pBy w) (pMany w)) := by
  rw [go, if_neg (fun q => q e), if_neg e2]
theorem go_head {w : ByteArray} {ws : List ByteArray} {out : List Int} (h : (go (w :: ws) out).2 = 0) : pErr w = 0 ∧ ¬ 200 < (out.length : Int) + pMany w := by
  rw [go] at h
  by_cases e : pErr w = 0
  · refine ⟨e, fun e2 => ?_⟩
    rw [if_neg (fun q => q e), if_pos e2] at h
    exact absurd h (by decide)
  · rw [if_pos e] at h; exact absurd h e
theorem go_append : ∀ (v ws : List ByteArray) (out : List Int), (go v out).2 = 0 → go (v ++ ws) out = go ws (go v out).1
  | [], ws, out, _ => rfl
  | w :: v, ws, out, h => by
    obtain ⟨e, e2⟩ := go_head h
    rw [go_cons v out e e2] at h ⊢
    rw [List.cons_append, go_cons (v ++ ws) out e e2]
    exact go_append v ws _ h
theorem go_grow : ∀ (ws : List ByteArray) (o : List Int), (go ws o).2 = 0 → ∃ q, (go ws o).1 = o ++ q
  | [], o, _ => ⟨[], by simp [go]⟩
  | w :: ws, o, h => by
    obtain ⟨e, e2⟩ := go_head h
    rw [go_cons ws o e e2] at h ⊢
    obtain ⟨q, hq⟩ := go_grow ws _ h
    exact ⟨steps (pKey w) (pBy w) (pMany w) ++ q, by rw [hq, List.append_assoc]⟩
theorem go_shift : ∀ (ws : List ByteArray) (o out : List Int), (go ws o).2 = 0 → out.length + (go ws o).1.length ≤ 200 → go ws (out ++ o) = (out ++ (go ws o).1, 0)
  | [], o, out, _, _ => rfl
  | w :: ws, o, out, h, hl => by
    obtain ⟨e, e2⟩ := go_head h
    obtain ⟨q1, q2, q3, q4⟩ := pErr_ok e
    have hsl := steps_len (pKey w) (pBy w) (pMany w)
    rw [go_cons ws o e e2] at h hl ⊢
    obtain ⟨q, hq⟩ := go_grow ws _ h
    have hl2 := hl
    rw [hq] at hl2
    simp only [List.length_append] at hl2
    rw [go_cons ws (out ++ o) e (by rw [List.length_append]; omega), List.append_assoc]
    exact go_shift ws _ out h hl
theorem go_over : ∀ (ws : List ByteArray) (o out : List Int), (go ws o).2 = 0 → out.length + o.length ≤ 200 → 200 < out.length + (go ws o).1.length → (go ws (out ++ o)).2 = 2
  | [], o, out, _, h1, h2 => by simp only [go] at h2; omega
  | w :: ws, o, out, h, h1, h2 => by
    obtain ⟨e, e2⟩ := go_head h
    obtain ⟨q1, q2, q3, q4⟩ := pErr_ok e
    have hsl := steps_len (pKey w) (pBy w) (pMany w)
    rw [go_cons ws o e e2] at h h2
    by_cases e3 : 200 < ((out ++ o).length : Int) + pMany w
    · rw [go, if_neg (fun q => q e), if_pos e3]
    · rw [go_cons ws (out ++ o) e e3, List.append_assoc]
      refine go_over ws _ out h ?_ h2
      simp only [List.length_append] at e3 ⊢
      omega
theorem words_ne (s : ByteArray) : words s ≠ [] := by unfold words; simp [wordsL_ne]
theorem words_join (s t : ByteArray) : words (s ++ ofL [32] ++ t) = words s ++ words t := by
  have e : s ++ ofL [32] ++ t = ofL (s.data.toList ++ 32 :: t.data.toList) := by
    conv => lhs; rw [← data_ofL s, ← data_ofL t]
    rw [ofL_append, ofL_append]; simp
  rw [e]
  show (wordsL (s.data.toList ++ 32 :: t.data.toList)).map ofL = _
  rw [wordsL_join, List.map_append]; rfl
theorem parse_pos {s : ByteArray} (h0 : s ≠ ByteArray.empty) (hs : s.size ≤ 2000) : parse s = go (words s) [] := by
  unfold parse; rw [if_neg (by omega), if_neg h0]
theorem parse_small {s : ByteArray} (h : (parse s).2 = 0) : s.size ≤ 2000 := by
  unfold parse at h
  split at h
  · exact absurd h (by decide)
  · omega
theorem joins {s t : ByteArray} (hs : (parse s).2 = 0) (ht : (parse t).2 = 0) (h1 : s ≠ ByteArray.empty) (h2 : t ≠ ByteArray.empty) :
    if (200 < (parse s).1.length + (parse t).1.length ∨ 2000 ≤ s.size + t.size) then (parse (s ++ ofL [32] ++ t)).2 = 2 else parse (s ++ ofL [32] ++ t) = ((parse s).1 ++ (parse t).1, 0) := by
  have hsz : (s ++ ofL [32] ++ t).size = s.size + 1 + t.size := by rw [ByteArray.size_append, ByteArray.size_append, ofL_size]; rfl
  have hne : s ++ ofL [32] ++ t ≠ ByteArray.empty := fun e => by have := congrArg ByteArray.size e; rw [hsz] at this; simp at this
  have hso := trace_ok.1 (parse_ok hs)
  have p1 := parse_pos h1 (parse_small hs); have p2 := parse_pos h2 (parse_small ht)
  by_cases hb : 2000 ≤ s.size + t.size
  · rw [if_pos (.inr hb)]; unfold parse; rw [if_pos (by omega)]
  · rw [parse_pos hne (by omega), words_join]
    have hg := go_append (words s) (words t) [] (by rw [← p1]; exact hs)
    rw [← p1] at hg
    have ht' : (go (words t) []).2 = 0 := by rw [← p2]; exact ht
    rw [hg]
    by_cases hl : 200 < (parse s).1.length + (parse t).1.length
    · rw [if_pos (.inl hl)]
      have hf := go_over (words t) [] (parse s).1 ht' (by simpa using hso.1) (by rw [← p2]; exact hl)
      rw [List.append_nil] at hf
      exact hf
    · rw [if_neg (by rintro (q | q); exact hl q; exact hb q)]
      have hf := go_shift (words t) [] (parse s).1 ht' (by rw [← p2]; omega)
      rw [List.append_nil, ← p2] at hf
      exact hf
end Go.Sx.Trc

/- The text form of traces: what the loops keep. -/
namespace Go.Sx.Trc
/-! ### runs -/
structure RI (l : List Int) (d : Int) (n : Nat) : Prop where
  pos : 1 ≤ n
  le : n ≤ l.length
  at_ : ∀ i (h : i < l.length), i < n → l[i] = l.getD 0 0 + (i : Int) * d
theorem RI.start {l : List Int} (h : l ≠ []) (d : Int) : RI l d 1 :=
  ⟨Nat.le_refl _, List.length_pos_iff.2 h, fun i hi h1 => by
    have : i = 0 := by omega
    subst this
    match l, h with
    | x :: r, _ => simp⟩
theorem getD_eq {l : List Int} {n : Nat} (h : n < l.length) : l.getD n default = l[n] := (getd_at h default).symm
theorem key_bd {l : List Int} (h : ∀ k ∈ l, Lru.okKey k = true) (n : Nat) : 0 ≤ l.getD n default ∧ l.getD n default ≤ 1048576 := by
  by_cases hn : n < l.length
  · rw [getD_eq hn]; exact okKey_iff.1 (h _ (List.getElem_mem hn))
  · rw [List.getD_eq_getElem?_getD, List.getElem?_eq_none (by omega)]
    show 0 ≤ (0 : Int) ∧ (0 : Int) ≤ 1048576
    omega
theorem RI.put {l : List Int} {d : Int} {n : Nat} (h : RI l d n) (hn : n < l.length) (e : l[n] = l.getD 0 0 + (n : Int) * d) : RI l d (n + 1) :=
  ⟨by omega, by omega, fun i hi h1 => by
    by_cases h2 : i < n
    · exact h.at_ i hi h2
    · have : i = n := by omega
      subst this; exact e⟩
theorem RI.prev {l : List Int} {d : Int} {n : Nat} (h : RI l d n) (hn : n < l.length) : l.getD ((n : Int) - 1).toNat default + d = l.getD 0 0 + (n : Int) * d := by
  have hp := h.pos
  have e : ((n : Int) - 1).toNat = n - 1 := by omega
  rw [e, getD_eq (by omega), h.at_ (n - 1) (by omega) (by omega)]
  have e2 : (n : Int) = ((n - 1 : Nat) : Int) + 1 := by omega
  rw [e2]; simp only [Int.add_mul, Int.one_mul]; omega
theorem RI.next {l : List Int} {d : Int} {n : Nat} (h : RI l d n) (hn : n < l.length) (e : l.getD n default = l.getD ((n : Int) - 1).toNat default + d) : RI l d (n + 1) :=
  h.put hn (by rw [← getD_eq hn, e, h.prev hn])
theorem RI.run {l : List Int} {d : Int} {n : Nat} (h : RI l d n) (hl : l ≠ []) (hs : ∀ hn : n < l.length, l[n] ≠ l.getD 0 0 + (n : Int) * d) : Trc.run d l = n := run_eq hl h.pos h.le h.at_ hs
theorem RI.done {l : List Int} {d : Int} {n : Nat} (h : RI l d n) (hl : l ≠ []) (hc : (l.length : Int) ≤ (n : Int) ∨ ¬ l.getD n default = l.getD ((n : Int) - 1).toNat default + d) : (n : Int) = (Trc.run d l : Int) := by
  rw [h.run hl (fun hn hq => by
    rcases hc with hc | hc
    · omega
    · exact hc (by rw [getD_eq hn, h.prev hn]; exact hq))]
theorem RI.next0 {l : List Int} {n : Nat} (h : RI l 0 n) (hn : n < l.length) (e : l.getD n default = l.getD 0 default) : RI l 0 (n + 1) :=
  h.put hn (by rw [← getD_eq hn, e]; show l.getD 0 default = l.getD 0 default + (n : Int) * 0; omega)
theorem RI.next1 {l : List Int} {n : Nat} (h : RI l 1 n) (hn : n < l.length) (e : l.getD n default = l.getD 0 default + (n : Int)) : RI l 1 (n + 1) :=
  h.put hn (by rw [← getD_eq hn, e]; show l.getD 0 default + (n : Int) = l.getD 0 default + (n : Int) * 1; omega)
theorem RI.done0 {l : List Int} {n : Nat} (h : RI l 0 n) (hl : l ≠ []) (hc : (l.length : Int) ≤ (n : Int) ∨ ¬ l.getD n default = l.getD 0 default) : Trc.run 0 l = n :=
  h.run hl (fun hn hq => by
    rcases hc with hc | hc
    · omega
    · refine hc ?_
      rw [getD_eq hn, hq]; show l.getD 0 default + (n : Int) * 0 = l.getD 0 default; omega)
theorem RI.done1 {l : List Int} {n : Nat} (h : RI l 1 n) (hl : l ≠ []) (hc : (l.length : Int) ≤ (n : Int) ∨ ¬ l.getD n default = l.getD 0 default + (n : Int)) : Trc.run 1 l = n :=
  h.run hl (fun hn hq => by
    rcases hc with hc | hc
    · omega
    · refine hc ?_
      rw [getD_eq hn, hq]; show l.getD 0 default + (n : Int) * 1 = l.getD 0 default + (n : Int); omega)
/-! ### a number -/
def trimT (s cs : ByteArray) : ByteArray := ofL (Go.Lib.trimS s.data.toList cs.data.toList)
theorem size_len (s : ByteArray) : s.size = s.data.toList.length := Go.Lib.size_eq s
theorem nil_eq {s : ByteArray} : s = ByteArray.mk #[] ↔ s.data.toList = [] := by
  constructor
  · intro h; rw [h]
  · intro h; rw [← data_ofL s, h]; rfl
theorem first_eq {s : ByteArray} : ((byteAt s 0).toNat : Int) = 48 ↔ s.data.toList.getD 0 0 = 48 := by
  have e : byteAt s 0 = s.data.toList.getD 0 0 := by conv => lhs; rw [← data_ofL s]
                                                     rw [byteAt_ofL]
  rw [e]
  constructor
  · intro h; exact UInt8.toNat_inj.1 (by have : (48 : UInt8).toNat = 48 := rfl; omega)
  · intro h; rw [h]; rfl
theorem trim_eq {s : ByteArray} : trimT s (ByteArray.mk #[48, 49, 50, 51, 52, 53, 54, 55, 56, 57]) = ByteArray.mk #[] ↔ s.data.toList.all isD = true := by
  rw [← trim_nil]
  exact eq_empty
theorem num_bad {s : ByteArray} (h : ((s = ByteArray.mk #[] ∨ 7 < (s.size : Int)) ∨ (1 < (s.size : Int) ∧ ((byteAt s 0).toNat : Int) = 48)) ∨ ¬ trimT s (ByteArray.mk #[48, 49, 50, 51, 52, 53, 54, 55, 56, 57]) = ByteArray.mk #[]) : -1 = num s := by
  symm
  unfold num numL
  rw [if_neg]
  rintro ⟨h1, h2, h3, h4⟩
  rw [size_len] at h
  rcases h with ((h | h) | h) | h
  · exact h1 (nil_eq.1 h)
  · omega
  · exact h3 ⟨by omega, first_eq.1 h.2⟩
  · exact h (trim_eq.2 h4)
theorem num_cond {s : ByteArray} (h : ((¬ s = ByteArray.mk #[] ∧ (s.size : Int) ≤ 7) ∧ ((s.size : Int) ≤ 1 ∨ ¬ ((byteAt s 0).toNat : Int) = 48)) ∧ trimT s (ByteArray.mk #[48, 49, 50, 51, 52, 53, 54, 55, 56, 57]) = ByteArray.mk #[]) : numOk s.data.toList := by
  obtain ⟨⟨⟨h1, h2⟩, h3⟩, h4⟩ := h
  rw [size_len] at h2 h3
  refine ⟨fun e => h1 (nil_eq.2 e), by omega, fun ⟨q1, q2⟩ => ?_, trim_eq.1 h4⟩
  rcases h3 with h3 | h3
  · omega
  · exact h3 (first_eq.2 q2)
/-! ### a piece -/
theorem pk_ge (w : ByteArray) : -1 ≤ pk w ∧ pk w ≤ 9999999 := by unfold pk; split <;> exact num_ge _
theorem pm_ge (w : ByteArray) : -1 ≤ pm w ∧ pm w ≤ 9999999 := by
  unfold pm; split
  · omega
  · exact num_ge _
theorem pk_cut {w : ByteArray} (h : 0 ≤ cutI w) : num (w.extract 0 (cutI w).toNat) = pk w ∧ num (w.extract ((cutI w + 1).toNat) w.size) = pm w := by
  unfold pk pm
  rw [if_neg (by omega), if_neg (by omega), show (cutI w + 1).toNat = (cutI w).toNat + 1 by omega]
  exact ⟨rfl, rfl⟩
def badForm (w : ByteArray) : Prop := (star w ∧ pm w < 2) ∨ (dash w ∧ pm w < pk w + 2)
instance (w : ByteArray) : Decidable (badForm w) := by unfold badForm; infer_instance
theorem byte_eq {b c : UInt8} {n : Int} (hn : (c.toNat : Int) = n) : (b.toNat : Int) = n ↔ b = c := by
  constructor
  · intro h; exact UInt8.toNat_inj.1 (by omega)
  · intro h; rw [h]; exact hn
theorem star_of {w : ByteArray} : (0 ≤ cutI w ∧ ((byteAt w (cutI w).toNat).toNat : Int) = 42) ↔ star w := by
  unfold star; rw [byte_eq (c := 42) (n := 42) rfl]
theorem dash_iff {w : ByteArray} : (0 ≤ cutI w ∧ ((byteAt w (cutI w).toNat).toNat : Int) = 45) ↔ dash w := by
  unfold dash; rw [byte_eq (c := 45) (n := 45) rfl]
theorem dash_of {w : ByteArray} (h : 0 ≤ cutI w ∧ ((byteAt w (cutI w).toNat).toNat : Int) = 45) : dash w := dash_iff.1 h
theorem dash_no {w : ByteArray} (h : cutI w < 0 ∨ ¬ ((byteAt w (cutI w).toNat).toNat : Int) = 45) : ¬ dash w := fun q => by
  have := dash_iff.2 q; omega
theorem bad_star {w : ByteArray} {key many : Int} (_ : key = pk w) (e2 : many = pm w) (h : (0 ≤ cutI w ∧ ((byteAt w (cutI w).toNat).toNat : Int) = 42) ∧ many < 2) : badForm w := .inl ⟨star_of.1 h.1, by omega⟩
theorem bad_rest {w : ByteArray} {key many : Int} (e1 : key = pk w) (e2 : many = pm w) (h : (cutI w < 0 ∨ ¬ ((byteAt w (cutI w).toNat).toNat : Int) = 42) ∨ 2 ≤ many) :
    ((decide (0 ≤ cutI w) && (((byteAt w (cutI w).toNat).toNat : Int) == 45)) && decide (many < key + 2)) = decide (badForm w) := by
  rw [Bool.eq_iff_iff]
  simp only [Bool.and_eq_true, decide_eq_true_eq, beq_iff_eq]
  unfold badForm
  rw [← star_of, ← dash_iff, e1, e2] at *
  constructor
  · intro q; exact .inr q
  · rintro (q | q)
    · exfalso; omega
    · exact q
theorem piece_bad {w : ByteArray} {e : Int} (he : pErr w = e) (hn : e ≠ 0) : (0 : Int) = pKey w ∧ (0 : Int) = pBy w ∧ (0 : Int) = pMany w ∧ e = pErr w := by
  unfold pKey pBy pMany
  rw [if_neg (by omega), if_neg (by omega), if_neg (by omega)]
  exact ⟨rfl, rfl, rfl, he.symm⟩
section
variable {w : ByteArray} {key many : Int} (e1 : key = pk w) (e2 : many = pm w)
include e1 e2
theorem piece_e1 (h : key < 0 ∨ many < 0) : (0 : Int) = pKey w ∧ (0 : Int) = pBy w ∧ (0 : Int) = pMany w ∧ (1 : Int) = pErr w :=
  piece_bad (by unfold pErr; rw [if_pos (by omega)]) (by decide)
theorem piece_e2 (h : 0 ≤ key ∧ 0 ≤ many) (hb : decide (badForm w) = true) : (0 : Int) = pKey w ∧ (0 : Int) = pBy w ∧ (0 : Int) = pMany w ∧ (1 : Int) = pErr w :=
  piece_bad (by unfold pErr; rw [if_neg (by omega), if_pos (show (star w ∧ pm w < 2) ∨ (dash w ∧ pm w < pk w + 2) from of_decide_eq_true hb)]) (by decide)
theorem err_last (h : 0 ≤ key ∧ 0 ≤ many) (hb : decide (badForm w) = false) : pErr w = if Lru.okKey (if dash w then pm w else pk w) then 0 else 3 := by
  unfold pErr; rw [if_neg (by omega), if_neg (show ¬ ((star w ∧ pm w < 2) ∨ (dash w ∧ pm w < pk w + 2)) from of_decide_eq_false hb)]
theorem piece_e3 (h : 0 ≤ key ∧ 0 ≤ many) (hb : decide (badForm w) = false) (hd : dash w) (hk : Lru.okKey many = false) : (0 : Int) = pKey w ∧ (0 : Int) = pBy w ∧ (0 : Int) = pMany w ∧ (3 : Int) = pErr w :=
  piece_bad (by rw [err_last e1 e2 h hb, if_pos hd, ← e2, hk]; rfl) (by decide)
theorem piece_e4 (h : 0 ≤ key ∧ 0 ≤ many) (hb : decide (badForm w) = false) (hd : ¬ dash w) (hk : Lru.okKey key = false) : (0 : Int) = pKey w ∧ (0 : Int) = pBy w ∧ (0 : Int) = pMany w ∧ (3 : Int) = pErr w :=
  piece_bad (by rw [err_last e1 e2 h hb, if_neg hd, ← e1, hk]; rfl) (by decide)
theorem piece_o1 (h : 0 ≤ key ∧ 0 ≤ many) (hb : decide (badForm w) = false) (hd : dash w) (hk : Lru.okKey many = true) : key = pKey w ∧ (1 : Int) = pBy w ∧ many - key + 1 = pMany w ∧ (0 : Int) = pErr w := by
  have e : pErr w = 0 := by rw [err_last e1 e2 h hb, if_pos hd, ← e2, hk]; rfl
  unfold pKey pBy pMany
  rw [if_pos e, if_pos ⟨e, hd⟩, if_pos e, if_pos hd, e1, e2]
  exact ⟨rfl, rfl, rfl, e.symm⟩
theorem piece_o2 (h : 0 ≤ key ∧ 0 ≤ many) (hb : decide (badForm w) = false) (hd : ¬ dash w) (hk : Lru.okKey key = true) : key = pKey w ∧ (0 : Int) = pBy w ∧ many = pMany w ∧ (0 : Int) = pErr w := by
  have e : pErr w = 0 := by rw [err_last e1 e2 h hb, if_neg hd, ← e1, hk]; rfl
  unfold pKey pBy pMany
  rw [if_pos e, if_neg (fun q => hd q.2), if_pos e, if_neg hd, e1, e2]
  exact ⟨rfl, rfl, rfl, e.symm⟩
end
/-! ### parsing -/
theorem wordsL_len : ∀ (l : List UInt8), ∀ w ∈ wordsL l, w.length ≤ l.length
  | [], w, h => by simp [wordsL] at h; subst h; simp
  | b :: l, w, h => by
    rw [wordsL] at h
    split at h
    · rcases List.mem_cons.1 h with e | e
      · subst e; simp
      · have := wordsL_len l w e; simp only [List.length_cons]; omega
    · cases hq : wordsL l with
      | nil => rw [hq] at h; simp at h; subst h; simp
      | cons v r =>
        rw [hq] at h
        rcases List.mem_cons.1 h with e | e
        · subst e; have := wordsL_len l v (by rw [hq]; simp); simp only [List.length_cons]; omega
        · have := wordsL_len l w (by rw [hq]; simp [e]); simp only [List.length_cons]; omega
theorem word_size (s : ByteArray) (k : Nat) : ((words s).getD k default).size ≤ s.size := by
  by_cases hk : k < (words s).length
  · rw [← getd_at hk default]
    obtain ⟨w, hw, e⟩ := List.mem_map.1 (List.getElem_mem hk)
    rw [← e, ofL_size, size_len]
    exact wordsL_len _ w hw
  · rw [List.getD_eq_getElem?_getD, List.getElem?_eq_none (by omega)]
    show ByteArray.empty.size ≤ _
    simp
structure PI (s : ByteArray) (out : List Int) (k : Nat) : Prop where
  le : k ≤ (words s).length
  eq : go ((words s).drop k) out = parse s
  len : out.length ≤ 200
theorem PI.start {s : ByteArray} (h1 : (s.size : Int) ≤ 2000) (h2 : ¬ s = ByteArray.mk #[]) : PI s [] 0 := ⟨Nat.zero_le _, (parse_pos h2 (by omega)).symm, by simp⟩
theorem PI.split {s : ByteArray} {out : List Int} {k : Nat} (h : PI s out k) (hk : k < (words s).length) : go ((words s).getD k default :: (words s).drop (k + 1)) out = parse s := by
  rw [← getd_at hk default, ← List.drop_eq_getElem_cons hk]; exact h.eq
theorem PI.bad {s : ByteArray} {out : List Int} {k : Nat} (h : PI s out k) (hk : k < (words s).length) (he : ¬ pErr ((words s).getD k default) = 0) : [] = (parse s).1 ∧ pErr ((words s).getD k default) = (parse s).2 := by
  rw [← h.split hk, go, if_pos he]; exact ⟨rfl, rfl⟩
theorem PI.many {s : ByteArray} {out : List Int} {k : Nat} (h : PI s out k) (hk : k < (words s).length) (he : pErr ((words s).getD k default) = 0) (hm : 200 < (out.length : Int) + pMany ((words s).getD k default)) : [] = (parse s).1 ∧ 2 = (parse s).2 := by
  rw [← h.split hk, go, if_neg (fun q => q he), if_pos hm]; exact ⟨rfl, rfl⟩
theorem PI.next {s : ByteArray} {out o2 : List Int} {k : Nat} (h : PI s out k) (hk : k < (words s).length) (he : pErr ((words s).getD k default) = 0) (hm : (out.length : Int) + pMany ((words s).getD k default) ≤ 200)
    (ho : o2 = out ++ steps (pKey ((words s).getD k default)) (pBy ((words s).getD k default)) (pMany ((words s).getD k default))) : PI s o2 (k + 1) := by
  refine ⟨by omega, ?_, ?_⟩
  · rw [← h.split hk, go_cons _ _ he (by omega), ho]
  · rw [ho, List.length_append, steps_len]
    have := (pErr_ok he).2.1
    omega
theorem PI.done {s : ByteArray} {out : List Int} {k : Nat} (h : PI s out k) (hk : (words s).length ≤ k) : out = (parse s).1 ∧ 0 = (parse s).2 := by
  have e := h.eq
  rw [List.drop_of_length_le hk] at e
  rw [← e]; exact ⟨rfl, rfl⟩
theorem parse_big {s : ByteArray} (h : 2000 < (s.size : Int)) : [] = (parse s).1 ∧ 2 = (parse s).2 := by unfold parse; rw [if_pos (by omega)]; exact ⟨rfl, rfl⟩
theorem parse_none {s : ByteArray} (h : s = ByteArray.mk #[]) : [] = (parse s).1 ∧ 0 = (parse s).2 := by
  unfold parse
  have : ¬ 2000 < s.size := by rw [h]; decide
  rw [if_neg this, if_pos (show s = ByteArray.empty from h)]; exact ⟨rfl, rfl⟩
/-- what a loop appends -/
structure AI (out : List Int) (key by_ many : Int) (o2 : List Int) (j : Nat) : Prop where
  le : (j : Int) ≤ max many 0
  eq : o2 = out ++ steps key by_ (j : Int)
theorem AI.start (out : List Int) (key by_ many : Int) : AI out key by_ many out 0 := ⟨by omega, by simp [steps]⟩
theorem steps_succ (key by_ : Int) (j : Nat) : steps key by_ ((j + 1 : Nat) : Int) = steps key by_ (j : Int) ++ [key + (j : Int) * by_] := by
  unfold steps
  rw [Int.toNat_natCast, Int.toNat_natCast, List.range_succ, List.map_append]; rfl
theorem AI.next {out o2 : List Int} {key by_ many : Int} {j : Nat} (h : AI out key by_ many o2 j) (hj : (j : Int) < many) : AI out key by_ many (o2 ++ [key + (j : Int) * by_]) (j + 1) :=
  ⟨by omega, by rw [h.eq, steps_succ, List.append_assoc]⟩
theorem AI.next1 {out o2 : List Int} {key many : Int} {j : Nat} (h : AI out key 1 many o2 j) (hj : (j : Int) < many) : AI out key 1 many (o2 ++ [key + (j : Int)]) (j + 1) := by
  have := h.next hj; rwa [Int.mul_one] at this
theorem AI.next0 {out o2 : List Int} {key many : Int} {j : Nat} (h : AI out key 0 many o2 j) (hj : (j : Int) < many) : AI out key 0 many (o2 ++ [key]) (j + 1) := by
  have := h.next hj; rwa [Int.mul_zero, Int.add_zero] at this
theorem AI.len {out o2 : List Int} {key by_ many : Int} {j : Nat} (h : AI out key by_ many o2 j) : o2.length = out.length + j := by
  rw [h.eq, List.length_append, steps_len]; omega
theorem AI.done {out o2 : List Int} {key by_ many : Int} {j : Nat} (h : AI out key by_ many o2 j) (h0 : 0 ≤ many) (hj : many ≤ (j : Int)) : o2 = out ++ steps key by_ many := by
  have : (j : Int) = many := by have := h.le; omega
  rw [h.eq, this]
theorem mul_by (w : ByteArray) (j : Nat) : 0 ≤ (j : Int) * pBy w ∧ (j : Int) * pBy w ≤ (j : Int) := by
  unfold pBy; split <;> omega
theorem pKey_bd (w : ByteArray) : 0 ≤ pKey w ∧ pKey w ≤ 9999999 ∧ 0 ≤ pMany w ∧ pMany w ≤ 10000000 := by
  by_cases h : pErr w = 0
  · obtain ⟨h1, h2, _, _⟩ := pErr_ok h
    have := pk_ge w; have := pm_ge w
    have hp := pErr_parts h
    refine ⟨h1, by unfold pKey; rw [if_pos h]; omega, by omega, ?_⟩
    unfold pMany; rw [if_pos h]; split <;> omega
  · unfold pKey pMany; rw [if_neg h, if_neg h]; omega
/-! ### the reference's reading -/
structure NI (s : ByteArray) (n : Int) (i : Nat) : Prop where
  le : i ≤ s.size
  i7 : i ≤ 7
  all : (s.data.toList.take i).all isD = true
  eq : n = (value (s.data.toList.take i) : Int)
theorem NI.start (s : ByteArray) : NI s 0 0 := ⟨Nat.zero_le _, by decide, rfl, rfl⟩
theorem NI.bd {s : ByteArray} {n : Int} {i : Nat} (h : NI s n i) : 0 ≤ n ∧ n ≤ 9999999 := by
  have h1 := value_lt h.all
  have h2 : 10 ^ (s.data.toList.take i).length ≤ 10 ^ 7 := Nat.pow_le_pow_right (by decide) (by rw [List.length_take]; have := h.i7; omega)
  have := h.eq; omega
theorem byte_get {s : ByteArray} {i : Nat} (h : i < s.size) : s.data.toList[i]'(by rw [← size_len]; exact h) = byteAt s i := by
  conv => rhs; rw [← data_ofL s]
  rw [byteAt_ofL, List.getD_eq_getElem?_getD, List.getElem?_eq_getElem (by rw [← size_len]; exact h)]; rfl
theorem NI.next {s : ByteArray} {n : Int} {i : Nat} (h : NI s n i) (hi : i < s.size) (h1 : 48 ≤ ((byteAt s i).toNat : Int)) (h2 : ((byteAt s i).toNat : Int) ≤ 57) (h6 : (i : Int) ≤ 6) : NI s (10 * n + (IntKind.i64.wrap (IntKind.u8.wrap (((byteAt s i).toNat : Int) - 48)))) (i + 1) := by
  have hl : i < s.data.toList.length := by rw [← size_len]; exact hi
  have e : s.data.toList.take (i + 1) = s.data.toList.take i ++ [byteAt s i] := by
    rw [← byte_get hi]; exact List.take_succ_eq_append_getElem hl
  have ew : IntKind.i64.wrap (IntKind.u8.wrap (((byteAt s i).toNat : Int) - 48)) = ((byteAt s i).toNat : Int) - 48 := by
    have a : IntKind.u8.wrap (((byteAt s i).toNat : Int) - 48) = ((byteAt s i).toNat : Int) - 48 := by
      rw [IntKind.wrap_u8]; omega
    rw [a]
    exact wrap_i64 (by omega)
  refine ⟨hi, by omega, ?_, ?_⟩
  · rw [e, List.all_append, h.all]; simp [isD]; omega
  · rw [e, value_snoc, ew, h.eq]; omega
end Go.Sx.Trc

/- The text form of traces: how the reference reads and writes. -/
namespace Go.Sx.Trc
theorem NI.bad {s : ByteArray} {n : Int} {i : Nat} (_ : NI s n i) (hi : i < s.size) (hb : ((byteAt s i).toNat : Int) < 48 ∨ 57 < ((byteAt s i).toNat : Int)) : -1 = num s := by
  symm; unfold num numL
  rw [if_neg]
  rintro ⟨_, _, _, h4⟩
  have hl : i < s.data.toList.length := by rw [← size_len]; exact hi
  have := List.all_eq_true.1 h4 _ (List.getElem_mem hl)
  rw [byte_get hi] at this
  simp [isD] at this; omega
theorem NI.long {s : ByteArray} {n : Int} {i : Nat} (_ : NI s n i) (hi : i < s.size) (h6 : 6 < (i : Int)) : -1 = num s := by
  symm; unfold num numL
  rw [if_neg]
  rintro ⟨_, h2, _, _⟩
  rw [size_len] at hi; omega
theorem NI.bad2 {s : ByteArray} (h : s = ByteArray.mk #[] ∨ (1 < (s.size : Int) ∧ ((byteAt s 0).toNat : Int) = 48)) : -1 = num s := by
  symm; unfold num numL
  rw [if_neg]
  rintro ⟨h1, _, h3, _⟩
  rw [size_len] at h
  rcases h with h | h
  · exact h1 (nil_eq.1 h)
  · exact h3 ⟨by omega, first_eq.1 h.2⟩
theorem NI.done {s : ByteArray} {n : Int} {i : Nat} (h : NI s n i) (hi : s.size ≤ i) (hc : ¬ s = ByteArray.mk #[] ∧ ((s.size : Int) ≤ 1 ∨ ¬ ((byteAt s 0).toNat : Int) = 48)) : n = num s := by
  have e : s.data.toList.take i = s.data.toList := List.take_of_length_le (by rw [← size_len]; exact hi)
  have h7 := h.i7; have ha := h.all; have hn := h.eq
  rw [e] at ha hn
  unfold num numL
  rw [if_pos]
  · exact hn
  · have hs := size_len s
    refine ⟨fun q => hc.1 (nil_eq.2 q), by omega, fun ⟨q1, q2⟩ => ?_, ha⟩
    rcases hc.2 with q | q
    · omega
    · exact q (first_eq.2 q2)
/-! ### digits -/
theorem decS_small {n : Int} (h0 : 0 ≤ n) (h : n < 10) : (ByteArray.mk #[48, 49, 50, 51, 52, 53, 54, 55, 56, 57]).extract n.toNat (n + 1).toNat = decS n := by
  have e : ∀ k : Fin 10, (ByteArray.mk #[48, 49, 50, 51, 52, 53, 54, 55, 56, 57]).extract k.val (k.val + 1) = ofL [UInt8.ofNat (48 + k.val)] := by decide +kernel
  unfold decS dec
  rw [dec_small (n := n.toNat) (by omega)]
  have := e ⟨n.toNat, by omega⟩
  rw [show (n + 1).toNat = n.toNat + 1 by omega]
  exact this
theorem tdiv10 {n : Int} (h : 0 ≤ n) : n.tdiv 10 = ((n.toNat / 10 : Nat) : Int) ∧ n.tmod 10 = ((n.toNat % 10 : Nat) : Int) := by
  obtain ⟨m, rfl⟩ : ∃ m : Nat, n = (m : Int) := ⟨n.toNat, by omega⟩
  rw [Int.toNat_natCast]
  exact ⟨Int.ofNat_tdiv m 10 ▸ rfl, rfl⟩
theorem decS_big {n : Int} (h0 : 0 ≤ n) (h : 10 ≤ n) : decS (n.tdiv 10) ++ decS (n.tmod 10) = decS n := by
  obtain ⟨e1, e2⟩ := tdiv10 h0
  unfold decS dec
  rw [e1, e2, Int.toNat_natCast, Int.toNat_natCast, ofL_append, dec_big (n := n.toNat) (by omega), dec_small (n := n.toNat % 10) (by omega)]
theorem decS_sz {n : Int} (h : n < 10000000) : (decS n).size ≤ 7 := by unfold decS; rw [ofL_size]; exact dec_len7 h
/-! ### the reference's text -/
theorem write_cons {l : List Int} (h : l ≠ []) : write l = if itemN l < l.length then itemL l ++ 32 :: write (l.drop (itemN l)) else itemL l := by
  unfold write
  rw [pieces_cons h]
  have hle := itemN_le h
  split
  · rename_i hn
    have hd : l.drop (itemN l) ≠ [] := fun e => by have := congrArg List.length e; rw [List.length_drop] at this; simp at this; omega
    rw [pieces_cons hd, join_two]
  · rename_i hn
    rw [List.drop_of_length_le (by omega), pieces_nil, Go.Lib.join_one]
theorem run0_one {l : List Int} (hl : l ≠ []) : 1 < run 0 l ↔ 1 < l.length ∧ l.getD 1 default = l.getD 0 default := by
  constructor
  · intro h
    have hle := run_le hl 0
    refine ⟨by omega, ?_⟩
    rw [getD_eq (by omega), run_get (d := 0) (by omega) h]
    show l.getD 0 default + ((1 : Nat) : Int) * 0 = l.getD 0 default; omega
  · rintro ⟨h1, h2⟩
    by_cases hq : 1 < run 0 l
    · exact hq
    · have hp := run_pos 0 l
      have e : run 0 l = 1 := by omega
      have := run_stop (d := 0) hl (by omega)
      simp only [e] at this
      exfalso; refine this ?_
      rw [← getD_eq h1, h2]; show l.getD 0 default = l.getD 0 default + ((1 : Nat) : Int) * 0; omega
theorem run1_two {l : List Int} (hl : l ≠ []) : 2 < run 1 l ↔ (2 < l.length ∧ l.getD 1 default = l.getD 0 default + 1) ∧ l.getD 2 default = l.getD 0 default + 2 := by
  constructor
  · intro h
    have hle := run_le hl 1
    refine ⟨⟨by omega, ?_⟩, ?_⟩
    · rw [getD_eq (by omega), run_get (d := 1) (by omega) (by omega)]; show l.getD 0 default + ((1 : Nat) : Int) * 1 = _; omega
    · rw [getD_eq (by omega), run_get (d := 1) (by omega) h]; show l.getD 0 default + ((2 : Nat) : Int) * 1 = _; omega
  · rintro ⟨⟨h1, h2⟩, h3⟩
    by_cases hq : 2 < run 1 l
    · exact hq
    · have hp := run_pos 1 l
      exfalso
      have hs := run_stop (d := 1) hl (by omega)
      rcases (show run 1 l = 1 ∨ run 1 l = 2 by omega) with e | e
      · simp only [e] at hs; refine hs ?_
        rw [← getD_eq (show 1 < l.length by omega), h2]; show _ = l.getD 0 default + ((1 : Nat) : Int) * 1; omega
      · simp only [e] at hs; refine hs ?_
        rw [← getD_eq h1, h3]; show _ = l.getD 0 default + ((2 : Nat) : Int) * 1; omega
theorem item_star_eq {l : List Int} (h : 1 < run 0 l) : itemN l = run 0 l ∧ itemL l = dec (l.getD 0 default) ++ 42 :: dec (run 0 l : Int) := by
  unfold itemN itemL; rw [if_pos h, if_pos h]; exact ⟨rfl, rfl⟩
theorem item_dash_eq {l : List Int} (h : ¬ 1 < run 0 l) (h2 : 2 < run 1 l) : itemN l = run 1 l ∧ itemL l = dec (l.getD 0 default) ++ 45 :: dec (l.getD 0 default + (run 1 l : Int) - 1) := by
  unfold itemN itemL; rw [if_neg h, if_neg h, if_pos h2, if_pos h2]; exact ⟨rfl, rfl⟩
theorem item_one_eq {l : List Int} (h : ¬ 1 < run 0 l) (h2 : ¬ 2 < run 1 l) : itemN l = 1 ∧ itemL l = dec (l.getD 0 default) := by
  unfold itemN itemL; rw [if_neg h, if_neg h, if_neg h2, if_neg h2]; exact ⟨rfl, rfl⟩
theorem sign_add (c : UInt8) (a b : List UInt8) : ofL a ++ ((ByteArray.mk #[c]) ++ ofL b) = ofL (a ++ c :: b) := by
  have : (ByteArray.mk #[c]) = ofL [c] := rfl
  rw [this, ofL_append, ofL_append]; simp
section
variable {l : List Int} {n : Nat} (hl : l ≠ [])
include hl
theorem w_star1 (h : 1 < (l.length : Int) ∧ l.getD 1 default = l.getD 0 default) (hr : run 0 l = n) (hn : (n : Int) < (l.length : Int)) :
    (decS (l.getD 0 default) ++ ((ByteArray.mk #[42]) ++ decS (n : Int))) ++ ((ByteArray.mk #[32]) ++ ofL (write (l.drop n))) = ofL (write l) := by
  have h1 : 1 < run 0 l := (run0_one hl).2 ⟨by omega, h.2⟩
  obtain ⟨e1, e2⟩ := item_star_eq h1
  rw [write_cons hl, e1, if_pos (by omega), e2, hr]
  unfold decS; rw [sign_add, sign_add]
theorem w_star0 (h : 1 < (l.length : Int) ∧ l.getD 1 default = l.getD 0 default) (hr : run 0 l = n) (hn : (l.length : Int) ≤ (n : Int)) :
    decS (l.getD 0 default) ++ ((ByteArray.mk #[42]) ++ decS (n : Int)) = ofL (write l) := by
  have h1 : 1 < run 0 l := (run0_one hl).2 ⟨by omega, h.2⟩
  obtain ⟨e1, e2⟩ := item_star_eq h1
  rw [write_cons hl, e1, if_neg (by omega), e2, hr]
  unfold decS; rw [sign_add]
theorem no_star (h : (l.length : Int) ≤ 1 ∨ ¬ l.getD 1 default = l.getD 0 default) : ¬ 1 < run 0 l := fun q => by
  have := (run0_one hl).1 q; omega
theorem w_dash1 (h0 : (l.length : Int) ≤ 1 ∨ ¬ l.getD 1 default = l.getD 0 default) (h : (2 < (l.length : Int) ∧ l.getD 1 default = l.getD 0 default + 1) ∧ l.getD 2 default = l.getD 0 default + 2) (hr : run 1 l = n) (hn : (n : Int) < (l.length : Int)) :
    (decS (l.getD 0 default) ++ ((ByteArray.mk #[45]) ++ decS (l.getD 0 default + (n : Int) - 1))) ++ ((ByteArray.mk #[32]) ++ ofL (write (l.drop n))) = ofL (write l) := by
  have h1 : 2 < run 1 l := (run1_two hl).2 ⟨⟨by omega, h.1.2⟩, h.2⟩
  obtain ⟨e1, e2⟩ := item_dash_eq (no_star hl h0) h1
  rw [write_cons hl, e1, if_pos (by omega), e2, hr]
  unfold decS; rw [sign_add, sign_add]
theorem w_dash0 (h0 : (l.length : Int) ≤ 1 ∨ ¬ l.getD 1 default = l.getD 0 default) (h : (2 < (l.length : Int) ∧ l.getD 1 default = l.getD 0 default + 1) ∧ l.getD 2 default = l.getD 0 default + 2) (hr : run 1 l = n) (hn : (l.length : Int) ≤ (n : Int)) :
    decS (l.getD 0 default) ++ ((ByteArray.mk #[45]) ++ decS (l.getD 0 default + (n : Int) - 1)) = ofL (write l) := by
  have h1 : 2 < run 1 l := (run1_two hl).2 ⟨⟨by omega, h.1.2⟩, h.2⟩
  obtain ⟨e1, e2⟩ := item_dash_eq (no_star hl h0) h1
  rw [write_cons hl, e1, if_neg (by omega), e2, hr]
  unfold decS; rw [sign_add]
theorem no_dash (h : ((l.length : Int) ≤ 2 ∨ ¬ l.getD 1 default = l.getD 0 default + 1) ∨ ¬ l.getD 2 default = l.getD 0 default + 2) : ¬ 2 < run 1 l := fun q => by
  have := (run1_two hl).1 q; omega
theorem w_one1 (h0 : (l.length : Int) ≤ 1 ∨ ¬ l.getD 1 default = l.getD 0 default) (h : ((l.length : Int) ≤ 2 ∨ ¬ l.getD 1 default = l.getD 0 default + 1) ∨ ¬ l.getD 2 default = l.getD 0 default + 2) (hn : 1 < (l.length : Int)) :
    decS (l.getD 0 default) ++ ((ByteArray.mk #[32]) ++ ofL (write (l.drop 1))) = ofL (write l) := by
  obtain ⟨e1, e2⟩ := item_one_eq (no_star hl h0) (no_dash hl h)
  rw [write_cons hl, e1, if_pos (by omega), e2]
  unfold decS; rw [sign_add]
theorem w_one0 (h0 : (l.length : Int) ≤ 1 ∨ ¬ l.getD 1 default = l.getD 0 default) (h : ((l.length : Int) ≤ 2 ∨ ¬ l.getD 1 default = l.getD 0 default + 1) ∨ ¬ l.getD 2 default = l.getD 0 default + 2) (hn : (l.length : Int) ≤ 1) :
    decS (l.getD 0 default) = ofL (write l) := by
  obtain ⟨e1, e2⟩ := item_one_eq (no_star hl h0) (no_dash hl h)
  rw [write_cons hl, e1, if_neg (by omega), e2]; rfl
end
theorem w_nil {l : List Int} (h : (l.length : Int) = 0) : ByteArray.mk #[] = ofL (write l) := by
  have : l = [] := List.eq_nil_of_length_eq_zero (by omega)
  subst this; rw [write_nil]; rfl
theorem len_ne {l : List Int} (h : ¬ (l.length : Int) = 0) : l ≠ [] := fun e => h (by rw [e]; rfl)
theorem write_sz {l : List Int} (h : Lru.trace l = 0) (n : Nat) : (ofL (write (l.drop n))).size ≤ 1600 := by
  obtain ⟨h1, h2⟩ := trace_ok.1 h
  have := write_len (l := l.drop n) (by rw [List.length_drop]; omega) (fun k hk => h2 k (List.mem_of_mem_drop hk))
  rw [ofL_size]; rw [List.length_drop] at this; omega
theorem trace_drop {l : List Int} (h : Lru.trace l = 0) (n : Nat) : Lru.trace (l.drop n) = 0 := by
  obtain ⟨h1, h2⟩ := trace_ok.1 h
  exact trace_ok.2 ⟨by rw [List.length_drop]; omega, fun k hk => h2 k (List.mem_of_mem_drop hk)⟩
end Go.Sx.Trc

/- The text form of traces: how the reference cuts a text. -/
namespace Go.Sx.Trc
structure KI (w : ByteArray) (cut k : Int) : Prop where
  lo : -1 ≤ k
  kc : k < cut
  hi : cut ≤ (w.size : Int)
  no : ∀ j : Nat, k < (j : Int) → (j : Int) < cut → sepB (byteAt w j) = false
  at_ : cut < (w.size : Int) → sepB (byteAt w cut.toNat) = true
theorem KI.start (w : ByteArray) : KI w (w.size : Int) ((w.size : Int) - 1) := ⟨by omega, by omega, by omega, fun j h1 h2 => by omega, fun h => by omega⟩
theorem sep_iff {b : UInt8} : sepB b = true ↔ (b.toNat : Int) = 42 ∨ (b.toNat : Int) = 45 := by
  unfold sepB
  rw [Bool.or_eq_true, beq_iff_eq, beq_iff_eq, byte_eq (c := 42) (n := 42) rfl, byte_eq (c := 45) (n := 45) rfl]
theorem KI.hit {w : ByteArray} {cut k : Int} (h : KI w cut k) (h0 : 0 ≤ k) (hb : ((byteAt w k.toNat).toNat : Int) = 42 ∨ ((byteAt w k.toNat).toNat : Int) = 45) : KI w k (k - 1) :=
  ⟨by omega, by omega, by have := h.kc; have := h.hi; omega, fun j h1 h2 => by omega, fun _ => sep_iff.2 hb⟩
theorem KI.miss {w : ByteArray} {cut k : Int} (h : KI w cut k) (h0 : 0 ≤ k) (hb : ¬ ((byteAt w k.toNat).toNat : Int) = 42 ∧ ¬ ((byteAt w k.toNat).toNat : Int) = 45) : KI w cut (k - 1) :=
  ⟨by omega, by have := h.kc; omega, h.hi, fun j h1 h2 => by
    by_cases hk : k < (j : Int)
    · exact h.no j hk h2
    · have e : j = k.toNat := by omega
      rw [e]
      cases hq : sepB (byteAt w k.toNat) with
      | false => rfl
      | true => have := sep_iff.1 hq; omega, h.at_⟩
structure RW (w : ByteArray) (cut : Int) : Prop where
  lo : 0 ≤ cut
  hi : cut ≤ (w.size : Int)
  eq : cutI w = if cut < (w.size : Int) then cut else -1
theorem KI.done {w : ByteArray} {cut k : Int} (h : KI w cut k) (hk : k < 0) : RW w cut := by
  have hlo := h.lo; have hkc := h.kc; have hhi := h.hi
  have hs := size_len w
  refine ⟨by omega, hhi, ?_⟩
  have hget : ∀ j (hj : j < w.data.toList.length), w.data.toList[j] = byteAt w j := fun j hj => byte_get (by rw [hs]; exact hj)
  split
  · rename_i hc
    have e : cut = ((cut.toNat : Nat) : Int) := by omega
    rw [e]
    refine (idxF_found (by omega) ?_ (fun j hj hlt => ?_)).symm
    · rw [hget]; exact h.at_ hc
    · rw [hget]; exact h.no j (by omega) (by omega)
  · rename_i hc
    exact (idxF_none fun j hj => by rw [hget]; exact h.no j (by omega) (by omega)).symm
section
variable {w : ByteArray} {cut b : Int} (h : RW w cut)
include h
theorem rw_pk : num (w.extract 0 cut.toNat) = pk w := by
  have he := h.eq
  unfold pk
  by_cases hc : cut < (w.size : Int)
  · rw [if_pos hc] at he
    rw [he, if_neg (by have := h.lo; omega)]
  · rw [if_neg hc] at he
    rw [he, if_pos (by decide)]
    have : cut.toNat = w.size := by have := h.hi; omega
    rw [this, ByteArray.extract_zero_size]
theorem rw_pm (hb : b = if cut < (w.size : Int) then num (w.extract (cut + 1).toNat w.size) else 0) : pm w = if cut < (w.size : Int) then b else 1 := by
  have he := h.eq
  unfold pm
  by_cases hc : cut < (w.size : Int)
  · rw [if_pos hc] at he hb ⊢
    rw [he, if_neg (by have := h.lo; omega), hb, show (cut + 1).toNat = cut.toNat + 1 by have := h.lo; omega]
  · rw [if_neg hc] at he ⊢
    rw [he, if_pos (by decide)]
theorem rw_star : star w ↔ cut < (w.size : Int) ∧ ((byteAt w cut.toNat).toNat : Int) = 42 := by
  have he := h.eq; have hlo := h.lo
  rw [← star_of]
  by_cases hc : cut < (w.size : Int)
  · rw [if_pos hc] at he; rw [he]; constructor
    · rintro ⟨_, q⟩; exact ⟨hc, q⟩
    · rintro ⟨_, q⟩; exact ⟨hlo, q⟩
  · rw [if_neg hc] at he; rw [he]; constructor
    · rintro ⟨q, _⟩; exact absurd q (by decide)
    · rintro ⟨q, _⟩; exact absurd q hc
theorem rw_dash : dash w ↔ cut < (w.size : Int) ∧ ((byteAt w cut.toNat).toNat : Int) = 45 := by
  have he := h.eq; have hlo := h.lo
  rw [← dash_iff]
  by_cases hc : cut < (w.size : Int)
  · rw [if_pos hc] at he; rw [he]; constructor
    · rintro ⟨_, q⟩; exact ⟨hc, q⟩
    · rintro ⟨_, q⟩; exact ⟨hlo, q⟩
  · rw [if_neg hc] at he; rw [he]; constructor
    · rintro ⟨q, _⟩; exact absurd q (by decide)
    · rintro ⟨q, _⟩; exact absurd q hc
variable (hb : b = if cut < (w.size : Int) then num (w.extract (cut + 1).toNat w.size) else 0)
include hb
theorem rw_form (hf : ((num (w.extract 0 cut.toNat) < 0 ∨ b < 0) ∨ (cut < (w.size : Int) ∧ ((byteAt w cut.toNat).toNat : Int) = 42) ∧ b < 2) ∨ (cut < (w.size : Int) ∧ ((byteAt w cut.toNat).toNat : Int) = 45) ∧ b < num (w.extract 0 cut.toNat) + 2) : pErr w = 1 := by
  rw [rw_pk h] at hf
  rw [← rw_star h, ← rw_dash h] at hf
  have hpm := rw_pm h hb
  unfold pErr
  by_cases h1 : pk w < 0 ∨ pm w < 0
  · rw [if_pos h1]
  · rw [if_neg h1, if_pos]
    have hcs : ∀ q : star w ∨ dash w, pm w = b := fun q => by
      rw [hpm, if_pos]
      rcases q with q | q
      · exact ((rw_star h).1 q).1
      · exact ((rw_dash h).1 q).1
    rcases hf with ((q | q) | q) | q
    · exact absurd (.inl q) h1
    · by_cases hc : cut < (w.size : Int)
      · rw [if_pos hc] at hpm; exfalso; omega
      · rw [if_neg hc] at hb; omega
    · exact .inl ⟨q.1, by rw [hcs (.inl q.1)]; exact q.2⟩
    · exact .inr ⟨q.1, by rw [hcs (.inr q.1)]; exact q.2⟩
variable (hf : ((0 ≤ num (w.extract 0 cut.toNat) ∧ 0 ≤ b) ∧ (((w.size : Int) ≤ cut ∨ ¬ ((byteAt w cut.toNat).toNat : Int) = 42) ∨ 2 ≤ b)) ∧ (((w.size : Int) ≤ cut ∨ ¬ ((byteAt w cut.toNat).toNat : Int) = 45) ∨ num (w.extract 0 cut.toNat) + 2 ≤ b))
include hf
theorem rw_err : pErr w = if Lru.okKey (if dash w then pm w else pk w) then 0 else 3 := by
  have hpm := rw_pm h hb
  have hs := rw_star h; have hd := rw_dash h
  rw [rw_pk h] at hf
  unfold pErr
  have hp : 0 ≤ pm w := by rw [hpm]; split <;> omega
  have hcs : ∀ q : star w ∨ dash w, pm w = b := fun q => by
    rw [hpm, if_pos]
    rcases q with q | q
    · exact (hs.1 q).1
    · exact (hd.1 q).1
  rw [if_neg (by omega), if_neg]
  rintro (⟨q1, q2⟩ | ⟨q1, q2⟩)
  · rw [hcs (.inl q1)] at q2; have := hs.1 q1; omega
  · rw [hcs (.inr q1)] at q2; have := hd.1 q1; omega
theorem rw_range (hr : 1048576 < num (w.extract 0 cut.toNat) ∨ (cut < (w.size : Int) ∧ ((byteAt w cut.toNat).toNat : Int) = 45) ∧ 1048576 < b) : pErr w = 3 := by
  have he := rw_err h hb hf
  have hpm := rw_pm h hb
  rw [rw_pk h] at hf hr
  rw [← rw_dash h] at hr
  have hd := rw_dash h
  rw [he]
  have : Lru.okKey (if dash w then pm w else pk w) = false := by
    cases hq : Lru.okKey (if dash w then pm w else pk w) with
    | false => rfl
    | true =>
      exfalso
      have hk := okKey_iff.1 hq
      by_cases q : dash w
      · rw [if_pos q, hpm, if_pos (hd.1 q).1] at hk
        have := hd.1 q
        rcases hr with r | r <;> omega
      · rw [if_neg q] at hk
        rcases hr with r | r
        · omega
        · exact q r.1
  rw [this]; rfl
variable (hr : num (w.extract 0 cut.toNat) ≤ 1048576 ∧ (((w.size : Int) ≤ cut ∨ ¬ ((byteAt w cut.toNat).toNat : Int) = 45) ∨ b ≤ 1048576))
include hr
theorem rw_ok : pErr w = 0 ∧ num (w.extract 0 cut.toNat) = pKey w := by
  have he := rw_err h hb hf
  have hpm := rw_pm h hb
  have hd := rw_dash h
  have hpk := rw_pk h
  rw [hpk] at hf hr
  have e0 : pErr w = 0 := by
    rw [he]
    have : Lru.okKey (if dash w then pm w else pk w) = true := by
      rw [okKey_iff]
      by_cases q : dash w
      · rw [if_pos q, hpm, if_pos (hd.1 q).1]
        have := hd.1 q; omega
      · rw [if_neg q]; omega
    rw [this]; rfl
  exact ⟨e0, by rw [hpk]; unfold pKey; rw [if_pos e0]⟩
theorem rw_many {m1 m2 : Int} (h1 : m1 = if (cut < (w.size : Int) ∧ ((byteAt w cut.toNat).toNat : Int) = 42) then b else 1) (h2 : m2 = if (cut < (w.size : Int) ∧ ((byteAt w cut.toNat).toNat : Int) = 45) then b - num (w.extract 0 cut.toNat) + 1 else m1) : m2 = pMany w := by
  obtain ⟨e0, e1⟩ := rw_ok h hb hf hr
  have hpm := rw_pm h hb
  have hs := rw_star h; have hd := rw_dash h
  unfold pMany
  rw [if_pos e0]
  by_cases q : dash w
  · rw [if_pos q, h2, if_pos (hd.1 q), rw_pk h, hpm, if_pos (hd.1 q).1]
  · rw [if_neg q, h2, if_neg (fun z => q (hd.2 z)), h1]
    by_cases q2 : star w
    · rw [if_pos (hs.1 q2), hpm, if_pos (hs.1 q2).1]
    · rw [if_neg (fun z => q2 (hs.2 z)), hpm]
      by_cases hc : cut < (w.size : Int)
      · exfalso
        have he := h.eq
        rw [if_pos hc] at he
        rcases cut_sign (w := w) (by rw [he]; exact h.lo) with z | z
        · exact q2 z
        · exact q z
      · rw [if_neg hc]
theorem rw_rise {out o2 : List Int} {m2 : Int} {j : Nat} (hI : AI out (pKey w) (pBy w) m2 o2 j) (hj : (j : Int) < m2) (hR : cut < (w.size : Int) ∧ ((byteAt w cut.toNat).toNat : Int) = 45) : AI out (pKey w) (pBy w) m2 (o2 ++ [num (w.extract 0 cut.toNat) + (j : Int)]) (j + 1) := by
  obtain ⟨e0, e1⟩ := rw_ok h hb hf hr
  have e : pBy w = 1 := by unfold pBy; rw [if_pos ⟨e0, (rw_dash h).2 hR⟩]
  rw [e] at hI ⊢; rw [e1]; exact hI.next1 hj
theorem rw_flat {out o2 : List Int} {m2 : Int} {j : Nat} (hI : AI out (pKey w) (pBy w) m2 o2 j) (hj : (j : Int) < m2) (hR : (w.size : Int) ≤ cut ∨ ¬ ((byteAt w cut.toNat).toNat : Int) = 45) : AI out (pKey w) (pBy w) m2 (o2 ++ [num (w.extract 0 cut.toNat)]) (j + 1) := by
  obtain ⟨e0, e1⟩ := rw_ok h hb hf hr
  have e : pBy w = 0 := by unfold pBy; rw [if_neg (fun q => by have := (rw_dash h).1 q.2; omega)]
  rw [e] at hI ⊢; rw [e1]; exact hI.next0 hj
end
/-! ### from word to word -/
structure LI (s : ByteArray) (out : List Int) (fr : Int) (i : Nat) : Prop where
  f0 : 0 ≤ fr
  fi : fr ≤ (i : Int)
  le : i ≤ s.size + 1
  last : i = s.size + 1 → fr = (i : Int)
  len : out.length ≤ 200
  no : ∀ j : Nat, fr ≤ (j : Int) → j < i → j < s.size → byteAt s j ≠ 32
  eq : (if fr ≤ (s.size : Int) then go (words (s.extract fr.toNat s.size)) out else (out, 0)) = parse s
theorem LI.start {s : ByteArray} (h1 : (s.size : Int) ≤ 2000) (h2 : ¬ s = ByteArray.mk #[]) : LI s [] 0 0 :=
  ⟨by decide, by decide, by omega, fun h => by omega, by simp, fun j _ h => by omega, by
    rw [if_pos (by omega), show ((0 : Int)).toNat = 0 from rfl, ByteArray.extract_zero_size]; exact (parse_pos h2 (by omega)).symm⟩
theorem LI.skip {s : ByteArray} {out : List Int} {fr : Int} {i : Nat} (h : LI s out fr i) (hc : (i : Int) < (s.size : Int) ∧ ¬ ((byteAt s i).toNat : Int) = 32) : LI s out fr (i + 1) :=
  ⟨h.f0, by have := h.fi; omega, by omega, fun e => by omega, h.len, fun j h1 h2 h3 => by
    by_cases hj : j < i
    · exact h.no j h1 hj h3
    · have : j = i := by omega
      subst this; exact fun e => hc.2 (by rw [e]; rfl), h.eq⟩
theorem ext_data (s : ByteArray) (a b : Nat) : (s.extract a b).data.toList = (s.data.toList.drop a).take (b - a) := Go.Lib.extract_data s a b
theorem LI.cut {s : ByteArray} {out : List Int} {fr : Int} {i : Nat} (h : LI s out fr i) (hi : (i : Int) ≤ (s.size : Int)) (hc : (s.size : Int) ≤ (i : Int) ∨ ((byteAt s i).toNat : Int) = 32) :
    go (s.extract fr.toNat i :: (if i < s.size then words (s.extract (i + 1) s.size) else [])) out = parse s := by
  have hf0 := h.f0; have hfi := h.fi; have hs := size_len s
  have he := h.eq
  rw [if_pos (by omega)] at he
  rw [← he]
  congr 1
  have hno : (32 : UInt8) ∉ (s.data.toList.drop fr.toNat).take (i - fr.toNat) := by
    intro hm
    obtain ⟨j, hj, e⟩ := List.mem_iff_getElem.1 hm
    rw [List.length_take, List.length_drop] at hj
    rw [List.getElem_take, List.getElem_drop, byte_get (by omega)] at e
    exact h.no (fr.toNat + j) (by omega) (by omega) (by omega) e
  by_cases hlt : i < s.size
  · rw [if_pos hlt]
    have hb : byteAt s i = 32 := by
      rcases hc with hc | hc
      · omega
      · exact (byte_eq (c := 32) (n := 32) rfl).1 hc
    have e : s.data.toList.drop fr.toNat = (s.data.toList.drop fr.toNat).take (i - fr.toNat) ++ 32 :: s.data.toList.drop (i + 1) := by
      conv => lhs; rw [← List.take_append_drop (i - fr.toNat) (s.data.toList.drop fr.toNat)]
      rw [List.drop_drop, show fr.toNat + (i - fr.toNat) = i by omega, show s.data.toList.drop i = 32 :: s.data.toList.drop (i + 1) by rw [List.drop_eq_getElem_cons (show i < s.data.toList.length by omega), byte_get hlt, hb]]
    unfold words
    rw [Go.Lib.extract_to_end, Go.Lib.extract_to_end]
    conv => rhs; rw [e]
    rw [wordsL_cut _ hno, List.map_cons, ← ext_data, data_ofL]
  · rw [if_neg hlt]
    have ei : i = s.size := by omega
    rw [ei] at hno ⊢
    unfold words
    rw [Go.Lib.extract_to_end, wordsL_plain (by rw [List.take_of_length_le (by rw [List.length_drop]; omega)] at hno; exact hno)]
    rw [List.map_cons, List.map_nil, ← Go.Lib.extract_to_end, data_ofL]
theorem LI.err {s : ByteArray} {out : List Int} {fr : Int} {i : Nat} (h : LI s out fr i) (hi : (i : Int) ≤ (s.size : Int)) (hc : (s.size : Int) ≤ (i : Int) ∨ ((byteAt s i).toNat : Int) = 32) {e : Int} (he : pErr (s.extract fr.toNat i) = e) (hn : e ≠ 0) : [] = (parse s).1 ∧ e = (parse s).2 := by
  rw [← h.cut hi hc, go, if_pos (by rw [he]; exact hn), he]; exact ⟨rfl, rfl⟩
theorem LI.many {s : ByteArray} {out : List Int} {fr : Int} {i : Nat} (h : LI s out fr i) (hi : (i : Int) ≤ (s.size : Int)) (hc : (s.size : Int) ≤ (i : Int) ∨ ((byteAt s i).toNat : Int) = 32) (he : pErr (s.extract fr.toNat i) = 0) {m2 : Int} (hm : m2 = pMany (s.extract fr.toNat i)) (h2 : 200 - (out.length : Int) < m2) : [] = (parse s).1 ∧ 2 = (parse s).2 := by
  rw [← h.cut hi hc, go, if_neg (fun q => q he), if_pos (by omega)]; exact ⟨rfl, rfl⟩
theorem LI.next {s : ByteArray} {out o2 : List Int} {fr : Int} {i j : Nat} (h : LI s out fr i) (hi : (i : Int) ≤ (s.size : Int)) (hc : (s.size : Int) ≤ (i : Int) ∨ ((byteAt s i).toNat : Int) = 32) (he : pErr (s.extract fr.toNat i) = 0) {m2 : Int} (hm : m2 = pMany (s.extract fr.toNat i)) (h2 : m2 ≤ 200 - (out.length : Int))
    (hA : AI out (pKey (s.extract fr.toNat i)) (pBy (s.extract fr.toNat i)) m2 o2 j) (hj : m2 ≤ (j : Int)) : LI s o2 ((i : Int) + 1) (i + 1) := by
  have hp := (pErr_ok he).2.1
  have ho := hA.done (by omega) hj
  have hcut := h.cut hi hc
  rw [go_cons _ _ he (by omega), ← hm, ← ho] at hcut
  have hl := hA.len
  have hle := hA.le
  refine ⟨by omega, by omega, by omega, fun _ => by omega, by omega, fun k h3 h4 => by omega, ?_⟩
  rw [← hcut]
  by_cases hlt : i < s.size
  · rw [if_pos (by omega), if_pos hlt, show ((i : Int) + 1).toNat = i + 1 by omega]
  · rw [if_neg (by omega), if_neg hlt]; rfl
theorem LI.done {s : ByteArray} {out : List Int} {fr : Int} {i : Nat} (h : LI s out fr i) (hi : (s.size : Int) < (i : Int)) : out = (parse s).1 ∧ 0 = (parse s).2 := by
  have := h.last (by have := h.le; omega)
  have he := h.eq
  rw [if_neg (by omega)] at he
  rw [← he]; exact ⟨rfl, rfl⟩
end Go.Sx.Trc
namespace Go.Sx.Trc
def joinB (l : List ByteArray) (sp : ByteArray) : ByteArray := ofL (Go.Lib.join (l.map (·.data.toList)) sp.data.toList)
theorem joinB_map (l : List (List UInt8)) : joinB (l.map ofL) (ByteArray.mk #[32]) = ofL (Go.Lib.join l [32]) := by
  unfold joinB
  rw [List.map_map]
  have : (l.map ((fun x : ByteArray => x.data.toList) ∘ ofL)) = l := List.map_id'' (fun x => rfl) _
  rw [this]
end Go.Sx.Trc

/- The text form of traces: bounds. -/
namespace Go.Sx.Trc
theorem ext_size (s : ByteArray) {fr : Int} {i : Nat} (h0 : 0 ≤ fr) (h1 : fr ≤ (i : Int)) (h2 : (i : Int) ≤ (s.size : Int)) : ((s.extract fr.toNat i).size : Int) = (i : Int) - fr := by
  rw [ByteArray.size_extract]; omega
theorem tdiv_bd {n : Int} (h : 0 ≤ n ∧ n ≤ 9999999) : 0 ≤ n.tdiv 10 ∧ n.tdiv 10 ≤ 9999999 := by rw [(tdiv10 h.1).1]; omega
theorem tmod_bd {n : Int} (h : 0 ≤ n ∧ n ≤ 9999999) : 0 ≤ n.tmod 10 ∧ n.tmod 10 ≤ 9999999 := by rw [(tdiv10 h.1).2]; omega
theorem tdiv_lt {n : Int} {k : Nat} (h : 0 ≤ n ∧ n ≤ 9999999) (h1 : 10 ≤ n) (hk : n.toNat = k) : (n.tdiv 10).toNat < k := by rw [(tdiv10 h.1).1, Int.toNat_natCast]; omega
theorem tmod_lt {n : Int} {k : Nat} (h : 0 ≤ n ∧ n ≤ 9999999) (h1 : 10 ≤ n) (hk : n.toNat = k) : (n.tmod 10).toNat < k := by rw [(tdiv10 h.1).2, Int.toNat_natCast]; omega
theorem dig_eq {x : Int} (h1 : 48 ≤ x) (h2 : x ≤ 57) : IntKind.i64.wrap (IntKind.u8.wrap (x - 48)) = x - 48 := by
  have a : IntKind.u8.wrap (x - 48) = x - 48 := by rw [IntKind.wrap_u8]; omega
  rw [a]; exact wrap_i64 (by omega)
theorem rise_bd {l : List Int} {n : Nat} (hl : l ≠ []) (hk : ∀ k ∈ l, Lru.okKey k = true) (hr : run 1 l = n) : 0 ≤ l.getD 0 default + (n : Int) - 1 ∧ l.getD 0 default + (n : Int) - 1 ≤ 1048576 := by
  have := okKey_iff.1 (rise_last hl hk)
  rw [hr] at this; exact this
theorem bad_true {w : ByteArray} {key many : Int} (e1 : key = pk w) (e2 : many = pm w) (h : (0 ≤ cutI w ∧ ((byteAt w (cutI w).toNat).toNat : Int) = 42) ∧ many < 2) :
    ((decide (0 ≤ cutI w) && (((byteAt w (cutI w).toNat).toNat : Int) == 42)) && decide (many < 2)) = decide (badForm w) := by
  rw [decide_eq_true (bad_star e1 e2 h), decide_eq_true h.1.1, decide_eq_true h.2, h.1.2]; rfl
end Go.Sx.Trc

/- The text form of traces: writing; what is reckoned at fixed inputs. -/
namespace Go.Sx
theorem Rd_drop {α : Type} {T : Ty α} {w : World} {a : Option Addr} {cap : Nat} {L : List α} {n : Nat} (h : Rd T w a cap L) (hn : n ≤ L.length) : Rd T w (sa a cap n T.k) (cap - n) (L.drop n) := by
  have := SlR.part h (l := n) (m := cap) (hi := L.length) hn (Nat.le_refl _) h.1 (Nat.le_refl _)
  exact (by simpa using this : SlR T (fun b => b < w.heap.size) w (sa a cap n T.k) (cap - n) (L.drop n))
namespace Trc
theorem fmt_bad {l : List Int} (h : ¬ Lru.trace l = 0) : ByteArray.mk #[] = format l := by unfold format; rw [if_neg h]; rfl
theorem len_pos {l : List Int} (h : 0 < (l.length : Int)) : l ≠ [] := fun e => by rw [e] at h; simp at h
structure FI (l l2 : List Int) (out : List ByteArray) : Prop where
  keys : ∀ k ∈ l2, Lru.okKey k = true
  len : l2.length ≤ 200
  eq : out ++ (pieces l2).map ofL = (pieces l).map ofL
  all : Lru.trace l = 0
theorem FI.start {l : List Int} (h : Lru.trace l = 0) : FI l l [] := ⟨(trace_ok.1 h).2, (trace_ok.1 h).1, rfl, h⟩
theorem FI.olen {l l2 : List Int} {out : List ByteArray} (h : FI l l2 out) : out.length ≤ 200 := by
  have h1 := congrArg List.length h.eq
  obtain ⟨t1, t2⟩ := trace_ok.1 h.all
  have h2 := (pieces_len _ l rfl t1 t2).2
  rw [List.length_append, List.length_map, List.length_map] at h1
  omega
theorem FI.next {l l2 : List Int} {out : List ByteArray} (h : FI l l2 out) (hne : l2 ≠ []) {p : ByteArray} {n : Nat} (hn : n = itemN l2) (hp : p = ofL (itemL l2)) : FI l (l2.drop n) (out ++ [p]) :=
  ⟨fun k hk => h.keys k (List.mem_of_mem_drop hk), by rw [List.length_drop]; have := h.len; omega, by
    rw [← h.eq, pieces_cons hne, hn, hp, List.append_assoc]; rfl, h.all⟩
theorem FI.star {l l2 : List Int} {out : List ByteArray} (h : FI l l2 out) (hne : l2 ≠ []) (hs : 1 < (run 0 l2 : Int)) :
    FI l (l2.drop (run 0 l2 : Int).toNat) (out ++ [decS (l2.getD 0 default) ++ ((ByteArray.mk #[42]) ++ decS (run 0 l2 : Int))]) := by
  obtain ⟨e1, e2⟩ := item_star_eq (l := l2) (by omega)
  refine h.next hne (by rw [e1]; omega) ?_
  rw [e2]; unfold decS; rw [sign_add]
theorem FI.dash {l l2 : List Int} {out : List ByteArray} (h : FI l l2 out) (hne : l2 ≠ []) (hs : (run 0 l2 : Int) ≤ 1) (hd : 2 < (run 1 l2 : Int)) :
    FI l (l2.drop (run 1 l2 : Int).toNat) (out ++ [decS (l2.getD 0 default) ++ ((ByteArray.mk #[45]) ++ decS (l2.getD ((run 1 l2 : Int) - 1).toNat default))]) := by
  obtain ⟨e1, e2⟩ := item_dash_eq (l := l2) (by omega) (by omega)
  refine h.next hne (by rw [e1]; omega) ?_
  have hle := run_le hne 1
  have e3 : l2.getD ((run 1 l2 : Int) - 1).toNat default = l2.getD 0 default + (run 1 l2 : Int) - 1 := by
    have e4 : ((run 1 l2 : Int) - 1).toNat = run 1 l2 - 1 := by omega
    rw [e4, getD_eq (by omega), run_get (d := 1) (by omega) (by omega)]
    show l2.getD 0 default + ((run 1 l2 - 1 : Nat) : Int) * 1 = _; omega
  rw [e2, e3]; unfold decS; rw [sign_add]
theorem FI.one {l l2 : List Int} {out : List ByteArray} (h : FI l l2 out) (hne : l2 ≠ []) (hs : (run 0 l2 : Int) ≤ 1) (hd : (run 1 l2 : Int) ≤ 2) : FI l (l2.drop 1) (out ++ [decS (l2.getD 0 default)]) := by
  obtain ⟨e1, e2⟩ := item_one_eq (l := l2) (by omega) (by omega)
  exact h.next hne e1.symm (by rw [e2]; rfl)
theorem join_append_le (a b : List (List UInt8)) : (Go.Lib.join a [32]).length ≤ ((a ++ b).map (fun p => p.length + 1)).sum := by
  have := join_len_le a
  rw [List.map_append, List.sum_append]; omega
theorem FI.out_eq {l l2 : List Int} {out : List ByteArray} (h : FI l l2 out) : out.map (fun x => x.data.toList) ++ pieces l2 = pieces l := by
  have := congrArg (List.map (fun x : ByteArray => x.data.toList)) h.eq
  rw [List.map_append, List.map_map, List.map_map] at this
  have e : ∀ q : List (List UInt8), q.map ((fun x : ByteArray => x.data.toList) ∘ ofL) = q := fun q => List.map_id'' (fun x => rfl) _
  rw [e, e] at this; exact this
theorem FI.size {l l2 : List Int} {out : List ByteArray} (h : FI l l2 out) : (joinB out (ByteArray.mk #[32])).size ≤ 140737488355328 := by
  obtain ⟨t1, t2⟩ := trace_ok.1 h.all
  have h2 := (pieces_len _ l rfl t1 t2).1
  rw [← h.out_eq] at h2
  have h3 := join_append_le (out.map (fun x => x.data.toList)) (pieces l2)
  unfold joinB; rw [ofL_size]
  show (Go.Lib.join (out.map (fun x => x.data.toList)) [32]).length ≤ _
  omega
theorem FI.done {l l2 : List Int} {out : List ByteArray} (h : FI l l2 out) (ht : Lru.trace l = 0) (h0 : (l2.length : Int) ≤ 0) : joinB out (ByteArray.mk #[32]) = format l := by
  have e : l2 = [] := List.eq_nil_of_length_eq_zero (by omega)
  have h1 := h.out_eq
  rw [e, pieces_nil, List.append_nil] at h1
  unfold format joinB write
  rw [if_pos ht, h1]
/-! ### reckoned -/
def decF : Nat → Nat → List UInt8
  | 0, n => [UInt8.ofNat (48 + n)]
  | f + 1, n => if n < 10 then [UInt8.ofNat (48 + n)] else decF f (n / 10) ++ [UInt8.ofNat (48 + n % 10)]
theorem decF_eq : ∀ (f n : Nat), n ≤ f → Go.Lib.decDigits n = decF f n
  | 0, n, h => dec_small (by omega)
  | f + 1, n, h => by
    rw [decF]; split
    · rename_i h1; exact dec_small h1
    · rename_i h1; rw [dec_big h1, decF_eq f (n / 10) (by omega)]
def decG (n : Int) : List UInt8 := decF n.toNat n.toNat
theorem dec_G (n : Int) : dec n = decG n := decF_eq _ _ (Nat.le_refl _)
def itemF (l : List Int) : List UInt8 := if 1 < run 0 l then decG (l.getD 0 0) ++ 42 :: decG (run 0 l) else if 2 < run 1 l then decG (l.getD 0 0) ++ 45 :: decG (l.getD 0 0 + (run 1 l : Int) - 1) else decG (l.getD 0 0)
theorem item_F (l : List Int) : itemL l = itemF l := by unfold itemL itemF; simp only [dec_G]
def piecesF : Nat → List Int → List (List UInt8)
  | 0, _ => []
  | f + 1, l => if l = [] then [] else itemF l :: piecesF f (l.drop (itemN l))
theorem pieces_F : ∀ (f : Nat) (l : List Int), l.length ≤ f → pieces l = piecesF f l
  | 0, l, h => by
    have e : l = [] := List.eq_nil_of_length_eq_zero (by omega)
    rw [e, pieces_nil]; rfl
  | f + 1, l, h => by
    rw [piecesF]; split
    · rename_i e; rw [e, pieces_nil]
    · rename_i e
      have := itemN_pos l; have := List.length_pos_iff.2 e
      rw [pieces_cons e, item_F, pieces_F f _ (by rw [List.length_drop]; omega)]
def formatF (l : List Int) : ByteArray := if Lru.trace l = 0 then ofL (Go.Lib.join (piecesF l.length l) [32]) else ByteArray.empty
theorem format_F (l : List Int) : format l = formatF l := by unfold format formatF write; rw [pieces_F l.length l (Nat.le_refl _)]
def compactF (s : ByteArray) : ByteArray := if (parse s).2 = 0 then formatF (parse s).1 else ByteArray.empty
theorem compact_F (s : ByteArray) : compact s = compactF s := by unfold compact compactF; rw [format_F]
end Trc
end Go.Sx

/- The text form of traces: what the laws ask. -/
namespace Go.Sx.Trc
theorem same_self (a : List Int) : Ref.sameInts a a = true := by simp [Ref.sameInts]
theorem fmt_ok {l : List Int} (h : Lru.trace l = 0) : format l = ofL (write l) := if_pos h
theorem rt1 {l : List Int} (h : ¬ Lru.trace l = 0) : decide (format l = ByteArray.mk #[]) = true := decide_eq_true (fmt_bad h).symm
theorem rt2 {l : List Int} (h : Lru.trace l = 0) : (((parse (format l)).2 == 0) && Ref.sameInts (parse (format l)).1 l) = true := by
  rw [fmt_ok h, round_trip h, same_self]; rfl
theorem tc1 {s : ByteArray} (h : ¬ (parse s).2 = 0) : decide (compact s = ByteArray.mk #[]) = true := decide_eq_true (by unfold compact; rw [if_neg h]; rfl)
theorem tc2 {s : ByteArray} (h : (parse s).2 = 0) : ((((((parse s).2 == 0) && ((parse (compact s)).2 == 0)) && Ref.sameInts (parse s).1 (parse (compact s)).1) && ((parse (compact s)).2 == 0)) && decide (compact (compact s) = compact s)) = true := by
  obtain ⟨h1, h2⟩ := compact_law h
  rw [h1, h2, h, same_self, decide_eq_true rfl]; rfl
theorem tj1 {s t : ByteArray} (h : (((parse s).2 = 0 ∧ (parse t).2 = 0) ∧ ¬ s = ByteArray.mk #[]) ∧ ¬ t = ByteArray.mk #[]) (hb : 200 < ((parse s).1.length : Int) + ((parse t).1.length : Int) ∨ 2000 ≤ (s.size : Int) + (t.size : Int)) :
    ((parse ((s ++ (ByteArray.mk #[32])) ++ t)).2 == 2) = true := by
  have := joins h.1.1.1 h.1.1.2 h.1.2 h.2
  rw [if_pos (by omega)] at this
  show ((parse (s ++ ofL [32] ++ t)).2 == 2) = true
  rw [this]; rfl
theorem tj2 {s t : ByteArray} (h : (((parse s).2 = 0 ∧ (parse t).2 = 0) ∧ ¬ s = ByteArray.mk #[]) ∧ ¬ t = ByteArray.mk #[]) (hb : ((parse s).1.length : Int) + ((parse t).1.length : Int) ≤ 200 ∧ (s.size : Int) + (t.size : Int) < 2000) :
    (((parse ((s ++ (ByteArray.mk #[32])) ++ t)).2 == 0) && Ref.sameInts (parse ((s ++ (ByteArray.mk #[32])) ++ t)).1 ((parse s).1 ++ (parse t).1)) = true := by
  have := joins h.1.1.1 h.1.1.2 h.1.2 h.2
  rw [if_neg (by omega)] at this
  show (((parse (s ++ ofL [32] ++ t)).2 == 0) && Ref.sameInts (parse (s ++ ofL [32] ++ t)).1 ((parse s).1 ++ (parse t).1)) = true
  rw [this, same_self]; rfl
theorem ts {l : List Int} {s a c : ByteArray} (ha : format l = a) (hc : compact s = c) : ((((((decide (format l = a) && (Lru.trace l == Lru.trace l)) && Ref.sameInts (parse s).1 (parse s).1) && ((parse s).2 == (parse s).2)) && decide (compact s = c)) && ((parse s).2 == (parse s).2))) = true := by
  rw [decide_eq_true ha, decide_eq_true hc, same_self]; simp
theorem cmp_ok {s : ByteArray} (h : (parse s).2 = 0) : compact s = ofL (write (parse s).1) := by unfold compact; rw [if_pos h, fmt_ok (parse_ok h)]
theorem cmp_bad {s : ByteArray} (h : ¬ (parse s).2 = 0) : compact s = ByteArray.mk #[] := by unfold compact; rw [if_neg h]; rfl
theorem parse_len {s : ByteArray} : (parse s).1.length ≤ 200 := by
  by_cases h : (parse s).2 = 0
  · exact (trace_ok.1 (parse_ok h)).1
  · rw [parse_bad h]; simp
end Go.Sx.Trc
