/- A comparison of policies: the optimal one, rankings, more room. -/
import Derived.Test.YtfncgfcehkalnaaGreatBeLawM22
namespace Go.Sx.Cmp
open Belady (Run Lazy)
theorem lru_err {l : List Int} {room : Int} (h : Lru.trace l = 0) (hr : 1 ≤ room ∧ room ≤ 40) : Lru.runErr ⟨room, []⟩ l = 0 := by
  have hc : Lru.check ⟨room, []⟩ = 0 := by
    unfold Lru.check; rw [if_neg (by rw [Opt.room_yes hr]; simp), if_neg (by simp; omega)]; rfl
  exact (Lru.run3 hc h).2
theorem lfu_err {l : List Int} {room : Int} (h : Lru.trace l = 0) (hr : 1 ≤ room ∧ room ≤ 40) : Lfu.runErr ⟨room, []⟩ l = 0 := by
  have hc : Lfu.check ⟨room, []⟩ = 0 := by
    unfold Lfu.check; rw [if_neg (by rw [Opt.room_yes hr]; simp), if_neg (by simp; omega)]; rfl
  exact (Lfu.run3 hc h).2
theorem ck_check {room : Int} (hr : 1 ≤ room ∧ room ≤ 40) : Clock.check ⟨room, 0, []⟩ = 0 :=
  Clock.check_of (by constructor <;> simp <;> omega) (by simp [Clock.keysOf]) (by simp [Clock.keysOf])
theorem ck_err {l : List Int} {room : Int} (h : Lru.trace l = 0) (hr : 1 ≤ room ∧ room ≤ 40) : Clock.runErr ⟨room, 0, []⟩ l = 0 := by
  unfold Clock.runErr; rw [if_pos (ck_check hr)]; exact h
theorem seg_check {room : Int} (hr : 2 ≤ room ∧ room ≤ 40) : Seg.check ⟨room.tdiv 2, room - room.tdiv 2, [], []⟩ = 0 := by
  have e : room.tdiv 2 = room / 2 := Int.tdiv_eq_ediv_of_nonneg (by omega)
  exact Seg.check_ok.2 ⟨by simp only; omega, by simp only; omega, by simp only [List.length_nil]; omega, by simp only [List.length_nil]; omega, by simp, by simp⟩
theorem pol_run {l : List Int} {room k : Int} (h : Lru.trace l = 0) (hr : 2 ≤ room ∧ room ≤ 40) (hk : 1 ≤ k ∧ k ≤ 4) : ∃ m : Nat, Run room.toNat [] l m ∧ by_ l room k + m = l.length := by
  have hr1 : 1 ≤ room ∧ room ≤ 40 := ⟨by omega, hr.2⟩
  have hkeys := (Lru.trace_ok.1 h).2
  unfold by_
  by_cases k1 : k = 1
  · rw [if_pos k1]; exact Opt.lru_zero (lru_err h hr1)
  · rw [if_neg k1]
    by_cases k2 : k = 2
    · rw [if_pos k2]
      obtain ⟨a1, a2, a3⟩ := Clock.run_err (ck_err h hr1)
      obtain ⟨m, h3, h4⟩ := Opt.ck_run (n := 0) a1 hkeys
      exact ⟨m, h3, by rw [a3]; omega⟩
    · rw [if_neg k2]
      by_cases k3 : k = 3
      · rw [if_pos k3]
        obtain ⟨a1, a2, a3⟩ := Lfu.run_ok (lfu_err h hr1)
        obtain ⟨m, h3, h4⟩ := Opt.lfu_run (n := 0) (Lfu.ok_of a1) hkeys
        exact ⟨m, h3, by rw [a3]; omega⟩
      · rw [if_neg k3, if_pos (by omega)]
        obtain ⟨a3, _⟩ := Seg.run3 (seg_check hr) h
        obtain ⟨m, h3, h4⟩ := Opt.seg_run (n := 0) (Seg.ok_of (seg_check hr)) hkeys
        refine ⟨m, ?_, by rw [a3]; omega⟩
        have e : (room.tdiv 2 + (room - room.tdiv 2)).toNat = room.toNat := by congr 1; omega
        simp only [e] at h3
        exact h3
theorem pol_lazy {l : List Int} {room k : Int} (h : Lru.trace l = 0) (hr : 2 ≤ room ∧ room ≤ 40) (hk : 1 ≤ k ∧ k ≤ 3) : ∃ m : Nat, Lazy room.toNat [] l m ∧ by_ l room k + m = l.length := by
  have hr1 : 1 ≤ room ∧ room ≤ 40 := ⟨by omega, hr.2⟩
  have hkeys := (Lru.trace_ok.1 h).2
  unfold by_
  by_cases k1 : k = 1
  · rw [if_pos k1]
    obtain ⟨a1, a2, a3⟩ := Lru.run_ok (lru_err h hr1)
    obtain ⟨m, h3, h4⟩ := Opt.lru_lazy (n := 0) (Lru.ok_of a1) hkeys
    exact ⟨m, h3, by rw [a3]; omega⟩
  · rw [if_neg k1]
    by_cases k2 : k = 2
    · rw [if_pos k2]
      obtain ⟨a1, a2, a3⟩ := Clock.run_err (ck_err h hr1)
      obtain ⟨m, h3, h4⟩ := Opt.ck_lazy (n := 0) a1 hkeys
      exact ⟨m, h3, by rw [a3]; omega⟩
    · rw [if_neg k2, if_pos (by omega)]
      obtain ⟨a1, a2, a3⟩ := Lfu.run_ok (lfu_err h hr1)
      obtain ⟨m, h3, h4⟩ := Opt.lfu_lazy (n := 0) (Lfu.ok_of a1) hkeys
      exact ⟨m, h3, by rw [a3]; omega⟩
theorem by5 (l : List Int) (room : Int) : by_ l room 5 = (l.length : Int) - (Opt.ev l room).2 := by
  unfold by_; rw [if_neg (by decide), if_neg (by decide), if_neg (by decide), if_neg (by decide)]
theorem run_le {room : Nat} {C t : List Int} {n : Nat} (h : Run room C t n) : n ≤ t.length := by
  induction h with
  | nil => exact Nat.zero_le _
  | hit _ _ _ _ _ _ ih => simp only [List.length_cons]; omega
  | miss _ _ _ _ _ _ ih => simp only [List.length_cons]; omega
theorem by_bd {l : List Int} {room k : Int} (h : Lru.trace l = 0) (hr : 2 ≤ room ∧ room ≤ 40) (hk : 1 ≤ k ∧ k ≤ 5) : 0 ≤ by_ l room k ∧ by_ l room k ≤ l.length ∧ by_ l room k ≤ by_ l room 5 := by
  have hb := Opt.ev_bd2 h (room := room) ⟨by omega, hr.2⟩
  by_cases h5 : k = 5
  · rw [h5, by5]; omega
  · obtain ⟨m, h1, h2⟩ := pol_run (k := k) h hr (by omega)
    have h3 := Opt.least (Opt.evErr_ok h ⟨by omega, hr.2⟩) h1
    have h4 : (Opt.ev l room).2 ≤ l.length := hb.2
    rw [by5]
    have h6 := run_le h1
    omega
structure Best (l : List Int) (room : Int) (u : List Int) (i : Nat) : Prop where
  top : (hits l room).getD i default ≤ (hits l room).getD 4 default
  most : (hits l room).getD i default ≤ (l.length : Int) - (u.length : Int)
  all : (u.length : Int) ≤ room → i ≠ 3 → (hits l room).getD i default = (l.length : Int) - (u.length : Int)
theorem best {l u : List Int} {room : Int} (h : check l room = 0) (hu : u.Nodup ∧ ∀ x, x ∈ u ↔ x ∈ l) {i : Nat} (hi : i < 5) : Best l room u i := by
  obtain ⟨htr, hr⟩ := chk_ok.1 h
  have hr1 : 1 ≤ room ∧ room ≤ 40 := ⟨by omega, hr.2⟩
  have h4 : (hits l room).getD 4 default = by_ l room 5 := hits_at h (by decide)
  have hi' := hits_at h hi
  obtain ⟨_, _, b3⟩ := by_bd htr hr (k := (i : Int) + 1) (by omega)
  have hev := Opt.evErr_ok htr hr1
  have hb := Opt.ev_bd2 htr hr1
  obtain ⟨g1, g2, g3, _⟩ := Opt.go_n hev
  have hd := (g3.run List.nodup_nil (Nat.zero_le _)).distinct hu.1 fun x hx => ⟨(hu.2 x).1 hx, by simp⟩
  have hm : by_ l room 5 ≤ (l.length : Int) - (u.length : Int) := by rw [by5]; omega
  have hall : ∀ k : Int, 1 ≤ k → k ≤ 3 → (u.length : Int) ≤ room → by_ l room k = (l.length : Int) - (u.length : Int) := fun k k1 k2 hf => by
    obtain ⟨m, l1, l2⟩ := pol_lazy htr hr ⟨k1, k2⟩
    have := l1.fits (D := u) List.nodup_nil hu.1 (by simp) (fun x hx => (hu.2 x).2 hx) (by omega) (fun x hx => .inr ((hu.2 x).1 hx))
    simp only [List.length_nil] at this
    omega
  refine ⟨by rw [hi', h4]; exact b3, by rw [hi']; omega, fun hf h3 => ?_⟩
  rw [hi']
  by_cases h5 : i = 4
  · have h1 := hall 1 (by decide) (by decide) hf
    obtain ⟨_, _, b1⟩ := by_bd htr hr (k := 1) (by omega)
    rw [h5, show (((4 : Nat) : Int) + 1) = 5 from rfl]
    omega
  · exact hall _ (by omega) (by omega) hf
def R (q : List Int) (a b : Int) : Prop := q.getD (b - 1).toNat default < q.getD (a - 1).toNat default ∨ (q.getD (a - 1).toNat default = q.getD (b - 1).toNat default ∧ a < b)
theorem rank_sorted {l : List Int} {room : Int} (h : check l room = 0) : (rank l room).Pairwise (R (hits l room)) := by
  rw [rank_ok h]
  refine St.isort_sorted (O := (· < ·)) (fun a b c h1 h2 => by unfold R at *; omega) (fun {x p} _ hn => .inl (cmpI_neg.1 hn)) (fun {x p} ho hn => ?_) _ ?_
  · have h2 : ¬ _ := fun e => hn (cmpI_neg.2 e)
    unfold R; omega
  · rw [List.pairwise_map]; exact List.pairwise_lt_range.imp fun h => by omega
structure Mono (l : List Int) (i : Nat) : Prop where
  a : 0 < i → (curve l 1).getD ((i : Int) - 1).toNat default ≤ (curve l 1).getD i default
  b : 0 < i → (curve l 5).getD ((i : Int) - 1).toNat default ≤ (curve l 5).getD i default
  c : (curve l 1).getD i default ≤ (curve l 5).getD i default
theorem err15 (l : List Int) : curveErr l 1 = Lru.trace l ∧ curveErr l 5 = Lru.trace l := by
  constructor <;> (unfold curveErr; rw [if_neg (by simp [okPol])])
theorem mono {l : List Int} (h : curveErr l 1 = 0) {i : Nat} (hi : i < 39) : Mono l i := by
  have htr : Lru.trace l = 0 := (err15 l).1 ▸ h
  have h5 : curveErr l 5 = 0 := (err15 l).2.trans htr
  have e1 : by_ l ((i : Int) + 2) 1 = (Lru.run ⟨(i : Int) + 2, []⟩ l).2 := by unfold by_; rw [if_pos rfl]
  refine ⟨fun h0 => ?_, fun h0 => ?_, ?_⟩
  · rw [show ((i : Int) - 1).toNat = i - 1 by omega, curve_at h (show i - 1 < 39 by omega), curve_at h hi]
    have e2 : by_ l (((i - 1 : Nat) : Int) + 2) 1 = (Lru.run ⟨((i - 1 : Nat) : Int) + 2, []⟩ l).2 := by unfold by_; rw [if_pos rfl]
    rw [e1, e2]
    exact (Lru.incl (lru_err htr ⟨by omega, by omega⟩) (lru_err htr ⟨by omega, by omega⟩) (by omega)).1
  · rw [show ((i : Int) - 1).toNat = i - 1 by omega, curve_at h5 (show i - 1 < 39 by omega), curve_at h5 hi, by5, by5]
    have := Opt.more (Opt.evErr_ok htr (room := ((i - 1 : Nat) : Int) + 2) ⟨by omega, by omega⟩) (Opt.evErr_ok htr (room := (i : Int) + 2) ⟨by omega, by omega⟩) (by omega)
    omega
  · rw [curve_at h hi, curve_at h5 hi]
    exact (by_bd htr ⟨by omega, by omega⟩ ⟨by omega, by omega⟩).2.2
end Go.Sx.Cmp

/- A comparison of policies: the reference's answers. -/
namespace Go.Sx.Cmp
theorem lru_okc {room : Int} (hr : 1 ≤ room ∧ room ≤ 40) : Lru.Ok (⟨room, []⟩ : DCache) := Lru.ok_of (by
  unfold Lru.check; rw [if_neg (by rw [Opt.room_yes hr]; simp), if_neg (by simp; omega)]; rfl)
theorem lfu_okc {room : Int} (hr : 1 ≤ room ∧ room ≤ 40) : Lfu.Ok (⟨room, []⟩ : DUses) := Lfu.ok_of (by
  unfold Lfu.check; rw [if_neg (by rw [Opt.room_yes hr]; simp), if_neg (by simp; omega)]; rfl)
theorem ck_okc {room : Int} (hr : 1 ≤ room ∧ room ≤ 40) : Clock.Ok (⟨room, 0, []⟩ : DClock) := Clock.ok_of (ck_check hr)
theorem go_ev {l : List Int} {room : Int} (h : Lru.trace l = 0) (hr : 1 ≤ room ∧ room ≤ 40) : (Opt.go l room l.length).2.2 = (Opt.ev l room).2 := by rw [(Opt.ev_ok (Opt.evErr_ok h hr)).2.2]
variable {l : List Int} {room pol : Int}
theorem ref1 (h : Lru.trace l = 0) (hr : 1 ≤ room ∧ room ≤ 40) (hp : pol = 1) : (Lru.runGo ⟨room, []⟩ 0 l).2 = by_ l room pol := by
  unfold by_; rw [if_pos hp, (Lru.run_ok (lru_err h hr)).2.2]
theorem ref2 (h : Lru.trace l = 0) (hr : 1 ≤ room ∧ room ≤ 40) (hp : pol = 2) : (Clock.runGo ⟨room, 0, []⟩ 0 l).2 = by_ l room pol := by
  unfold by_; rw [if_neg (by omega), if_pos hp, (Clock.run_err (ck_err h hr)).2.2]
theorem ref3 (h : Lru.trace l = 0) (hr : 1 ≤ room ∧ room ≤ 40) (hp : pol = 3) : (Lfu.runGo ⟨room, []⟩ 0 l).2 = by_ l room pol := by
  unfold by_; rw [if_neg (by omega), if_neg (by omega), if_pos hp, (Lfu.run_ok (lfu_err h hr)).2.2]
theorem ref4 (h : Lru.trace l = 0) (hr : 2 ≤ room ∧ room ≤ 40) (hp : pol = 4) : (Seg.runGo ⟨room.tdiv 2, room - room.tdiv 2, [], []⟩ 0 l).2 = by_ l room pol := by
  unfold by_; rw [if_neg (by omega), if_neg (by omega), if_neg (by omega), if_pos hp, (Seg.run3 (seg_check hr) h).1]
theorem ref5 (h : Lru.trace l = 0) (hr : 1 ≤ room ∧ room ≤ 40) (h1 : pol ≠ 1) (h2 : pol ≠ 2) (h3 : pol ≠ 3) (h4 : pol ≠ 4) : (l.length : Int) - (Opt.go l room l.length).2.2 = by_ l room pol := by
  unfold by_; rw [if_neg h1, if_neg h2, if_neg h3, if_neg h4, go_ev h hr]
end Go.Sx.Cmp
namespace Go.Sx.Cmp
end Go.Sx.Cmp
