/- A comparison of policies: the reference's answers. -/
import Derived.Test.YtfncgfcehkalnaaGreatBeLawM23
namespace Go.Sx.Cmp
theorem lru_okc {room : Int} (hr : 1 ≤ room ∧ room ≤ 40) : Lru.Ok (⟨room, []⟩ : DCache) := Lru.ok_of (by
  unfold Lru.check; rw [if_neg (by rw [Opt.room_yes hr]; simp), if_neg (by simp; omega)]; rfl)
theorem lfu_okc {room : Int} (hr : 1 ≤ room ∧ room ≤ 40) : Lfu.Ok (⟨room, []⟩ : DUses) := Lfu.ok_of (by
  unfold Lfu.check; rw [if_neg (by rw [Opt.room_yes hr]; simp), if_neg (by simp; omega)]; rfl)
theorem ck_okc {room : Int} (hr : 1 ≤ room ∧ room ≤ 40) : Clock.Ok (⟨room, 0, []⟩ : DClock) := Clock.ok_of (ck_check hr)
theorem go_ev {l : List Int} {room : Int} (h : Lru.trace l = 0) (hr : 1 ≤ room ∧ room ≤ 40) : (Opt.go l room l.length).2.2 = (Opt.ev l room).2 := by rw [(Opt.ev_ok (Opt.evErr_ok h hr)).2.2]
variable {l : List Int} {room pol : Int}
theorem ref1 (h : Lru.trace l = 0) (hr : 1 ≤ room ∧ room ≤ 40) (hp : pol = 1) : (Lru.runGo ⟨room, []⟩ 0 l).2 = by_ l room pol := by
  unfold by_; rw [if_pos hp, (Lru.run_ok (lru_err h hr)).2.2]
theorem ref2 (h : Lru.trace l = 0) (hr : 1 ≤ room ∧ room ≤ 40) (hp : pol = 2) : (Clock.runGo ⟨room, 0, []⟩ 0 l).2 = by_ l room pol := by
  unfold by_; rw [if_neg (by omega), if_pos hp, (Clock.run_err (ck_err h hr)).2.2]
theorem ref3 (h : Lru.trace l = 0) (hr : 1 ≤ room ∧ room ≤ 40) (hp : pol = 3) : (Lfu.runGo ⟨room, []⟩ 0 l).2 = by_ l room pol := by
  unfold by_; rw [if_neg (by omega), if_neg (by omega), if_pos hp, (Lfu.run_ok (lfu_err h hr)).2.2]
theorem ref4 (h : Lru.trace l = 0) (hr : 2 ≤ room ∧ room ≤ 40) (hp : pol = 4) : (Seg.runGo ⟨room.tdiv 2, room - room.tdiv 2, [], []⟩ 0 l).2 = by_ l room pol := by
  unfold by_; rw [if_neg (by omega), if_neg (by omega), if_neg (by omega), if_pos hp, (Seg.run3 (seg_check hr) h).1]
theorem ref5 (h : Lru.trace l = 0) (hr : 1 ≤ room ∧ room ≤ 40) (h1 : pol ≠ 1) (h2 : pol ≠ 2) (h3 : pol ≠ 3) (h4 : pol ≠ 4) : (l.length : Int) - (Opt.go l room l.length).2.2 = by_ l room pol := by
  unfold by_; rw [if_neg h1, if_neg h2, if_neg h3, if_neg h4, go_ev h hr]
end Go.Sx.Cmp
namespace Go.Sx.Cmp
theorem cj1 {l : List Int} {n : Int} (h : Lru.trace l = 0 ∧ (n < 1 ∨ 5 < n)) : 7 = curveErr l n := ce1 ⟨h.1, by
  cases e : okPol n
  · rfl
  · have := pol_ok e; omega⟩
theorem cj2 {l : List Int} {n : Int} (h : ¬ Lru.trace l = 0 ∨ (1 ≤ n ∧ n ≤ 5)) : Lru.trace l = curveErr l n := ce2 (h.imp id fun q => by simp [okPol]; exact q)
theorem curves_end {l want : List Int} {n r w : Int} (hw : w = curveErr l n) (h1 : 2 ≤ r) (h2 : r ≤ 41) (h3 : w ≠ 0 → r = 2) (h4 : want = (List.range (r - 2).toNat).map (fun i : Nat => by_ l ((i : Int) + 2) n)) (hst : 40 < r ∨ ¬ w = 0) : want = curve l n := by
  by_cases h : w = 0
  · rw [curve_ok (hw ▸ h), h4, show (r - 2).toNat = 39 by omega]
  · rw [curve_bad (hw ▸ h), h4, h3 h]; rfl
end Go.Sx.Cmp
