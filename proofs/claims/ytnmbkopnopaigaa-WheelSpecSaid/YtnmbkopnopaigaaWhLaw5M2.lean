/- Timing wheels: the references. -/
import Derived.Test.YtnmbkopnopaigaaWhLaw4M3
import Derived.Test.YtnmbkopnopaigaaWhF
import Derived.Test.YtnmbkopnopaigaaWhPureM3
import Derived.Test.YtnmbkopnopaigaaSx24M4
namespace Go.Sx.Wh
/-! ### digits -/
def digs (n : Int) : List Int := [n / 32768 % 8, n / 4096 % 8, n / 512 % 8, n / 64 % 8, n / 8 % 8, n % 8]
def dgN (n i : Int) : Int := if i = 5 then n else if i = 4 then n / 8 else if i = 3 then n / 64 else if i = 2 then n / 512 else if i = 1 then n / 4096 else if i = 0 then n / 32768 else n / 262144
def dgL (n i : Int) : List Int := if i = 5 then [0, 0, 0, 0, 0, 0] else if i = 4 then [0, 0, 0, 0, 0, n % 8] else if i = 3 then [0, 0, 0, 0, n / 8 % 8, n % 8] else if i = 2 then [0, 0, 0, n / 64 % 8, n / 8 % 8, n % 8] else if i = 1 then [0, 0, n / 512 % 8, n / 64 % 8, n / 8 % 8, n % 8] else if i = 0 then [0, n / 4096 % 8, n / 512 % 8, n / 64 % 8, n / 8 % 8, n % 8] else digs n
def DgI (n nn : Int) (ls : List Int) (i : Int) : Prop := (-1 ≤ i ∧ i ≤ 5) ∧ nn = dgN n i ∧ ls = dgL n i
theorem DgI.start (n : Int) : DgI n n (List.replicate 6 0) 5 := ⟨by omega, rfl, rfl⟩
theorem DgI.len {n nn : Int} {ls : List Int} {i : Int} (h : DgI n nn ls i) : ls.length = 6 := by
  rw [h.2.2]; unfold dgL digs; split; rfl; split; rfl; split; rfl; split; rfl; split; rfl; split <;> rfl
theorem DgI.bd {n nn : Int} {ls : List Int} {i : Int} (h : DgI n nn ls i) (h0 : 0 ≤ n ∧ n ≤ 262143) : 0 ≤ nn ∧ nn ≤ 262143 := by
  rw [h.2.1]; unfold dgN; split; omega; split; omega; split; omega; split; omega; split; omega; split <;> omega
theorem DgI.next {n nn : Int} {ls : List Int} {i : Int} (h : DgI n nn ls i) (hi : 0 ≤ i) (h0 : 0 ≤ n ∧ n ≤ 262143) : DgI n (nn.tdiv 8) (ls.set i.toNat (nn.tmod 8)) (i - 1) := by
  have hb := h.bd h0
  obtain ⟨⟨h1, h2⟩, rfl, rfl⟩ := h
  refine ⟨by omega, ?_, ?_⟩
  · rw [Int.tdiv_eq_ediv_of_nonneg hb.1]
    rcases (show i = 0 ∨ i = 1 ∨ i = 2 ∨ i = 3 ∨ i = 4 ∨ i = 5 by omega) with rfl | rfl | rfl | rfl | rfl | rfl
    · show n / 32768 / 8 = n / 262144; omega
    · show n / 4096 / 8 = n / 32768; omega
    · show n / 512 / 8 = n / 4096; omega
    · show n / 64 / 8 = n / 512; omega
    · show n / 8 / 8 = n / 64; omega
    · rfl
  · rw [Int.tmod_eq_emod_of_nonneg hb.1]
    rcases (show i = 0 ∨ i = 1 ∨ i = 2 ∨ i = 3 ∨ i = 4 ∨ i = 5 by omega) with rfl | rfl | rfl | rfl | rfl | rfl <;> rfl
theorem DgI.done {n nn : Int} {ls : List Int} {i : Int} (h : DgI n nn ls i) (hi : i < 0) : ls = digs n := by
  obtain ⟨⟨h1, h2⟩, rfl, rfl⟩ := h
  obtain rfl : i = -1 := by omega
  rfl
theorem digs_len (n : Int) : (digs n).length = 6 := rfl
theorem digs_bd (n : Int) (i : Nat) : 0 ≤ (digs n).getD i default ∧ (digs n).getD i default ≤ 7 := by
  match i with
  | 0 => show 0 ≤ n / 32768 % 8 ∧ n / 32768 % 8 ≤ 7; omega
  | 1 => show 0 ≤ n / 4096 % 8 ∧ n / 4096 % 8 ≤ 7; omega
  | 2 => show 0 ≤ n / 512 % 8 ∧ n / 512 % 8 ≤ 7; omega
  | 3 => show 0 ≤ n / 64 % 8 ∧ n / 64 % 8 ≤ 7; omega
  | 4 => show 0 ≤ n / 8 % 8 ∧ n / 8 % 8 ≤ 7; omega
  | 5 => show 0 ≤ n % 8 ∧ n % 8 ≤ 7; omega
  | k + 6 => show 0 ≤ (0 : Int) ∧ (0 : Int) ≤ 7; omega
/-! ### WheelPlace -/
theorem plc_next {a n : Int} {i : Nat} (h : ∀ j, j < i → (digs a).getD j default = (digs n).getD j default) (h1 : (digs a).getD i default = (digs n).getD i default) : ∀ j, j < i + 1 → (digs a).getD j default = (digs n).getD j default := fun j hj => by
  rcases Nat.lt_succ_iff_lt_or_eq.1 hj with h2 | rfl
  · exact h j h2
  · exact h1
theorem chain {a : Int} (h : 0 ≤ a ∧ a ≤ 262143) : ∃ c5 c4 c3 c2 c1 c0 : Int, ((0 ≤ c5 ∧ c5 ≤ 7) ∧ (0 ≤ c4 ∧ c4 ≤ 7) ∧ (0 ≤ c3 ∧ c3 ≤ 7) ∧ (0 ≤ c2 ∧ c2 ≤ 7) ∧ (0 ≤ c1 ∧ c1 ≤ 7) ∧ (0 ≤ c0 ∧ c0 ≤ 7)) ∧ digs a = [c5, c4, c3, c2, c1, c0] ∧ a / 32768 = c5 ∧ a / 4096 = 8 * c5 + c4 ∧ a / 512 = 64 * c5 + 8 * c4 + c3 ∧ a / 64 = 512 * c5 + 64 * c4 + 8 * c3 + c2 ∧ a / 8 = 4096 * c5 + 512 * c4 + 64 * c3 + 8 * c2 + c1 ∧ a = 32768 * c5 + 4096 * c4 + 512 * c3 + 64 * c2 + 8 * c1 + c0 := by
  have e4 : a / 4096 = 8 * (a / 32768) + a / 4096 % 8 := by omega
  have e3 : a / 512 = 8 * (a / 4096) + a / 512 % 8 := by omega
  have e2 : a / 64 = 8 * (a / 512) + a / 64 % 8 := by omega
  have e1 : a / 8 = 8 * (a / 64) + a / 8 % 8 := by omega
  have e0 : a = 8 * (a / 8) + a % 8 := by omega
  have b5 : 0 ≤ a / 32768 % 8 ∧ a / 32768 % 8 ≤ 7 := by omega
  have b4 : 0 ≤ a / 4096 % 8 ∧ a / 4096 % 8 ≤ 7 := by omega
  have b3 : 0 ≤ a / 512 % 8 ∧ a / 512 % 8 ≤ 7 := by omega
  have b2 : 0 ≤ a / 64 % 8 ∧ a / 64 % 8 ≤ 7 := by omega
  have b1 : 0 ≤ a / 8 % 8 ∧ a / 8 % 8 ≤ 7 := by omega
  have b0 : 0 ≤ a % 8 ∧ a % 8 ≤ 7 := by omega
  have e5 : a / 32768 = a / 32768 % 8 := by omega
  refine ⟨_, _, _, _, _, _, ⟨b5, b4, b3, b2, b1, b0⟩, rfl, e5, ?_, ?_, ?_, ?_, ?_⟩
  all_goals
    generalize a / 32768 % 8 = c5 at *
    generalize a / 4096 % 8 = c4 at *
    generalize a / 512 % 8 = c3 at *
    generalize a / 64 % 8 = c2 at *
    generalize a / 8 % 8 = c1 at *
    generalize a % 8 = c0 at *
    generalize a / 32768 = d5 at *
    generalize a / 4096 = d4 at *
    generalize a / 512 = d3 at *
    generalize a / 64 = d2 at *
    generalize a / 8 = d1 at *
    omega
theorem pow8_0 : pow8 0 = 1 := by decide
theorem pow8_1 : pow8 1 = 8 := by decide
theorem pow8_2 : pow8 2 = 64 := by decide
theorem pow8_3 : pow8 3 = 512 := by decide
theorem pow8_4 : pow8 4 = 4096 := by decide
theorem pow8_5 : pow8 5 = 32768 := by decide
theorem plc_done {a n : Int} {i : Nat} (ha : 0 ≤ a ∧ a ≤ 262143) (hn : 0 ≤ n ∧ n ≤ 262143) (hi : i ≤ 5) (h : ∀ j, j < i → (digs a).getD j default = (digs n).getD j default) (h1 : i = 5 ∨ ¬ (digs a).getD i default = (digs n).getD i default) : 8 * (5 - (i : Int)) + (digs a).getD i default = place a n := by
  obtain ⟨c5, c4, c3, c2, c1, c0, ⟨hc5, hc4, hc3, hc2, hc1, hc0⟩, ea, ea5, ea4, ea3, ea2, ea1, ea0⟩ := chain ha
  obtain ⟨d5, d4, d3, d2, d1, d0, ⟨hd5, hd4, hd3, hd2, hd1, hd0⟩, en, en5, en4, en3, en2, en1, en0⟩ := chain hn
  rw [ea, en] at h h1
  have hp : place a n = 8 * level a n + a / pow8 (level a n) % 8 := rfl
  have hl : level a n = if a / 8 = n / 8 then 0 else if a / 64 = n / 64 then 1 else if a / 512 = n / 512 then 2 else if a / 4096 = n / 4096 then 3 else if a / 32768 = n / 32768 then 4 else 5 := rfl
  rw [ea5, ea4, ea3, ea2, ea1, en5, en4, en3, en2, en1] at hl
  rw [ea]
  rcases (show i = 0 ∨ i = 1 ∨ i = 2 ∨ i = 3 ∨ i = 4 ∨ i = 5 by omega) with rfl | rfl | rfl | rfl | rfl | rfl
  · have e : ¬ c5 = d5 := h1.resolve_left (by decide)
    clear h h1 hi
    rw [if_neg (by clear ea0 en0 ea1 en1 ea2 en2 ea3 en3 ea4 en4 ea5 en5 ea en hp; omega), if_neg (by clear ea0 en0 ea1 en1 ea2 en2 ea3 en3 ea4 en4 ea5 en5 ea en hp; omega), if_neg (by clear ea0 en0 ea1 en1 ea2 en2 ea3 en3 ea4 en4 ea5 en5 ea en hp; omega), if_neg (by clear ea0 en0 ea1 en1 ea2 en2 ea3 en3 ea4 en4 ea5 en5 ea en hp; omega), if_neg (by clear ea0 en0 ea1 en1 ea2 en2 ea3 en3 ea4 en4 ea5 en5 ea en hp; omega)] at hl
    rw [hp, hl, pow8_5]
    show 8 * (5 - 0) + c5 = _
    clear hp hl
    omega
  · have e : ¬ c4 = d4 := h1.resolve_left (by decide)
    have g0 : c5 = d5 := h 0 (by decide)
    clear h h1 hi
    rw [if_neg (by clear ea0 en0 ea1 en1 ea2 en2 ea3 en3 ea4 en4 ea5 en5 ea en hp; omega), if_neg (by clear ea0 en0 ea1 en1 ea2 en2 ea3 en3 ea4 en4 ea5 en5 ea en hp; omega), if_neg (by clear ea0 en0 ea1 en1 ea2 en2 ea3 en3 ea4 en4 ea5 en5 ea en hp; omega), if_neg (by clear ea0 en0 ea1 en1 ea2 en2 ea3 en3 ea4 en4 ea5 en5 ea en hp; omega), if_pos (by clear ea0 en0 ea1 en1 ea2 en2 ea3 en3 ea4 en4 ea5 en5 ea en hp; omega)] at hl
    rw [hp, hl, pow8_4]
    show 8 * (5 - 1) + c4 = _
    clear hp hl
    omega
  · have e : ¬ c3 = d3 := h1.resolve_left (by decide)
    have g0 : c5 = d5 := h 0 (by decide)
    have g1 : c4 = d4 := h 1 (by decide)
    clear h h1 hi
    rw [if_neg (by clear ea0 en0 ea1 en1 ea2 en2 ea3 en3 ea4 en4 ea5 en5 ea en hp; omega), if_neg (by clear ea0 en0 ea1 en1 ea2 en2 ea3 en3 ea4 en4 ea5 en5 ea en hp; omega), if_neg (by clear ea0 en0 ea1 en1 ea2 en2 ea3 en3 ea4 en4 ea5 en5 ea en hp; omega), if_pos (by clear ea0 en0 ea1 en1 ea2 en2 ea3 en3 ea4 en4 ea5 en5 ea en hp; omega)] at hl
    rw [hp, hl, pow8_3]
    show 8 * (5 - 2) + c3 = _
    clear hp hl
    omega
  · have e : ¬ c2 = d2 := h1.resolve_left (by decide)
    have g0 : c5 = d5 := h 0 (by decide)
    have g1 : c4 = d4 := h 1 (by decide)
    have g2 : c3 = d3 := h 2 (by decide)
    clear h h1 hi
    rw [if_neg (by clear ea0 en0 ea1 en1 ea2 en2 ea3 en3 ea4 en4 ea5 en5 ea en hp; omega), if_neg (by clear ea0 en0 ea1 en1 ea2 en2 ea3 en3 ea4 en4 ea5 en5 ea en hp; omega), if_pos (by clear ea0 en0 ea1 en1 ea2 en2 ea3 en3 ea4 en4 ea5 en5 ea en hp; omega)] at hl
    rw [hp, hl, pow8_2]
    show 8 * (5 - 3) + c2 = _
    clear hp hl
    omega
  · have e : ¬ c1 = d1 := h1.resolve_left (by decide)
    have g0 : c5 = d5 := h 0 (by decide)
    have g1 : c4 = d4 := h 1 (by decide)
    have g2 : c3 = d3 := h 2 (by decide)
    have g3 : c2 = d2 := h 3 (by decide)
    clear h h1 hi
    rw [if_neg (by clear ea0 en0 ea1 en1 ea2 en2 ea3 en3 ea4 en4 ea5 en5 ea en hp; omega), if_pos (by clear ea0 en0 ea1 en1 ea2 en2 ea3 en3 ea4 en4 ea5 en5 ea en hp; omega)] at hl
    rw [hp, hl, pow8_1]
    show 8 * (5 - 4) + c1 = _
    clear hp hl
    omega
  · have e := hi
    have g0 : c5 = d5 := h 0 (by decide)
    have g1 : c4 = d4 := h 1 (by decide)
    have g2 : c3 = d3 := h 2 (by decide)
    have g3 : c2 = d2 := h 3 (by decide)
    have g4 : c1 = d1 := h 4 (by decide)
    clear h h1 hi
    rw [if_pos (by clear ea0 en0 ea1 en1 ea2 en2 ea3 en3 ea4 en4 ea5 en5 ea en hp; omega)] at hl
    rw [hp, hl, pow8_0]
    show 8 * (5 - 5) + c0 = _
    clear hp hl
    omega
/-! ### WheelAll -/
theorem all_next {LL : List (List DTimer)} {i : Nat} (h : i < LL.length) : (LL.take i).flatten ++ LL.getD i [] = (LL.take (i + 1)).flatten := by
  rw [take_next h, List.flatten_append]; simp
theorem pre_le (LL : List (List DTimer)) (i : Nat) : ((LL.take i).flatten).length ≤ (timers LL).length := by
  have h3 : LL.flatten = (LL.take i).flatten ++ (LL.drop i).flatten := by rw [← List.flatten_append, List.take_append_drop]
  unfold timers; rw [h3, List.length_append]; omega
/-! ### WheelCheck -/
theorem few_ids : ∀ (n : Nat) (l : List Int), l.Nodup → (∀ x ∈ l, 0 ≤ x ∧ x < (n : Int)) → l.length ≤ n
  | 0, [], _, _ => Nat.le_refl _
  | 0, x :: l, _, h => by have := h x (by simp); omega
  | n + 1, l, hn, h => by
    have h1 := few_ids n (l.erase (n : Int)) (hn.erase _) (fun x hx => by
      have hx' := (hn.mem_erase_iff).1 hx
      have := h x hx'.2
      have := hx'.1
      omega)
    have h2 : l.length ≤ (l.erase (n : Int)).length + 1 := by
      rw [List.length_erase]; split <;> omega
    omega
structure CR (w : DWheel) (seen : List DTimer) (i k : Nat) : Prop where
  ids : (seen.map (·.id)).Nodup ∧ ∀ x ∈ seen.map (·.id), 0 ≤ x ∧ x < ((1048577 : Nat) : Int)
  seen_ : seen = (timers w.slots).take (pre w.slots i + k)
  go : ∃ sl last, checkGo w.now ((seen.map (·.id)).reverse) sl last ((flat w.slots).drop (pre w.slots i + k)) = checkGo w.now [] (-1) ⟨0, 0⟩ (flat w.slots) ∧ (k = 0 → sl < (i : Int)) ∧ (0 < k → sl = (i : Int) ∧ last = (w.slots.getD i []).getD (k - 1) default)
theorem CR.small {w : DWheel} {seen : List DTimer} {i k : Nat} (h : CR w seen i k) : seen.length ≤ 1048577 := by
  have := few_ids _ _ h.ids.1 h.ids.2
  rwa [List.length_map] at this
theorem CR.start (w : DWheel) : CR w [] 0 0 := ⟨⟨List.nodup_nil, fun _ h => by cases h⟩, rfl, -1, ⟨0, 0⟩, rfl, fun _ => by omega, fun h => absurd h (by omega)⟩
theorem CR.row {w : DWheel} {seen : List DTimer} {i k : Nat} (h : CR w seen i k) (hi : i < w.slots.length) (hk : k = (w.slots.getD i []).length) : CR w seen (i + 1) 0 := by
  have e : pre w.slots (i + 1) + 0 = pre w.slots i + k := by rw [pre_next hi, hk]; rfl
  obtain ⟨sl, last, g, g1, g2⟩ := h.go
  refine ⟨h.ids, by rw [e]; exact h.seen_, sl, last, by rw [e]; exact g, fun _ => ?_, fun h => absurd h (by omega)⟩
  rcases Nat.eq_zero_or_pos k with h9 | h9
  · have := g1 h9; omega
  · have := (g2 h9).1; omega
section
variable {w : DWheel} {seen : List DTimer} {i k : Nat}
theorem flat_at (hi : i < w.slots.length) (hk : k < (w.slots.getD i []).length) : (flat w.slots).drop (pre w.slots i + k) = (i, (w.slots.getD i []).getD k default) :: (flat w.slots).drop (pre w.slots i + (k + 1)) := by
  obtain ⟨a1, a2, a3⟩ := at_pre hi hk
  rw [drop_at a3]
  have e : ((flat w.slots).getD (pre w.slots i + k) (0, default)) = (i, (w.slots.getD i []).getD k default) := by
    refine Prod.ext ?_ a2
    have : (((flat w.slots).getD (pre w.slots i + k) (0, default)).1 : Int) = i := a1
    show ((flat w.slots).getD (pre w.slots i + k) (0, default)).1 = i
    omega
  rw [e]; rfl
theorem CR.ahead_ (h : CR w seen i k) (hi : i < w.slots.length) (hk : k < (w.slots.getD i []).length) (hr : Wh.right ((w.slots.getD i []).getD k default) w.now = true) (hp : place ((w.slots.getD i []).getD k default).due w.now = (i : Int)) (ho : k = 0 ∨ Wh.ahead ((w.slots.getD i []).getD (k - 1) default) ((w.slots.getD i []).getD k default) = true) : ∃ sl last, (if ((w.slots.getD i []).getD k default).id ∈ ((seen.map (·.id)).reverse) then 6 else checkGo w.now (((w.slots.getD i []).getD k default).id :: (seen.map (·.id)).reverse) i ((w.slots.getD i []).getD k default) ((flat w.slots).drop (pre w.slots i + (k + 1)))) = checkGo w.now [] (-1) ⟨0, 0⟩ (flat w.slots) ∧ sl = (i : Int) ∧ last = ((w.slots.getD i []).getD k default) := by
  obtain ⟨sl, last, g, g1, g2⟩ := h.go
  have e1 : ¬ Wh.right ((w.slots.getD i []).getD k default) w.now = false := fun h9 => by rw [hr] at h9; cases h9
  have e2 : ¬ (Wh.place ((w.slots.getD i []).getD k default).due w.now ≠ (i : Int) ∨ ((i : Int) = sl ∧ 0 ≤ order last ((w.slots.getD i []).getD k default))) := by
    rintro (h9 | ⟨h9, h8⟩)
    · exact h9 hp
    · rcases ho with h7 | h7
      · have := g1 h7; omega
      · rcases Nat.eq_zero_or_pos k with h6 | h6
        · have := g1 h6; omega
        · rw [(g2 h6).2] at h8
          exact not_ge.2 h7 h8
  refine ⟨_, _, ?_, rfl, rfl⟩
  rw [← g, flat_at hi hk, checkGo.eq_2]
  exact ((if_neg e1).trans (if_neg e2)).symm
theorem CR.next (h : CR w seen i k) (hi : i < w.slots.length) (hk : k < (w.slots.getD i []).length) (hr : Wh.right ((w.slots.getD i []).getD k default) w.now = true) (hp : place ((w.slots.getD i []).getD k default).due w.now = (i : Int)) (ho : k = 0 ∨ Wh.ahead ((w.slots.getD i []).getD (k - 1) default) ((w.slots.getD i []).getD k default) = true) (hn : ∀ j, j < seen.length → ¬ (seen.getD j default).id = ((w.slots.getD i []).getD k default).id) : CR w (seen ++ [((w.slots.getD i []).getD k default)]) i (k + 1) := by
  obtain ⟨sl, last, g, rfl, rfl⟩ := h.ahead_ hi hk hr hp ho
  obtain ⟨a1, a2, a3⟩ := at_pre hi hk
  have hnew : ∀ t ∈ seen, ¬ t.id = ((w.slots.getD i []).getD k default).id := fun t ht => by
    obtain ⟨j, hj, rfl⟩ := List.getElem_of_mem ht
    have := hn j hj
    rwa [getD_of hj] at this
  refine ⟨⟨?_, ?_⟩, ?_, _, _, ?_, fun h => absurd h (by omega), fun _ => ⟨rfl, rfl⟩⟩
  · rw [List.map_append, List.nodup_append]
    refine ⟨h.ids.1, by simp, fun x hx y hy => ?_⟩
    obtain ⟨t, ht, rfl⟩ := List.mem_map.1 hx
    rw [List.map_singleton, List.mem_singleton] at hy
    subst hy; exact hnew t ht
  · intro x hx
    rw [List.map_append, List.mem_append] at hx
    rcases hx with hx | hx
    · exact h.ids.2 x hx
    · rw [List.map_singleton, List.mem_singleton] at hx
      subst hx
      have := (right_iff.1 hr).1
      exact ⟨this.1, by omega⟩
  · have e := tim_get a3
    rw [a2] at e
    rw [e, ← Nat.add_assoc, List.take_succ_eq_append_getElem a3, h.seen_, getD_of a3]
  · rw [← g, if_neg]
    · simp
    · rw [List.mem_reverse, List.mem_map]
      rintro ⟨t, ht, e⟩
      obtain ⟨j, hj, rfl⟩ := List.getElem_of_mem ht
      exact hn j hj (by rw [getD_of hj]; exact e)
theorem CR.twice (h : CR w seen i k) (h1 : okTime w.now = true) (h2 : (w.slots.length : Int) = 48) (hi : i < w.slots.length) (hk : k < (w.slots.getD i []).length) (hr : Wh.right ((w.slots.getD i []).getD k default) w.now = true) (hp : place ((w.slots.getD i []).getD k default).due w.now = (i : Int)) (ho : k = 0 ∨ Wh.ahead ((w.slots.getD i []).getD (k - 1) default) ((w.slots.getD i []).getD k default) = true) {j : Nat} (hj : j < seen.length) (he : (seen.getD j default).id = ((w.slots.getD i []).getD k default).id) : 6 = check w := by
  obtain ⟨sl, last, g, rfl, rfl⟩ := h.ahead_ hi hk hr hp ho
  rw [c_head h1 h2, ← g, if_pos]
  rw [List.mem_reverse, List.mem_map]
  exact ⟨_, List.getElem_mem hj, by rw [← he, getD_of hj]⟩
theorem CR.right (h : CR w seen i k) (h1 : okTime w.now = true) (h2 : (w.slots.length : Int) = 48) (hi : i < w.slots.length) (hk : k < (w.slots.getD i []).length) (hr : Wh.right ((w.slots.getD i []).getD k default) w.now = false) : 3 = check w := by
  obtain ⟨sl, last, g, g1, g2⟩ := h.go
  rw [c_head h1 h2, ← g, flat_at hi hk, checkGo.eq_2]
  exact (if_pos hr).symm
theorem CR.place (h : CR w seen i k) (h1 : okTime w.now = true) (h2 : (w.slots.length : Int) = 48) (hi : i < w.slots.length) (hk : k < (w.slots.getD i []).length) (hr : Wh.right ((w.slots.getD i []).getD k default) w.now = true) (hb : ¬ Wh.place ((w.slots.getD i []).getD k default).due w.now = (i : Int) ∨ (0 < k ∧ Wh.ahead ((w.slots.getD i []).getD (k - 1) default) ((w.slots.getD i []).getD k default) = false)) : 4 = check w := by
  obtain ⟨sl, last, g, g1, g2⟩ := h.go
  rw [c_head h1 h2, ← g, flat_at hi hk, checkGo.eq_2, if_neg (fun h9 => by rw [hr] at h9; cases h9)]
  refine (if_pos ?_).symm
  rcases hb with h9 | ⟨h9, h8⟩
  · exact .inl h9
  · obtain ⟨e1, e2⟩ := g2 h9
    refine .inr ⟨e1.symm, ?_⟩
    rw [e2]
    exact Classical.byContradiction fun h7 => by rw [not_ge.1 h7] at h8; cases h8
theorem CR.many (h : CR w seen 48 0) (h1 : okTime w.now = true) (h2 : (w.slots.length : Int) = 48) (hb : 60 < (seen.length : Int)) : 2 = check w := by
  obtain ⟨sl, last, g, _, _⟩ := h.go
  rw [c_head h1 h2, ← g, List.drop_of_length_le (by rw [flat_len, pre_all (by omega)]; exact Nat.le_add_right _ _), checkGo, if_pos (by simp; omega)]
theorem CR.fine (h : CR w seen 48 0) (h1 : okTime w.now = true) (h2 : (w.slots.length : Int) = 48) (hb : (seen.length : Int) ≤ 60) : 0 = check w := by
  obtain ⟨sl, last, g, _, _⟩ := h.go
  rw [c_head h1 h2, ← g, List.drop_of_length_le (by rw [flat_len, pre_all (by omega)]; exact Nat.le_add_right _ _), checkGo, if_neg (by simp; omega)]
theorem km {k : Nat} : ((k : Int) - 1).toNat = k - 1 := by omega
theorem hb_of {Q : Prop} {R : List DTimer} {k : Nat} (h : Q ∨ (0 < (k : Int) ∧ Wh.ahead (R.getD ((k : Int) - 1).toNat default) (R.getD k default) = false)) : Q ∨ (0 < k ∧ Wh.ahead (R.getD (k - 1) default) (R.getD k default) = false) := by
  rw [km] at h; exact h.imp id fun ⟨a, b⟩ => ⟨by omega, b⟩
theorem ho_of {R : List DTimer} {k : Nat} (h : (k : Int) ≤ 0 ∨ Wh.ahead (R.getD ((k : Int) - 1).toNat default) (R.getD k default) = true) : k = 0 ∨ Wh.ahead (R.getD (k - 1) default) (R.getD k default) = true := by
  rw [km] at h; exact h.imp (fun a => by omega) id
theorem nj_next {j : Nat} {l : List DTimer} {id : Int} (h : ∀ q, q < j → ¬ (l.getD q default).id = id) (h1 : ¬ (l.getD j default).id = id) : ∀ q, q < j + 1 → ¬ (l.getD q default).id = id := fun q hq => by
  rcases Nat.lt_succ_iff_lt_or_eq.1 hq with h2 | rfl
  · exact h q h2
  · exact h1
end
/-! ### TimersSorted -/
theorem isort_min : ∀ {l : List DTimer} {b : Nat} (hb : b < l.length), (∀ x ∈ l, Wh.ahead x l[b] = false) → isort l = l[b] :: isort (l.eraseIdx b)
  | y :: r, 0, _, h => by
    simp only [List.getElem_cons_zero, List.eraseIdx_cons_zero] at h ⊢
    show insI y (isort r) = y :: isort r
    cases e : isort r with
    | nil => rfl
    | cons x L =>
      have hx : x ∈ r := mem_isort.1 (by rw [e]; simp)
      exact if_neg (by rw [h x (by simp [hx])]; decide)
  | y :: r, b + 1, hb, h => by
    simp only [List.getElem_cons_succ, List.eraseIdx_cons_succ] at h ⊢
    have hb' : b < r.length := by simpa using hb
    have ih := isort_min hb' (fun x hx => h x (by simp [hx]))
    rw [isort, ih, isort, insI]
    rcases ahead_total (h y (by simp)) with e | e
    · rw [if_neg (by rw [← e, ahead_irrefl]; decide), ← e]
      congr 1
      cases e2 : isort (r.eraseIdx b) with
      | nil => rfl
      | cons x L =>
        have hx : x ∈ r := List.mem_of_mem_eraseIdx (mem_isort.1 (by rw [e2]; simp : x ∈ isort (r.eraseIdx b)))
        have hz : ¬ Wh.ahead x y = true := by rw [e, h x (by simp [hx])]; decide
        exact (if_neg hz).symm
    · rw [if_pos e]
def BI (l : List DTimer) (b : Int) (i : Nat) : Prop := i ≤ l.length ∧ (0 ≤ b ∧ b < (l.length : Int)) ∧ ∀ j, j < i → Wh.ahead (l.getD j default) (l.getD b.toNat default) = false
theorem BI.start {l : List DTimer} (h : 0 < l.length) : BI l 0 0 := ⟨Nat.zero_le _, by omega, fun j h => absurd h (by omega)⟩
theorem BI.yes {l : List DTimer} {b : Int} {i : Nat} (h : BI l b i) (hi : i < l.length) (hc : Wh.ahead (l.getD i default) (l.getD b.toNat default) = true) : BI l (i : Int) (i + 1) := by
  refine ⟨by omega, by omega, fun j hj => ?_⟩
  rw [Int.toNat_natCast]
  rcases Nat.lt_succ_iff_lt_or_eq.1 hj with h2 | rfl
  · cases h3 : Wh.ahead (l.getD j default) (l.getD i default) with
    | false => rfl
    | true => have := h.2.2 j h2; rw [ahead_trans h3 hc] at this; cases this
  · exact ahead_irrefl _
theorem BI.no {l : List DTimer} {b : Int} {i : Nat} (h : BI l b i) (hi : i < l.length) (hc : Wh.ahead (l.getD i default) (l.getD b.toNat default) = false) : BI l b (i + 1) :=
  ⟨by omega, h.2.1, fun j hj => by
    rcases Nat.lt_succ_iff_lt_or_eq.1 hj with h2 | rfl
    · exact h.2.2 j h2
    · exact hc⟩
theorem BI.min {l : List DTimer} {b : Int} {i : Nat} (h : BI l b i) (hi : l.length ≤ i) : isort l = l.getD b.toNat default :: isort (l.take b.toNat ++ l.drop (b + 1).toNat) := by
  obtain ⟨h1, h2, h3⟩ := h
  have hb : b.toNat < l.length := by omega
  have e := isort_min hb (fun x hx => by
    obtain ⟨j, hj, rfl⟩ := List.getElem_of_mem hx
    have := h3 j (by omega)
    rwa [getD_of hj, getD_of hb] at this)
  rw [e, getD_of hb, List.eraseIdx_eq_take_drop_succ, show (b + 1).toNat = b.toNat + 1 by omega]
theorem ts_next {l left out : List DTimer} {b : Int} {i : Nat} (h : out ++ isort left = isort l) (hb : BI left b i) (hi : left.length ≤ i) : (out ++ [left.getD b.toNat default]) ++ isort (left.take b.toNat ++ left.drop (b + 1).toNat) = isort l := by
  rw [← h, hb.min hi]; simp
theorem isort_len (l : List DTimer) : (isort l).length = l.length := by
  induction l with
  | nil => rfl
  | cons y l ih =>
    have h : ∀ m : List DTimer, (insI y m).length = m.length + 1 := fun m => by
      induction m with
      | nil => rfl
      | cons z m ih2 => unfold insI; split <;> simp [ih2]
    rw [isort, h, ih]; rfl
/-! ### WheelOf -/
theorem mkW_push {now : Int} {S : List DTimer} {t : DTimer} : mkW now (S ++ [t]) = ⟨now, (mkW now S).slots.set (place t.due now).toNat ((mkW now S).slots.getD (place t.due now).toNat [] ++ [t])⟩ := by
  obtain ⟨p1, p2⟩ := place_nat t.due now
  refine wh_ext rfl (by rw [mkW_len]; show _ = ((mkW now S).slots.set _ _).length; rw [List.length_set, mkW_len]) fun i hi => ?_
  have hi' : i < 48 := by rwa [mkW_len] at hi
  rw [mkW_row hi']
  show _ = ((mkW now S).slots.set _ _).getD i []
  by_cases e : i = (place t.due now).toNat
  · subst e
    rw [getD_set_self (by rw [mkW_len]; exact p2), mkW_row p2, List.filter_append]
    simp [p1]
  · rw [getD_set_ne e, mkW_row hi', List.filter_append]
    have : ¬ place t.due now = (i : Int) := by omega
    simp [this]
def ofI (now : Int) (l : List DTimer) (i : Nat) : DWheel := mkW now (((isort l).take i).filter fun t => decide (now < t.due))
def of (now : Int) (l : List DTimer) : DWheel := mkW now ((isort l).filter fun t => decide (now < t.due))
theorem of_start (now : Int) (l : List DTimer) : (⟨now, List.replicate 48 []⟩ : DWheel) = ofI now l 0 := rfl
theorem of_yes {now : Int} {l : List DTimer} {w : DWheel} {i : Nat} (h : w = ofI now l i) (hi : i < (isort l).length) (hc : now < ((isort l).getD i default).due) : (⟨w.now, w.slots.set (place ((isort l).getD i default).due now).toNat (w.slots.getD (place ((isort l).getD i default).due now).toNat [] ++ [(isort l).getD i default])⟩ : DWheel) = ofI now l (i + 1) := by
  rw [h, ofI, ofI, List.take_succ_eq_append_getElem hi, List.filter_append]
  rw [getD_of hi] at hc ⊢
  rw [show [(isort l)[i]].filter (fun t => decide (now < t.due)) = [(isort l)[i]] by simp [hc], mkW_push]
  rfl
theorem of_no {now : Int} {l : List DTimer} {w : DWheel} {i : Nat} (h : w = ofI now l i) (hi : i < (isort l).length) (hc : ¬ now < ((isort l).getD i default).due) : w = ofI now l (i + 1) := by
  rw [h, ofI, ofI, List.take_succ_eq_append_getElem hi, List.filter_append]
  rw [getD_of hi] at hc
  rw [show [(isort l)[i]].filter (fun t => decide (now < t.due)) = [] by simp; omega, List.append_nil]
theorem of_due {l : List DTimer} (h : ∀ t ∈ l, 0 ≤ t.due ∧ t.due ≤ 262143) {i : Nat} (hi : i < (isort l).length) : 0 ≤ ((isort l).getD i default).due ∧ ((isort l).getD i default).due ≤ 262143 := by
  rw [getD_of hi]; exact h _ (mem_isort.1 (List.getElem_mem hi))
theorem of_len (now : Int) (l : List DTimer) (i : Nat) : (ofI now l i).slots.length = 48 := mkW_len _ _
theorem of_row (now : Int) (l : List DTimer) (i j : Nat) : ((ofI now l i).slots.getD j []).length ≤ l.length := by
  by_cases h : j < 48
  · rw [ofI, mkW_row h]
    refine Nat.le_trans (List.length_filter_le _ _) (Nat.le_trans (List.length_filter_le _ _) ?_)
    rw [List.length_take, isort_len]; omega
  · rw [List.getD_eq_getElem?_getD, List.getElem?_eq_none (by rw [of_len]; omega)]; exact Nat.zero_le _
theorem of_done {now : Int} {l : List DTimer} {w : DWheel} {i : Nat} (h : w = ofI now l i) (hi : (isort l).length ≤ i) : w = of now l := by rw [h, ofI, List.take_of_length_le hi]; rfl
/-! ### SameTimers, SameWheel, HasTimer -/
theorem st_no1 {a b : List DTimer} (h : ¬ (a.length : Int) = b.length) : false = decide (a = b) := (decide_eq_false fun e => h (by rw [e])).symm
theorem st_no2 {a b : List DTimer} {i : Nat} (h : ¬ a.getD i default = b.getD i default) : false = decide (a = b) := (decide_eq_false fun e => h (by rw [e])).symm
theorem st_yes {a b : List DTimer} {i : Nat} (hl : (a.length : Int) = b.length) (hi : a.length ≤ i) (h : ∀ j, j < i → a.getD j default = b.getD j default) : true = decide (a = b) :=
  (decide_eq_true (List.ext_getElem (by omega) fun j h1 h2 => by have := h j (by omega); rwa [getD_of h1, getD_of h2] at this)).symm
theorem tim_eq {a b : DTimer} : (a.id = b.id ∧ a.due = b.due) ↔ a = b := by
  obtain ⟨i, d⟩ := a; obtain ⟨j, e⟩ := b; simp
theorem all_next' {α : Type} {a b : List α} {d : α} {i : Nat} (h : ∀ j, j < i → a.getD j d = b.getD j d) (h1 : a.getD i d = b.getD i d) : ∀ j, j < i + 1 → a.getD j d = b.getD j d := fun j hj => by
  rcases Nat.lt_succ_iff_lt_or_eq.1 hj with h2 | rfl
  · exact h j h2
  · exact h1
theorem sw_no1 {a b : DWheel} (h : ¬ a.now = b.now ∨ ¬ (a.slots.length : Int) = b.slots.length) : false = decide (a = b) := (decide_eq_false fun e => by subst e; rcases h with h | h <;> exact h rfl).symm
theorem sw_no2 {a b : DWheel} {i : Nat} (h : ¬ a.slots.getD i [] = b.slots.getD i []) : false = decide (a = b) := (decide_eq_false fun e => h (by rw [e])).symm
theorem sw_yes {a b : DWheel} {i : Nat} (hl : a.now = b.now ∧ (a.slots.length : Int) = b.slots.length) (hi : a.slots.length ≤ i) (h : ∀ j, j < i → a.slots.getD j [] = b.slots.getD j []) : true = decide (a = b) :=
  (decide_eq_true (wh_ext hl.1 (by omega) fun j h1 => h j (by omega))).symm
def has (l : List DTimer) (id : Int) : Bool := l.any fun t => t.id == id
theorem has_yes {l : List DTimer} {id : Int} {i : Nat} (hi : i < l.length) (h : (l.getD i default).id = id) : true = has l id := by
  symm; unfold has; rw [List.any_eq_true]
  exact ⟨_, List.getElem_mem hi, by rw [getD_of hi] at h; simpa using h⟩
theorem has_no {l : List DTimer} {id : Int} {i : Nat} (hi : l.length ≤ i) (h : ∀ j, j < i → ¬ (l.getD j default).id = id) : false = has l id := by
  symm; unfold has; rw [List.any_eq_false]
  intro t ht
  obtain ⟨j, hj, rfl⟩ := List.getElem_of_mem ht
  have := h j (by omega)
  rw [getD_of hj] at this; simpa using this
end Go.Sx.Wh

/- The walks, printed by a program from the translation and a specification. -/
namespace Go.Proofs.Ytnmbkopnopaigaa
open Go.Sx Go.RowKit
set_option maxHeartbeats 8000000 in
set_option maxRecDepth 100000 in
theorem between_ok (n : Int) (a : Int) (b : Int) : Fn0 Try.prog 59 [Vi n, Vi a, Vi b] (fun _ => True) (.bool (Ref.between n a b)) := by
 refine fn0 (nt := 15) (F0 := [(0, Vi n), (1, Vi a), (2, Vi b)]) Try.func59 rfl Try.ntmps59 rfl rfl (fun w0 hpre => ?_)
 refine c_seq (c_region ?_)
 refine o_as rfl rfl ?_
 refine o_nil (q_then (c_seq (c_region ?_)))
 refine o_mv rfl rfl ?_
 refine o_mv rfl rfl ?_
 refine o_p (p_ge rfl rfl) ?_
 refine o_mv rfl rfl ?_
 refine o_and (p := 14) 4 (decide (n ≤ b)) ?_ ?_ ?_
 ·intro hb1 hk
  simp only [decide_eq_true_eq] at hb1
  refine o_unguard 10 rfl rfl ?_
  refine o_mv rfl rfl ?_
  refine o_unguard 10 rfl rfl ?_
  refine o_mv rfl rfl ?_
  refine o_unguard 10 rfl rfl ?_
  refine o_p (p_le rfl rfl) ?_
  refine o_pt rfl rfl rfl ?_
  exact o_sub (sr (Sub.skip rfl (Sub.skip rfl (Sub.skip rfl (Sub.skip rfl (Sub.skip rfl (Sub.refl _))))))) hk
 ·intro hb1 hk
  refine o_guard_no rfl 10 rfl rfl rfl rfl rfl ?_
  refine o_guard_no rfl 10 rfl rfl rfl rfl rfl ?_
  refine o_guard_no rfl 10 rfl rfl rfl rfl rfl ?_
  refine o_pf rfl rfl rfl ?_
  exact o_sub (sr (Sub.skip rfl (Sub.skip rfl (Sub.skip rfl (Sub.skip rfl (Sub.skip rfl (Sub.refl _))))))) hk
 refine o_as rfl rfl ?_
 refine o_nil (q_then (c_ret ?_))
 have hr0 : ((decide (a ≤ n) && decide (n ≤ b)) : Bool) = (Ref.between n a b) := by
  rfl
 refine q_end0 (v := .bool (decide (a ≤ n) && decide (n ≤ b))) (rt1 rfl (r_tmp rfl)) (i := 0) rfl ?_
 exact (by have hcc := congrArg (fun (y0 : Bool) => (.bool y0 : Value)) hr0; exact hcc)

set_option maxHeartbeats 8000000 in
set_option maxRecDepth 100000 in
theorem digits_ok (n : Int) (hy1 : 0 ≤ n ∧ n ≤ 262143) : FnM Try.prog 114 [Vi n] (fun _ => True) (Option Addr × Nat) (fun p => .slice p.1 (Wh.digs n).length p.2) (fun p S w => SlO tInt S w p.1 p.2 (Wh.digs n)) := by
 refine fnM (nt := 18) (F0 := [(0, Vi n)]) Try.func114 rfl Try.ntmps114 rfl rfl (fun w0 hpre => ?_)
 refine c_seq (c_region ?_)
 refine o_as rfl rfl ?_
 refine o_nil (q_then (c_seq (c_region ?_)))
 refine o_makeSlice (T := tInt) (m := 6) (z := 0) rfl rfl Try.underlying37 el3 ze3 rfl (by decide) (by omega) (by omega) rfl (fun S2 a1 => ?_)
 refine o_as rfl rfl ?_
 refine o_nil (q_then (c_seq (c_seq (c_region ?_))))
 refine o_as rfl rfl ?_
 refine o_nil (q_then (c_block ?_))
 refine c_loop (St := Int × Int × List Int)
  (fun ⟨nn, i, ls⟩ => [(0, Vi nn), (3, .slice a1 ls.length 6), (4, Vi i)])
  (fun ⟨nn, i, ls⟩ => [own tInt S2 a1 6 ls, base w0])
  (fun ⟨nn, i, ls⟩ => Wh.DgI n nn ls i)
  (fun ⟨nn, i, ls⟩ => (i + 1).toNat)
  (n, 5, (List.replicate 6 0)) ?_ (sr (sr (sr (Sub.nil _)))) (fun _ hw => hw) ?_
 ·exact Wh.DgI.start n
 rintro ⟨nn, i, ls⟩ hI K hK4
 have hll := hI.len
 have hbd := hI.bd hy1
 have hib := hI.1
 have hdv : nn.tdiv 8 = nn / 8 := Int.tdiv_eq_ediv_of_nonneg (by omega)
 show SC _ _ Try.prog 18 w0 _ _ [(0, Vi nn), (3, .slice a1 ls.length 6), (4, Vi i)] [own tInt S2 a1 6 ls, base w0]
 refine c_seq (c_seq (c_region ?_))
 refine o_mv rfl rfl ?_
 refine o_p (p_ge rfl rfl) ?_
 refine o_nil (q_then ?_)
 refine c_cond rfl (fun hc5 => ?_) (fun hc5 => ?_)
 ·simp only [decide_eq_true_eq] at hc5
  refine c_skip (q_then (c_seq (c_block (c_seq (c_region ?_)))))
  refine o_mv rfl rfl ?_
  refine o_mv rfl rfl ?_
  refine o_mv rfl rfl ?_
  refine o_p (p_rem (p := nn) (q := 8) rfl rfl (by decide)) ?_
  refine o_p (p_indexAddr (L := ls) (T := tInt) (i := i) rfl rfl (rd_own (i := 0) rfl) Try.underlying37 sz3 (by omega) (by omega)) ?_
  refine o_storeW (i := 0) (T := tInt) (idx := i.toNat) (v := Vi (nn.tmod 8)) (vs := [Vi (nn.tmod 8)]) (z := (nn.tmod 8)) (F' := [(0, Vi nn), (3, .slice a1 (ls.set i.toNat (nn.tmod 8)).length 6), (4, Vi i)]) rfl rfl rfl rfl (by first | assumption | omega | (simp only [List.length_set]; omega)) sz3 rfl rfl rfl rfl (sr (Sub.cons (by first | (simp only [List.length_set]; rfl) | (show some _ = some _; congr 2; rw [List.length_set]) | (rw [List.length_set]; rfl)) (sr (Sub.nil _)))) ?_
  refine o_nil (q_then (c_region ?_))
  refine o_mv rfl rfl ?_
  refine o_p (p_quob (p := nn) (q := 8) rfl rfl (by decide) (by omega)) ?_
  refine o_as rfl rfl ?_
  refine o_nil ?_
  refine q_block_normal (q_then ?_)
  refine c_region ?_
  refine o_mv rfl rfl ?_
  refine o_p (p_subb rfl rfl (by omega)) ?_
  refine o_as rfl rfl ?_
  refine o_nil ?_
  refine q_round hK4 ((nn.tdiv 8), (i - 1), (ls.set i.toNat (nn.tmod 8))) ?_ ?_ ?_ ?_
  ·clear hK4
   exact hI.next (by omega) hy1
  ·(try dsimp only); omega
  ·exact sr (sr (sr (Sub.nil _)))
  ·exact pk [0, 1]
 ·simp only [decide_eq_false_iff_not, Int.not_le] at hc5
  refine c_exit ?_
  refine q_then_exit (q_then_exit (q_block_exit (q_then ?_)))
  refine c_seq (c_region ?_)
  refine o_mv rfl rfl ?_
  refine o_as rfl rfl ?_
  refine o_nil (q_then (c_ret ?_))
  have hr0 : (ls : List Int) = (Wh.digs n) := by
   exact hI.done (by omega)
  refine q_endM (p := (a1, 6)) S2 (rt1 rfl (r_tmp rfl)) (i := 1) rfl ?_ ?_ ?_
  ·exact (by have hcc := congrArg (fun (y0 : List Int) => (.slice a1 y0.length 6 : Value)) hr0; exact hcc)
  ·exact fun w hw => hw.above (i := 1) (j := 0) (by decide) rfl rfl
  ·intro w hw; exact Eq.mp (congrArg (fun y => SlO tInt _ w a1 6 y) hr0) ((hw.at (i := 0) rfl).here)

set_option maxHeartbeats 8000000 in
set_option maxRecDepth 100000 in
theorem wheelPlace_ok (at_ : Int) (now : Int) (hy1 : 0 ≤ at_ ∧ at_ ≤ 262143) (hy2 : 0 ≤ now ∧ now ≤ 262143) : Fn0 Try.prog 75 [Vi at_, Vi now] (fun _ => True) (Vi (Wh.place at_ now)) := by
 refine fn0 (nt := 35) (F0 := [(0, Vi at_), (1, Vi now)]) Try.func75 rfl Try.ntmps75 rfl rfl (fun w0 hpre => ?_)
 have hdl1 := Wh.digs_len at_
 have hdl2 := Wh.digs_len now
 refine c_seq (c_region ?_)
 refine o_as rfl rfl ?_
 refine o_nil (q_then (c_seq (c_region ?_)))
 refine o_mv rfl rfl ?_
 refine o_callM rfl (digits_ok at_ (by first | assumption | omega)) hf114 (fun _ _ => trivial) rfl (fun _ _ _ _ ha hA => SlO.agree ha hA) ?_
 rintro ⟨a3, c4⟩ S1
 refine o_know (fun w hw => own_len (i := 0) (T := tInt) hw rfl) (fun hlr5 => ?_)
 refine o_mv rfl rfl ?_
 refine o_callM rfl (digits_ok now (by first | assumption | omega)) hf114 (fun _ _ => trivial) rfl (fun _ _ _ _ ha hA => SlO.agree ha hA) ?_
 rintro ⟨a8, c9⟩ S6
 refine o_know (fun w hw => own_len (i := 0) (T := tInt) hw rfl) (fun hlr10 => ?_)
 refine o_as rfl rfl ?_
 refine o_as rfl rfl ?_
 refine o_nil (q_then (c_seq (c_region ?_)))
 refine o_as rfl rfl ?_
 refine o_nil (q_then (c_seq (c_block ?_)))
 refine c_loop (St := Nat)
  (fun i => [(5, .slice a3 (Wh.digs at_).length c4), (6, .slice a8 (Wh.digs now).length c9), (7, Vi (i : Int))])
  (fun i => [own tInt S6 a8 c9 (Wh.digs now), own tInt S1 a3 c4 (Wh.digs at_), base w0])
  (fun i => i ≤ 5 ∧ ∀ j, j < i → (Wh.digs at_).getD j default = (Wh.digs now).getD j default)
  (fun i => 5 - i)
  0 ?_ (sr (sr (sr (Sub.nil _)))) (fun _ hw => hw) ?_
 ·exact ⟨Nat.zero_le _, fun j h => absurd h (Nat.not_lt_zero j)⟩
 rintro i hI K hK11
 show SC _ _ Try.prog 35 w0 _ _ [(5, .slice a3 (Wh.digs at_).length c4), (6, .slice a8 (Wh.digs now).length c9), (7, Vi (i : Int))] [own tInt S6 a8 c9 (Wh.digs now), own tInt S1 a3 c4 (Wh.digs at_), base w0]
 refine c_seq (c_seq ?_)
 refine c_draw hmix (by kernel_rfl) ?_
 refine w_mv rfl rfl ?_
 refine w_p (p_lt rfl rfl) ?_
 refine w_mv rfl rfl ?_
 refine w_and (p := 24) 10 (((Wh.digs at_).getD i default) == ((Wh.digs now).getD i default)) ?_ ?_ ?_
 ·intro hb12 hk
  simp only [decide_eq_true_eq] at hb12
  refine w_unguard 14 rfl rfl ?_
  refine w_mv rfl rfl ?_
  refine w_unguard 14 rfl rfl ?_
  refine w_mv rfl rfl ?_
  refine w_unguard 14 rfl rfl ?_
  refine w_p (p_indexAddr (L := (Wh.digs at_)) (T := tInt) (i := (i : Int)) rfl rfl (rd_own (i := 1) rfl) Try.underlying37 sz3 (by omega) (by omega)) ?_
  refine w_unguard 14 rfl rfl ?_
  refine w_p (p_loadE1 (i := i) (T := tInt) (L := (Wh.digs at_)) (v := Vi ((Wh.digs at_).getD i default)) rfl (rd_own (i := 1) rfl) (by first | assumption | omega) sh3 (congrArg tInt.enc (getd_at (by first | assumption | omega) default))) ?_
  refine w_unguard 14 rfl rfl ?_
  refine w_mv rfl rfl ?_
  refine w_unguard 14 rfl rfl ?_
  refine w_mv rfl rfl ?_
  refine w_unguard 14 rfl rfl ?_
  refine w_p (p_indexAddr (L := (Wh.digs now)) (T := tInt) (i := (i : Int)) rfl rfl (rd_own (i := 0) rfl) Try.underlying37 sz3 (by omega) (by omega)) ?_
  refine w_unguard 14 rfl rfl ?_
  refine w_p (p_loadE1 (i := i) (T := tInt) (L := (Wh.digs now)) (v := Vi ((Wh.digs now).getD i default)) rfl (rd_own (i := 0) rfl) (by first | assumption | omega) sh3 (congrArg tInt.enc (getd_at (by first | assumption | omega) default))) ?_
  refine w_unguard 14 rfl rfl ?_
  refine w_p (p_eq rfl rfl) ?_
  refine w_pt rfl rfl rfl ?_
  exact w_sub (sr (Sub.skip rfl (Sub.skip rfl (Sub.skip rfl (Sub.skip rfl (Sub.skip rfl (Sub.skip rfl (Sub.skip rfl (Sub.skip rfl (Sub.skip rfl (Sub.skip rfl (Sub.skip rfl (Sub.refl _))))))))))))) hk
 ·intro hb12 hk
  refine w_guard_no rfl 14 rfl rfl rfl rfl rfl ?_
  refine w_guard_no rfl 14 rfl rfl rfl rfl rfl ?_
  refine w_guard_no rfl 14 rfl rfl rfl rfl rfl ?_
  refine w_guard_no rfl 14 rfl rfl rfl rfl rfl ?_
  refine w_guard_no rfl 14 rfl rfl rfl rfl rfl ?_
  refine w_guard_no rfl 14 rfl rfl rfl rfl rfl ?_
  refine w_guard_no rfl 14 rfl rfl rfl rfl rfl ?_
  refine w_guard_no rfl 14 rfl rfl rfl rfl rfl ?_
  refine w_guard_no rfl 14 rfl rfl rfl rfl rfl ?_
  refine w_pf rfl rfl rfl ?_
  exact w_sub (sr (Sub.skip rfl (Sub.skip rfl (Sub.skip rfl (Sub.skip rfl (Sub.skip rfl (Sub.skip rfl (Sub.skip rfl (Sub.skip rfl (Sub.skip rfl (Sub.skip rfl (Sub.skip rfl (Sub.refl _))))))))))))) hk
 refine w_nil (q_then ?_)
 refine c_cond rfl (fun hc13 => ?_) (fun hc13 => ?_)
 ·simp only [Bool.and_eq_true, decide_eq_true_eq, beq_iff_eq] at hc13
  have hdq := hc13
  refine c_skip (q_then (c_block (c_region ?_)))
  refine o_mv rfl rfl ?_
  refine o_p (p_addb rfl rfl (by have h9 := Wh.digs_bd at_ i; omega)) ?_
  refine o_as rfl rfl ?_
  refine o_nil ?_
  refine q_block_normal ?_
  refine q_round hK11 (i + 1) ?_ ?_ ?_ ?_
  ·clear hK11
   exact ⟨by omega, Wh.plc_next hI.2 hdq.2⟩
  ·(try dsimp only); omega
  ·exact sr (sr (sr (Sub.nil _)))
  ·exact pk [0, 1, 2]
 ·simp only [Bool.and_eq_false_iff, decide_eq_false_iff_not, Int.not_lt, beq_eq_false_iff_ne, ne_eq] at hc13
  have hdq := hc13
  refine c_exit ?_
  refine q_then_exit (q_then_exit (q_block_exit (q_then ?_)))
  refine c_seq (c_region ?_)
  refine o_mv rfl rfl ?_
  refine o_p (p_subb rfl rfl (by have h9 := Wh.digs_bd at_ i; omega)) ?_
  refine o_p (p_mulb (p := 8) (q := (5 - (i : Int))) rfl rfl (by have h9 := Wh.digs_bd at_ i; omega)) ?_
  refine o_mv rfl rfl ?_
  refine o_mv rfl rfl ?_
  refine o_p (p_indexAddr (L := (Wh.digs at_)) (T := tInt) (i := (i : Int)) rfl rfl (rd_own (i := 1) rfl) Try.underlying37 sz3 (by omega) (by omega)) ?_
  refine o_p (p_loadE1 (i := i) (T := tInt) (L := (Wh.digs at_)) (v := Vi ((Wh.digs at_).getD i default)) rfl (rd_own (i := 1) rfl) (by first | assumption | omega) sh3 (congrArg tInt.enc (getd_at (by first | assumption | omega) default))) ?_
  refine o_p (p_addb rfl rfl (by have h9 := Wh.digs_bd at_ i; omega)) ?_
  refine o_as rfl rfl ?_
  refine o_nil (q_then (c_ret ?_))
  have hr0 : (((8 * (5 - (i : Int))) + ((Wh.digs at_).getD i default)) : Int) = (Wh.place at_ now) := by
   exact Wh.plc_done hy1 hy2 (by omega) hI.2 (by rcases hdq with h9 | h9; exact .inl (by omega); exact .inr h9)
  refine q_end0 (v := Vi ((8 * (5 - (i : Int))) + ((Wh.digs at_).getD i default))) (rt1 rfl (r_tmp rfl)) (i := 2) rfl ?_
  exact (by have hcc := congrArg (fun (y0 : Int) => (.int .i64 y0 : Value)) hr0; exact hcc)

set_option maxHeartbeats 8000000 in
set_option maxRecDepth 100000 in
theorem timerRight_ok (t : DTimer) (now : Int) : Fn0 Try.prog 38 [.agg #[Vi t.id, Vi t.due], Vi now] (fun _ => True) (.bool (Wh.right t now)) := by
 refine fn0 (nt := 19) (F0 := [(0, .agg #[Vi t.id, Vi t.due]), (1, Vi now)]) Try.func38 rfl Try.ntmps38 rfl rfl (fun w0 hpre => ?_)
 refine c_seq (c_region ?_)
 refine o_box (v := .agg #[Vi t.id, Vi t.due]) rfl rfl (fun B1 => ?_)
 refine o_as rfl rfl ?_
 refine o_nil (q_then (c_seq (c_region ?_)))
 refine o_p (p_fieldAddr (j' := 0) rfl fo52_0 rfl) ?_
 refine o_p (p_load (i := 0) (v := Vi t.id) rfl rfl sh3 rfl) ?_
 refine o_call0 (v := .bool (Ref.between t.id (0 : Int) (1048576 : Int))) rfl (between_ok t.id (0 : Int) (1048576 : Int)) hf59 (fun _ _ => trivial) rfl ?_
 refine o_mv rfl rfl ?_
 refine o_and (p := 12) 4 (Ref.between t.due (0 : Int) (262143 : Int)) ?_ ?_ ?_
 ·intro hb2 hk
  skip
  refine o_unguard 8 rfl rfl ?_
  refine o_p (p_fieldAddr (j' := 1) rfl fo52_1 rfl) ?_
  refine o_unguard 8 rfl rfl ?_
  refine o_p (p_load (i := 0) (v := Vi t.due) rfl rfl sh3 rfl) ?_
  refine o_unguard 8 rfl rfl ?_
  refine o_call0 (v := .bool (Ref.between t.due (0 : Int) (262143 : Int))) rfl (between_ok t.due (0 : Int) (262143 : Int)) hf59 (fun _ _ => trivial) rfl ?_
  refine o_pt rfl rfl rfl ?_
  exact o_sub (sr (Sub.skip rfl (Sub.skip rfl (Sub.skip rfl (Sub.skip rfl (Sub.skip rfl (Sub.refl _))))))) hk
 ·intro hb2 hk
  refine o_guard_no rfl 8 rfl rfl rfl rfl rfl ?_
  refine o_guard_no rfl 8 rfl rfl rfl rfl rfl ?_
  refine o_guard_no rfl 8 rfl rfl rfl rfl rfl ?_
  refine o_pf rfl rfl rfl ?_
  exact o_sub (sr (Sub.skip rfl (Sub.skip rfl (Sub.skip rfl (Sub.skip rfl (Sub.skip rfl (Sub.refl _))))))) hk
 refine o_mv rfl rfl ?_
 refine o_and (p := 18) 5 (decide (now < t.due)) ?_ ?_ ?_
 ·intro hb3 hk
  simp only [Bool.and_eq_true] at hb3
  refine o_unguard 13 rfl rfl ?_
  refine o_p (p_fieldAddr (j' := 1) rfl fo52_1 rfl) ?_
  refine o_unguard 13 rfl rfl ?_
  refine o_p (p_load (i := 0) (v := Vi t.due) rfl rfl sh3 rfl) ?_
  refine o_unguard 13 rfl rfl ?_
  refine o_mv rfl rfl ?_
  refine o_unguard 13 rfl rfl ?_
  refine o_p (p_gt rfl rfl) ?_
  refine o_pt rfl rfl rfl ?_
  exact o_sub (sr (Sub.skip rfl (Sub.skip rfl (Sub.skip rfl (Sub.skip rfl (Sub.skip rfl (Sub.skip rfl (Sub.refl _)))))))) hk
 ·intro hb3 hk
  refine o_guard_no rfl 13 rfl rfl rfl rfl rfl ?_
  refine o_guard_no rfl 13 rfl rfl rfl rfl rfl ?_
  refine o_guard_no rfl 13 rfl rfl rfl rfl rfl ?_
  refine o_guard_no rfl 13 rfl rfl rfl rfl rfl ?_
  refine o_pf rfl rfl rfl ?_
  exact o_sub (sr (Sub.skip rfl (Sub.skip rfl (Sub.skip rfl (Sub.skip rfl (Sub.skip rfl (Sub.skip rfl (Sub.refl _)))))))) hk
 refine o_as rfl rfl ?_
 refine o_nil (q_then (c_ret ?_))
 have hr0 : ((((Ref.between t.id (0 : Int) (1048576 : Int)) && (Ref.between t.due (0 : Int) (262143 : Int))) && decide (now < t.due)) : Bool) = (Wh.right t now) := by
  rfl
 refine q_end0 (v := .bool (((Ref.between t.id (0 : Int) (1048576 : Int)) && (Ref.between t.due (0 : Int) (262143 : Int))) && decide (now < t.due))) (rt1 rfl (r_tmp rfl)) (i := 1) rfl ?_
 exact (by have hcc := congrArg (fun (y0 : Bool) => (.bool y0 : Value)) hr0; exact hcc)

set_option maxHeartbeats 8000000 in
set_option maxRecDepth 100000 in
theorem timerAhead_ok (a : DTimer) (b : DTimer) : Fn0 Try.prog 76 [.agg #[Vi a.id, Vi a.due], .agg #[Vi b.id, Vi b.due]] (fun _ => True) (.bool (Wh.ahead a b)) := by
 refine fn0 (nt := 24) (F0 := [(0, .agg #[Vi a.id, Vi a.due]), (1, .agg #[Vi b.id, Vi b.due])]) Try.func76 rfl Try.ntmps76 rfl rfl (fun w0 hpre => ?_)
 refine c_seq (c_region ?_)
 refine o_box (v := .agg #[Vi a.id, Vi a.due]) rfl rfl (fun B1 => ?_)
 refine o_box (v := .agg #[Vi b.id, Vi b.due]) rfl rfl (fun B2 => ?_)
 refine o_as rfl rfl ?_
 refine o_nil (q_then (c_seq (c_region ?_)))
 refine o_p (p_fieldAddr (j' := 1) rfl fo52_1 rfl) ?_
 refine o_p (p_load (i := 1) (v := Vi a.due) rfl rfl sh3 rfl) ?_
 refine o_p (p_fieldAddr (j' := 1) rfl fo52_1 rfl) ?_
 refine o_p (p_load (i := 0) (v := Vi b.due) rfl rfl sh3 rfl) ?_
 refine o_p (p_lt rfl rfl) ?_
 refine o_mv rfl rfl ?_
 refine o_or (p := 23) 13 ((a.due == b.due) && decide (a.id < b.id)) ?_ ?_ ?_
 ·intro hb3 hk
  simp only [decide_eq_false_iff_not, Int.not_lt] at hb3
  refine o_unguard 10 rfl rfl ?_
  refine o_p (p_fieldAddr (j' := 1) rfl fo52_1 rfl) ?_
  refine o_unguard 10 rfl rfl ?_
  refine o_p (p_load (i := 1) (v := Vi a.due) rfl rfl sh3 rfl) ?_
  refine o_unguard 10 rfl rfl ?_
  refine o_p (p_fieldAddr (j' := 1) rfl fo52_1 rfl) ?_
  refine o_unguard 10 rfl rfl ?_
  refine o_p (p_load (i := 0) (v := Vi b.due) rfl rfl sh3 rfl) ?_
  refine o_unguard 10 rfl rfl ?_
  refine o_p (p_eq rfl rfl) ?_
  refine o_unguard 10 rfl rfl ?_
  refine o_mv rfl rfl ?_
  refine o_and (p := 22) 6 (decide (a.id < b.id)) ?_ ?_ ?_
  ·intro hb4 hk
   simp only [beq_iff_eq] at hb4
   refine o_unguard 16 rfl rfl ?_
   refine o_p (p_fieldAddr (j' := 0) rfl fo52_0 rfl) ?_
   refine o_unguard 16 rfl rfl ?_
   refine o_p (p_load (i := 1) (v := Vi a.id) rfl rfl sh3 rfl) ?_
   refine o_unguard 16 rfl rfl ?_
   refine o_p (p_fieldAddr (j' := 0) rfl fo52_0 rfl) ?_
   refine o_unguard 16 rfl rfl ?_
   refine o_p (p_load (i := 0) (v := Vi b.id) rfl rfl sh3 rfl) ?_
   refine o_unguard 16 rfl rfl ?_
   refine o_p (p_lt rfl rfl) ?_
   refine o_unguard 10 rfl rfl ?_
   refine o_pt rfl rfl rfl ?_
   exact o_sub (sr (Sub.skip rfl (Sub.skip rfl (Sub.skip rfl (Sub.skip rfl (Sub.skip rfl (Sub.skip rfl (Sub.skip rfl (Sub.refl _))))))))) hk
  ·intro hb4 hk
   refine o_guard_no rfl 16 rfl rfl rfl rfl rfl ?_
   refine o_guard_no rfl 16 rfl rfl rfl rfl rfl ?_
   refine o_guard_no rfl 16 rfl rfl rfl rfl rfl ?_
   refine o_guard_no rfl 16 rfl rfl rfl rfl rfl ?_
   refine o_guard_no rfl 16 rfl rfl rfl rfl rfl ?_
   refine o_unguard 10 rfl rfl ?_
   refine o_pf rfl rfl rfl ?_
   exact o_sub (sr (Sub.skip rfl (Sub.skip rfl (Sub.skip rfl (Sub.skip rfl (Sub.skip rfl (Sub.skip rfl (Sub.skip rfl (Sub.refl _))))))))) hk
  refine o_pf rfl rfl rfl ?_
  exact o_sub (sr (Sub.skip rfl (Sub.skip rfl (Sub.skip rfl (Sub.skip rfl (Sub.skip rfl (Sub.skip rfl (Sub.skip rfl (Sub.skip rfl (Sub.refl _)))))))))) hk
 ·intro hb3 hk
  refine o_guard_no rfl 10 rfl rfl rfl rfl rfl ?_
  refine o_guard_no rfl 10 rfl rfl rfl rfl rfl ?_
  refine o_guard_no rfl 10 rfl rfl rfl rfl rfl ?_
  refine o_guard_no rfl 10 rfl rfl rfl rfl rfl ?_
  refine o_guard_no rfl 10 rfl rfl rfl rfl rfl ?_
  refine o_guard_no rfl 10 rfl rfl rfl rfl rfl ?_
  refine o_guard_no rfl 16 rfl rfl rfl rfl rfl ?_
  refine o_guard_no rfl 16 rfl rfl rfl rfl rfl ?_
  refine o_guard_no rfl 16 rfl rfl rfl rfl rfl ?_
  refine o_guard_no rfl 16 rfl rfl rfl rfl rfl ?_
  refine o_guard_no rfl 16 rfl rfl rfl rfl rfl ?_
  refine o_guard_no rfl 10 rfl rfl rfl rfl rfl ?_
  refine o_pt rfl rfl rfl ?_
  exact o_sub (sr (Sub.skip rfl (Sub.skip rfl (Sub.skip rfl (Sub.skip rfl (Sub.skip rfl (Sub.skip rfl (Sub.skip rfl (Sub.skip rfl (Sub.skip rfl (Sub.skip rfl (Sub.skip rfl (Sub.skip rfl (Sub.skip rfl (Sub.skip rfl (Sub.refl _)))))))))))))))) hk
 refine o_as rfl rfl ?_
 refine o_nil (q_then (c_ret ?_))
 have hr0 : ((decide (a.due < b.due) || ((a.due == b.due) && decide (a.id < b.id))) : Bool) = (Wh.ahead a b) := by
  rfl
 refine q_end0 (v := .bool (decide (a.due < b.due) || ((a.due == b.due) && decide (a.id < b.id)))) (rt1 rfl (r_tmp rfl)) (i := 2) rfl ?_
 exact (by have hcc := congrArg (fun (y0 : Bool) => (.bool y0 : Value)) hr0; exact hcc)

set_option maxHeartbeats 8000000 in
set_option maxRecDepth 100000 in
theorem wheelAll_ok (wh : DWheel) (awh_0 : Option Addr) (cwh_0 : NC) (hy1 : (Wh.timers wh.slots).length ≤ 60) : FnM Try.prog 36 [.agg #[Vi wh.now, .slice awh_0 wh.slots.length cwh_0.n]] (fun w => RdN tTimer w awh_0 cwh_0 wh.slots) (Option Addr × Nat) (fun p => .slice p.1 (Wh.timers wh.slots).length p.2) (fun p S w => SlO tTimer S w p.1 p.2 (Wh.timers wh.slots)) := by
 refine fnM (nt := 20) (F0 := [(0, .agg #[Vi wh.now, .slice awh_0 wh.slots.length cwh_0.n])]) Try.func36 rfl Try.ntmps36 rfl rfl (fun w0 hpre => ?_)
 have hwh_0 := hpre
 have hlhwh_0 := hwh_0.2.1
 refine c_seq (c_region ?_)
 refine o_box (v := .agg #[Vi wh.now, .slice awh_0 wh.slots.length cwh_0.n]) rfl rfl (fun B1 => ?_)
 refine o_as rfl rfl ?_
 refine o_nil (q_then (c_seq (c_region ?_)))
 refine o_as rfl rfl ?_
 refine o_nil (q_then (c_seq (c_seq (c_region ?_))))
 refine o_as rfl rfl ?_
 refine o_nil (q_then (c_block ?_))
 refine c_ownNil tTimer ?_
 refine c_loop (St := List DTimer × Option Addr × Nat × (Nat → Prop) × Nat)
  (fun ⟨out, aout, cout, Sout, i⟩ => [(1, .pointer (some ⟨B1, 0, none⟩)), (3, .slice aout out.length cout), (4, Vi (i : Int))])
  (fun ⟨out, aout, cout, Sout, i⟩ => [own tTimer Sout aout cout out, box B1 [Vi wh.now, .slice awh_0 wh.slots.length cwh_0.n] 50, base w0])
  (fun ⟨out, aout, cout, Sout, i⟩ => i ≤ wh.slots.length ∧ out = (wh.slots.take i).flatten)
  (fun ⟨out, aout, cout, Sout, i⟩ => wh.slots.length - i)
  ([], none, 0, (fun _ => False), 0) ?_ (sr (sr (sr (Sub.nil _)))) (fun _ hw => hw) ?_
 ·exact ⟨Nat.zero_le _, rfl⟩
 rintro ⟨out, aout, cout, Sout, i⟩ hI K hK3
 have hol : out.length ≤ 60 := by rw [hI.2]; have h9 := Wh.pre_le wh.slots i; omega
 have hrl := Wh.row_le wh.slots i
 show SC _ _ Try.prog 20 w0 _ _ [(1, .pointer (some ⟨B1, 0, none⟩)), (3, .slice aout out.length cout), (4, Vi (i : Int))] [own tTimer Sout aout cout out, box B1 [Vi wh.now, .slice awh_0 wh.slots.length cwh_0.n] 50, base w0]
 refine c_seq (c_seq (c_region ?_))
 refine o_mv rfl rfl ?_
 refine o_p (p_fieldAddr (j' := 1) rfl fo50_1 rfl) ?_
 refine o_p (p_load (i := 1) (v := .slice awh_0 wh.slots.length cwh_0.n) rfl rfl sh48 rfl) ?_
 refine o_p (p_len_slice rfl rfl Try.underlying48) ?_
 refine o_p (p_lt rfl rfl) ?_
 refine o_nil (q_then ?_)
 refine c_cond rfl (fun hc4 => ?_) (fun hc4 => ?_)
 ·simp only [decide_eq_true_eq] at hc4
  refine c_skip (q_then (c_seq (c_block (c_region ?_))))
  refine o_mv rfl rfl ?_
  refine o_p (p_fieldAddr (j' := 1) rfl fo50_1 rfl) ?_
  refine o_p (p_load (i := 1) (v := .slice awh_0 wh.slots.length cwh_0.n) rfl rfl sh48 rfl) ?_
  refine o_mv rfl rfl ?_
  refine o_p (p_indexAddrN (T := tTimer) (c := cwh_0) (LL := wh.slots) (i := (i : Int)) rfl rfl (rd_baseN (i := 2) rfl hwh_0) Try.underlying48 sz57 (by first | omega | decide) (by first | omega | decide)) ?_
  refine o_p (p_loadN (T := tTimer) (c := cwh_0) (LL := wh.slots) (i := i) rfl (rd_baseN (i := 2) rfl hwh_0) (by first | assumption | omega | decide) sh57) ?_
  refine o_append (i := 0) (L := out) (M := (wh.slots.getD i [])) (T := tTimer) rfl rfl rfl (rd_rowN (i := i) (rd_baseN (i := 2) rfl hwh_0) (by first | assumption | omega)) Try.underlying57 Try.underlying57 (by intro k h; cases h) el52 (by intro z; simp [tTimer, one1]) (by decide) (by first | omega | (simp only [List.length_cons, List.length_nil]; omega) | (simp only [List.length_append, List.length_cons, List.length_nil, List.length_take, List.length_drop]; omega)) rfl (fun a5 c6 S7 => ?_)
  refine o_as rfl rfl ?_
  refine o_nil ?_
  refine q_block_normal (q_then ?_)
  refine c_region ?_
  refine o_mv rfl rfl ?_
  refine o_p (p_addb rfl rfl (by omega)) ?_
  refine o_as rfl rfl ?_
  refine o_nil ?_
  refine q_round hK3 ((out ++ (wh.slots.getD i [])), a5, c6, S7, i + 1) ?_ ?_ ?_ ?_
  ·clear hK3
   exact ⟨by omega, by rw [hI.2]; exact Wh.all_next (by omega)⟩
  ·(try dsimp only); omega
  ·exact sr (sr (sr (Sub.nil _)))
  ·exact pk [0, 1, 2]
 ·simp only [decide_eq_false_iff_not, Int.not_lt] at hc4
  refine c_exit ?_
  refine q_then_exit (q_then_exit (q_block_exit (q_then ?_)))
  refine c_seq (c_region ?_)
  refine o_mv rfl rfl ?_
  refine o_as rfl rfl ?_
  refine o_nil (q_then (c_ret ?_))
  have hr0 : (out : List DTimer) = (Wh.timers wh.slots) := by
   (rw [hI.2, List.take_of_length_le (by omega)]; rfl)
  refine q_endM (p := (aout, cout)) Sout (rt1 rfl (r_tmp rfl)) (i := 2) rfl ?_ ?_ ?_
  ·exact (by have hcc := congrArg (fun (y0 : List DTimer) => (.slice aout y0.length cout : Value)) hr0; exact hcc)
  ·exact fun w hw => hw.above (i := 2) (j := 0) (by decide) rfl rfl
  ·intro w hw; exact Eq.mp (congrArg (fun y => SlO tTimer _ w aout cout y) hr0) ((hw.at (i := 0) rfl).here)

set_option maxHeartbeats 8000000 in
set_option maxRecDepth 100000 in
theorem sameTimers_ok (a : List DTimer) (aa : Option Addr) (ca : Nat) (b : List DTimer) (ab : Option Addr) (cb : Nat) : Fn0 Try.prog 43 [.slice aa a.length ca, .slice ab b.length cb] (fun w => Rd tTimer w aa ca a ∧ Rd tTimer w ab cb b) (.bool (decide (a = b))) := by
 refine fn0 (nt := 26) (F0 := [(0, .slice aa a.length ca), (1, .slice ab b.length cb)]) Try.func43 rfl Try.ntmps43 rfl rfl (fun w0 hpre => ?_)
 obtain ⟨ha, hb⟩ := hpre
 have hlha := ha.2.1
 have hlhb := hb.2.1
 refine c_seq (c_region ?_)
 refine o_as rfl rfl ?_
 refine o_nil (q_then (c_seq (c_seq (c_region ?_))))
 refine o_mv rfl rfl ?_
 refine o_p (p_len_slice rfl rfl Try.underlying57) ?_
 refine o_mv rfl rfl ?_
 refine o_p (p_len_slice rfl rfl Try.underlying57) ?_
 refine o_p (p_ne rfl rfl) ?_
 refine o_nil (q_then ?_)
 refine c_cond rfl (fun hc1 => ?_) (fun hc1 => ?_)
 ·simp only [bne_iff_ne, ne_eq] at hc1
  refine c_seq (c_region ?_)
  refine o_as rfl rfl ?_
  refine o_nil (q_then (c_ret ?_))
  refine q_then_ret ?_
  have hr0 : (false : Bool) = (decide (a = b)) := by
   first | exact Wh.st_no1 (by assumption) | exact Wh.st_no2 (i := i) (fun h9 => by rw [h9] at hne; simp at hne) | exact Wh.st_yes (by omega) (by omega) hI.2
  refine q_end0 (v := .bool false) (rt1 rfl (r_tmp rfl)) (i := 0) rfl ?_
  exact (by have hcc := congrArg (fun (y0 : Bool) => (.bool y0 : Value)) hr0; exact hcc)
 ·simp only [bne_eq_false_iff_eq] at hc1
  refine c_skip (q_then (c_seq (c_seq (c_region ?_))))
  refine o_as rfl rfl ?_
  refine o_nil (q_then (c_block ?_))
  refine c_loop (St := Nat)
   (fun i => [(0, .slice aa a.length ca), (1, .slice ab b.length cb), (5, Vi (i : Int))])
   (fun i => [base w0])
   (fun i => i ≤ a.length ∧ ∀ j, j < i → a.getD j default = b.getD j default)
   (fun i => a.length - i)
   0 ?_ (sr (sr (sr (Sub.nil _)))) (fun _ hw => hw) ?_
  ·exact ⟨Nat.zero_le _, fun j h => absurd h (Nat.not_lt_zero j)⟩
  rintro i hI K hK2
  show SC _ _ Try.prog 26 w0 _ _ [(0, .slice aa a.length ca), (1, .slice ab b.length cb), (5, Vi (i : Int))] [base w0]
  refine c_seq (c_seq (c_region ?_))
  refine o_mv rfl rfl ?_
  refine o_mv rfl rfl ?_
  refine o_p (p_len_slice rfl rfl Try.underlying57) ?_
  refine o_p (p_lt rfl rfl) ?_
  refine o_nil (q_then ?_)
  refine c_cond rfl (fun hc3 => ?_) (fun hc3 => ?_)
  ·simp only [decide_eq_true_eq] at hc3
   refine c_skip (q_then (c_seq (c_block (c_seq ?_))))
   refine c_draw hmix (by kernel_rfl) ?_
   refine w_mv rfl rfl ?_
   refine w_mv rfl rfl ?_
   refine w_p (p_indexAddr (L := a) (T := tTimer) (i := (i : Int)) rfl rfl (rd_base (i := 0) rfl ha) Try.underlying57 sz52 (by omega) (by omega)) ?_
   refine w_p (p_loadEn (i := i) (T := tTimer) (L := a) (vs := [Vi ((a.getD i default).id), Vi ((a.getD i default).due)]) rfl (rd_base (i := 0) rfl ha) (by first | assumption | omega) sh52 (congrArg tTimer.enc (getd_at (by first | assumption | omega) default))) ?_
   refine w_mv rfl rfl ?_
   refine w_mv rfl rfl ?_
   refine w_p (p_indexAddr (L := b) (T := tTimer) (i := (i : Int)) rfl rfl (rd_base (i := 0) rfl hb) Try.underlying57 sz52 (by omega) (by omega)) ?_
   refine w_p (p_loadEn (i := i) (T := tTimer) (L := b) (vs := [Vi ((b.getD i default).id), Vi ((b.getD i default).due)]) rfl (rd_base (i := 0) rfl hb) (by first | assumption | omega) sh52 (congrArg tTimer.enc (getd_at (by first | assumption | omega) default))) ?_
   refine w_p (p_neStruct (xs := [Vi ((a.getD i default).id), Vi ((a.getD i default).due)]) (ys := [Vi ((b.getD i default).id), Vi ((b.getD i default).due)]) (r := (((a.getD i default).id == (b.getD i default).id) && ((a.getD i default).due == (b.getD i default).due))) rfl rfl eqS52) ?_
   refine w_nil (q_then ?_)
   refine c_cond rfl (fun hc4 => ?_) (fun hc4 => ?_)
   ·simp only [Bool.not_eq_true', Bool.and_eq_false_iff, beq_eq_false_iff_ne, ne_eq] at hc4
    have hne := hc4
    refine c_seq (c_region ?_)
    refine o_as rfl rfl ?_
    refine o_nil (q_then (c_ret ?_))
    refine q_block_ret (q_then_ret (q_then_ret (q_block_ret (q_then_ret ?_))))
    have hr0 : (false : Bool) = (decide (a = b)) := by
     first | exact Wh.st_no1 (by assumption) | exact Wh.st_no2 (i := i) (fun h9 => by rw [h9] at hne; simp at hne) | exact Wh.st_yes (by omega) (by omega) hI.2
    refine q_end0 (v := .bool false) (rt1 rfl (r_tmp rfl)) (i := 0) rfl ?_
    exact (by have hcc := congrArg (fun (y0 : Bool) => (.bool y0 : Value)) hr0; exact hcc)
   ·simp only [Bool.not_eq_false', Bool.and_eq_true, beq_iff_eq] at hc4
    have hne := hc4
    refine c_skip ?_
    refine q_block_normal (q_then ?_)
    refine c_region ?_
    refine o_mv rfl rfl ?_
    refine o_p (p_addb rfl rfl (by omega)) ?_
    refine o_as rfl rfl ?_
    refine o_nil ?_
    refine q_round hK2 (i + 1) ?_ ?_ ?_ ?_
    ·clear hK2
     exact ⟨by omega, Wh.all_next' hI.2 (Wh.tim_eq.1 hne)⟩
    ·(try dsimp only); omega
    ·exact sr (sr (sr (Sub.nil _)))
    ·exact pk [0]
  ·simp only [decide_eq_false_iff_not, Int.not_lt] at hc3
   refine c_exit ?_
   refine q_then_exit (q_then_exit (q_block_exit (q_then ?_)))
   refine c_seq (c_region ?_)
   refine o_as rfl rfl ?_
   refine o_nil (q_then (c_ret ?_))
   have hr0 : (true : Bool) = (decide (a = b)) := by
    first | exact Wh.st_no1 (by assumption) | exact Wh.st_no2 (i := i) (fun h9 => by rw [h9] at hne; simp at hne) | exact Wh.st_yes (by omega) (by omega) hI.2
   refine q_end0 (v := .bool true) (rt1 rfl (r_tmp rfl)) (i := 0) rfl ?_
   exact (by have hcc := congrArg (fun (y0 : Bool) => (.bool y0 : Value)) hr0; exact hcc)

set_option maxHeartbeats 8000000 in
set_option maxRecDepth 100000 in
theorem sameWheel_ok (a : DWheel) (aa_0 : Option Addr) (ca_0 : NC) (b : DWheel) (ab_0 : Option Addr) (cb_0 : NC) : Fn0 Try.prog 42 [.agg #[Vi a.now, .slice aa_0 a.slots.length ca_0.n], .agg #[Vi b.now, .slice ab_0 b.slots.length cb_0.n]] (fun w => RdN tTimer w aa_0 ca_0 a.slots ∧ RdN tTimer w ab_0 cb_0 b.slots) (.bool (decide (a = b))) := by
 refine fn0 (nt := 39) (F0 := [(0, .agg #[Vi a.now, .slice aa_0 a.slots.length ca_0.n]), (1, .agg #[Vi b.now, .slice ab_0 b.slots.length cb_0.n])]) Try.func42 rfl Try.ntmps42 rfl rfl (fun w0 hpre => ?_)
 obtain ⟨ha_0, hb_0⟩ := hpre
 have hlha_0 := ha_0.2.1
 have hlhb_0 := hb_0.2.1
 refine c_seq (c_region ?_)
 refine o_box (v := .agg #[Vi a.now, .slice aa_0 a.slots.length ca_0.n]) rfl rfl (fun B1 => ?_)
 refine o_box (v := .agg #[Vi b.now, .slice ab_0 b.slots.length cb_0.n]) rfl rfl (fun B2 => ?_)
 refine o_as rfl rfl ?_
 refine o_nil (q_then (c_seq (c_seq (c_region ?_))))
 refine o_p (p_fieldAddr (j' := 0) rfl fo50_0 rfl) ?_
 refine o_p (p_load (i := 1) (v := Vi a.now) rfl rfl sh3 rfl) ?_
 refine o_p (p_fieldAddr (j' := 0) rfl fo50_0 rfl) ?_
 refine o_p (p_load (i := 0) (v := Vi b.now) rfl rfl sh3 rfl) ?_
 refine o_p (p_ne rfl rfl) ?_
 refine o_mv rfl rfl ?_
 refine o_or (p := 19) 8 ((a.slots.length : Int) != (b.slots.length : Int)) ?_ ?_ ?_
 ·intro hb3 hk
  simp only [bne_eq_false_iff_eq] at hb3
  refine o_unguard 11 rfl rfl ?_
  refine o_p (p_fieldAddr (j' := 1) rfl fo50_1 rfl) ?_
  refine o_unguard 11 rfl rfl ?_
  refine o_p (p_load (i := 1) (v := .slice aa_0 a.slots.length ca_0.n) rfl rfl sh48 rfl) ?_
  refine o_unguard 11 rfl rfl ?_
  refine o_p (p_len_slice rfl rfl Try.underlying48) ?_
  refine o_unguard 11 rfl rfl ?_
  refine o_p (p_fieldAddr (j' := 1) rfl fo50_1 rfl) ?_
  refine o_unguard 11 rfl rfl ?_
  refine o_p (p_load (i := 0) (v := .slice ab_0 b.slots.length cb_0.n) rfl rfl sh48 rfl) ?_
  refine o_unguard 11 rfl rfl ?_
  refine o_p (p_len_slice rfl rfl Try.underlying48) ?_
  refine o_unguard 11 rfl rfl ?_
  refine o_p (p_ne rfl rfl) ?_
  refine o_pf rfl rfl rfl ?_
  exact o_sub (sr (Sub.skip rfl (Sub.skip rfl (Sub.skip rfl (Sub.skip rfl (Sub.skip rfl (Sub.skip rfl (Sub.skip rfl (Sub.skip rfl (Sub.skip rfl (Sub.refl _))))))))))) hk
 ·intro hb3 hk
  refine o_guard_no rfl 11 rfl rfl rfl rfl rfl ?_
  refine o_guard_no rfl 11 rfl rfl rfl rfl rfl ?_
  refine o_guard_no rfl 11 rfl rfl rfl rfl rfl ?_
  refine o_guard_no rfl 11 rfl rfl rfl rfl rfl ?_
  refine o_guard_no rfl 11 rfl rfl rfl rfl rfl ?_
  refine o_guard_no rfl 11 rfl rfl rfl rfl rfl ?_
  refine o_guard_no rfl 11 rfl rfl rfl rfl rfl ?_
  refine o_pt rfl rfl rfl ?_
  exact o_sub (sr (Sub.skip rfl (Sub.skip rfl (Sub.skip rfl (Sub.skip rfl (Sub.skip rfl (Sub.skip rfl (Sub.skip rfl (Sub.skip rfl (Sub.skip rfl (Sub.refl _))))))))))) hk
 refine o_nil (q_then ?_)
 refine c_cond rfl (fun hc4 => ?_) (fun hc4 => ?_)
 ·simp only [Bool.or_eq_true, bne_iff_ne, ne_eq] at hc4
  refine c_seq (c_region ?_)
  refine o_as rfl rfl ?_
  refine o_nil (q_then (c_ret ?_))
  refine q_then_ret ?_
  have hr0 : (false : Bool) = (decide (a = b)) := by
   first | exact Wh.sw_no1 (by omega) | exact Wh.sw_no2 (i := i) (by simp_all) | exact Wh.sw_yes (by omega) (by omega) hI.2
  refine q_end0 (v := .bool false) (rt1 rfl (r_tmp rfl)) (i := 2) rfl ?_
  exact (by have hcc := congrArg (fun (y0 : Bool) => (.bool y0 : Value)) hr0; exact hcc)
 ·simp only [Bool.or_eq_false_iff, bne_eq_false_iff_eq] at hc4
  refine c_skip (q_then (c_seq (c_seq (c_region ?_))))
  refine o_as rfl rfl ?_
  refine o_nil (q_then (c_block ?_))
  refine c_loop (St := Nat)
   (fun i => [(2, .pointer (some ⟨B1, 0, none⟩)), (3, .pointer (some ⟨B2, 0, none⟩)), (5, Vi (i : Int))])
   (fun i => [box B2 [Vi b.now, .slice ab_0 b.slots.length cb_0.n] 50, box B1 [Vi a.now, .slice aa_0 a.slots.length ca_0.n] 50, base w0])
   (fun i => i ≤ a.slots.length ∧ ∀ j, j < i → a.slots.getD j [] = b.slots.getD j [])
   (fun i => a.slots.length - i)
   0 ?_ (sr (sr (sr (Sub.nil _)))) (fun _ hw => hw) ?_
  ·exact ⟨Nat.zero_le _, fun j h => absurd h (Nat.not_lt_zero j)⟩
  rintro i hI K hK5
  show SC _ _ Try.prog 39 w0 _ _ [(2, .pointer (some ⟨B1, 0, none⟩)), (3, .pointer (some ⟨B2, 0, none⟩)), (5, Vi (i : Int))] [box B2 [Vi b.now, .slice ab_0 b.slots.length cb_0.n] 50, box B1 [Vi a.now, .slice aa_0 a.slots.length ca_0.n] 50, base w0]
  refine c_seq (c_seq (c_region ?_))
  refine o_mv rfl rfl ?_
  refine o_p (p_fieldAddr (j' := 1) rfl fo50_1 rfl) ?_
  refine o_p (p_load (i := 1) (v := .slice aa_0 a.slots.length ca_0.n) rfl rfl sh48 rfl) ?_
  refine o_p (p_len_slice rfl rfl Try.underlying48) ?_
  refine o_p (p_lt rfl rfl) ?_
  refine o_nil (q_then ?_)
  refine c_cond rfl (fun hc6 => ?_) (fun hc6 => ?_)
  ·simp only [decide_eq_true_eq] at hc6
   refine c_skip (q_then (c_seq (c_block (c_seq ?_))))
   refine c_draw hmix (by kernel_rfl) ?_
   refine w_p (p_fieldAddr (j' := 1) rfl fo50_1 rfl) ?_
   refine w_p (p_load (i := 1) (v := .slice aa_0 a.slots.length ca_0.n) rfl rfl sh48 rfl) ?_
   refine w_mv rfl rfl ?_
   refine w_p (p_indexAddrN (T := tTimer) (c := ca_0) (LL := a.slots) (i := (i : Int)) rfl rfl (rd_baseN (i := 2) rfl ha_0) Try.underlying48 sz57 (by first | omega | decide) (by first | omega | decide)) ?_
   refine w_p (p_loadN (T := tTimer) (c := ca_0) (LL := a.slots) (i := i) rfl (rd_baseN (i := 2) rfl ha_0) (by first | assumption | omega | decide) sh57) ?_
   refine w_p (p_fieldAddr (j' := 1) rfl fo50_1 rfl) ?_
   refine w_p (p_load (i := 0) (v := .slice ab_0 b.slots.length cb_0.n) rfl rfl sh48 rfl) ?_
   refine w_mv rfl rfl ?_
   refine w_p (p_indexAddrN (T := tTimer) (c := cb_0) (LL := b.slots) (i := (i : Int)) rfl rfl (rd_baseN (i := 2) rfl hb_0) Try.underlying48 sz57 (by first | omega | decide) (by first | omega | decide)) ?_
   refine w_p (p_loadN (T := tTimer) (c := cb_0) (LL := b.slots) (i := i) rfl (rd_baseN (i := 2) rfl hb_0) (by first | assumption | omega | decide) sh57) ?_
   refine w_call0 (v := .bool (decide ((a.slots.getD i []) = (b.slots.getD i [])))) rfl (sameTimers_ok (a.slots.getD i []) (ca_0.ra i) (ca_0.rc i) (b.slots.getD i []) (cb_0.ra i) (cb_0.rc i)) hf43 (fun w hw => ⟨(rd_rowN (i := i) (rd_baseN (i := 2) rfl ha_0) (by first | assumption | omega)) w hw, (rd_rowN (i := i) (rd_baseN (i := 2) rfl hb_0) (by first | assumption | omega)) w hw⟩) rfl ?_
   refine w_p (p_not (b := (decide ((a.slots.getD i []) = (b.slots.getD i [])))) rfl) ?_
   refine w_nil (q_then ?_)
   refine c_cond rfl (fun hc7 => ?_) (fun hc7 => ?_)
   ·simp only [Bool.not_eq_true', decide_eq_false_iff_not] at hc7
    refine c_seq (c_region ?_)
    refine o_as rfl rfl ?_
    refine o_nil (q_then (c_ret ?_))
    refine q_block_ret (q_then_ret (q_then_ret (q_block_ret (q_then_ret ?_))))
    have hr0 : (false : Bool) = (decide (a = b)) := by
     first | exact Wh.sw_no1 (by omega) | exact Wh.sw_no2 (i := i) (by simp_all) | exact Wh.sw_yes (by omega) (by omega) hI.2
    refine q_end0 (v := .bool false) (rt1 rfl (r_tmp rfl)) (i := 2) rfl ?_
    exact (by have hcc := congrArg (fun (y0 : Bool) => (.bool y0 : Value)) hr0; exact hcc)
   ·simp only [Bool.not_eq_false', decide_eq_true_eq] at hc7
    refine c_skip ?_
    refine q_block_normal (q_then ?_)
    refine c_region ?_
    refine o_mv rfl rfl ?_
    refine o_p (p_addb rfl rfl (by omega)) ?_
    refine o_as rfl rfl ?_
    refine o_nil ?_
    refine q_round hK5 (i + 1) ?_ ?_ ?_ ?_
    ·clear hK5
     exact ⟨by omega, Wh.all_next' hI.2 (by simp_all)⟩
    ·(try dsimp only); omega
    ·exact sr (sr (sr (Sub.nil _)))
    ·exact pk [0, 1, 2]
  ·simp only [decide_eq_false_iff_not, Int.not_lt] at hc6
   refine c_exit ?_
   refine q_then_exit (q_then_exit (q_block_exit (q_then ?_)))
   refine c_seq (c_region ?_)
   refine o_as rfl rfl ?_
   refine o_nil (q_then (c_ret ?_))
   have hr0 : (true : Bool) = (decide (a = b)) := by
    first | exact Wh.sw_no1 (by omega) | exact Wh.sw_no2 (i := i) (by simp_all) | exact Wh.sw_yes (by omega) (by omega) hI.2
   refine q_end0 (v := .bool true) (rt1 rfl (r_tmp rfl)) (i := 2) rfl ?_
   exact (by have hcc := congrArg (fun (y0 : Bool) => (.bool y0 : Value)) hr0; exact hcc)

set_option maxHeartbeats 8000000 in
set_option maxRecDepth 100000 in
theorem hasTimer_ok (l : List DTimer) (al : Option Addr) (cl : Nat) (id : Int) : Fn0 Try.prog 39 [.slice al l.length cl, Vi id] (fun w => Rd tTimer w al cl l) (.bool (Wh.has l id)) := by
 refine fn0 (nt := 19) (F0 := [(0, .slice al l.length cl), (1, Vi id)]) Try.func39 rfl Try.ntmps39 rfl rfl (fun w0 hpre => ?_)
 have hl := hpre
 have hlhl := hl.2.1
 refine c_seq (c_region ?_)
 refine o_as rfl rfl ?_
 refine o_nil (q_then (c_seq (c_seq (c_region ?_))))
 refine o_as rfl rfl ?_
 refine o_nil (q_then (c_block ?_))
 refine c_loop (St := Nat)
  (fun i => [(0, .slice al l.length cl), (1, Vi id), (5, Vi (i : Int))])
  (fun i => [base w0])
  (fun i => i ≤ l.length ∧ ∀ q, q < i → ¬ (l.getD q default).id = id)
  (fun i => l.length - i)
  0 ?_ (sr (sr (sr (Sub.nil _)))) (fun _ hw => hw) ?_
 ·exact ⟨Nat.zero_le _, fun q h => absurd h (Nat.not_lt_zero q)⟩
 rintro i hI K hK1
 show SC _ _ Try.prog 19 w0 _ _ [(0, .slice al l.length cl), (1, Vi id), (5, Vi (i : Int))] [base w0]
 refine c_seq (c_seq (c_region ?_))
 refine o_mv rfl rfl ?_
 refine o_mv rfl rfl ?_
 refine o_p (p_len_slice rfl rfl Try.underlying57) ?_
 refine o_p (p_lt rfl rfl) ?_
 refine o_nil (q_then ?_)
 refine c_cond rfl (fun hc2 => ?_) (fun hc2 => ?_)
 ·simp only [decide_eq_true_eq] at hc2
  refine c_skip (q_then (c_seq (c_block (c_seq (c_region ?_)))))
  refine o_mv rfl rfl ?_
  refine o_mv rfl rfl ?_
  refine o_p (p_indexAddr (L := l) (T := tTimer) (i := (i : Int)) rfl rfl (rd_base (i := 0) rfl hl) Try.underlying57 sz52 (by omega) (by omega)) ?_
  refine o_p (p_fieldAddrE rfl fo52_0) ?_
  refine o_p (p_loadF (i := i) (j := 0) (T := tTimer) (L := l) (v := Vi ((l.getD i default).id)) rfl (rd_base (i := 0) rfl hl) (by first | assumption | omega) sh3 (congrArg (fun z => (tTimer.enc z)[0]?) (getd_at (by first | assumption | omega) default))) ?_
  refine o_mv rfl rfl ?_
  refine o_p (p_eq rfl rfl) ?_
  refine o_nil (q_then ?_)
  refine c_cond rfl (fun hc3 => ?_) (fun hc3 => ?_)
  ·simp only [beq_iff_eq] at hc3
   have hne := hc3
   refine c_seq (c_region ?_)
   refine o_as rfl rfl ?_
   refine o_nil (q_then (c_ret ?_))
   refine q_block_ret (q_then_ret (q_then_ret (q_block_ret (q_then_ret ?_))))
   have hr0 : (true : Bool) = (Wh.has l id) := by
    first | exact Wh.has_yes (i := i) (by omega) hne | exact Wh.has_no (by omega) hI.2
   refine q_end0 (v := .bool true) (rt1 rfl (r_tmp rfl)) (i := 0) rfl ?_
   exact (by have hcc := congrArg (fun (y0 : Bool) => (.bool y0 : Value)) hr0; exact hcc)
  ·simp only [beq_eq_false_iff_ne, ne_eq] at hc3
   have hne := hc3
   refine c_skip ?_
   refine q_block_normal (q_then ?_)
   refine c_region ?_
   refine o_mv rfl rfl ?_
   refine o_p (p_addb rfl rfl (by omega)) ?_
   refine o_as rfl rfl ?_
   refine o_nil ?_
   refine q_round hK1 (i + 1) ?_ ?_ ?_ ?_
   ·clear hK1
    exact ⟨by omega, Wh.nj_next hI.2 (by omega)⟩
   ·(try dsimp only); omega
   ·exact sr (sr (sr (Sub.nil _)))
   ·exact pk [0]
 ·simp only [decide_eq_false_iff_not, Int.not_lt] at hc2
  refine c_exit ?_
  refine q_then_exit (q_then_exit (q_block_exit (q_then ?_)))
  refine c_seq (c_region ?_)
  refine o_as rfl rfl ?_
  refine o_nil (q_then (c_ret ?_))
  have hr0 : (false : Bool) = (Wh.has l id) := by
   first | exact Wh.has_yes (i := i) (by omega) hne | exact Wh.has_no (by omega) hI.2
  refine q_end0 (v := .bool false) (rt1 rfl (r_tmp rfl)) (i := 0) rfl ?_
  exact (by have hcc := congrArg (fun (y0 : Bool) => (.bool y0 : Value)) hr0; exact hcc)
end Go.Proofs.Ytnmbkopnopaigaa
