/- Timing wheels: the references. -/
import Derived.Test.YtnmbkopnopaigaaExPureM20
namespace Go.Sx.Wh
/-! ### digits -/
def digs (n : Int) : List Int := [n / 32768 % 8, n / 4096 % 8, n / 512 % 8, n / 64 % 8, n / 8 % 8, n % 8]
def dgN (n i : Int) : Int := if i = 5 then n else if i = 4 then n / 8 else if i = 3 then n / 64 else if i = 2 then n / 512 else if i = 1 then n / 4096 else if i = 0 then n / 32768 else n / 262144
def dgL (n i : Int) : List Int := if i = 5 then [0, 0, 0, 0, 0, 0] else if i = 4 then [0, 0, 0, 0, 0, n % 8] else if i = 3 then [0, 0, 0, 0, n / 8 % 8, n % 8] else if i = 2 then [0, 0, 0, n / 64 % 8, n / 8 % 8, n % 8] else if i = 1 then [0, 0, n / 512 % 8, n / 64 % 8, n / 8 % 8, n % 8] else if i = 0 then [0, n / 4096 % 8, n / 512 % 8, n / 64 % 8, n / 8 % 8, n % 8] else digs n
def DgI (n nn : Int) (ls : List Int) (i : Int) : Prop := (-1 ≤ i ∧ i ≤ 5) ∧ nn = dgN n i ∧ ls = dgL n i
theorem DgI.start (n : Int) : DgI n n (List.replicate 6 0) 5 := ⟨by omega, rfl, rfl⟩
theorem DgI.len {n nn : Int} {ls : List Int} {i : Int} (h : DgI n nn ls i) : ls.length = 6 := by
  rw [h.2.2]; unfold dgL digs; split; rfl; split; rfl; split; rfl; split; rfl; split; rfl; split <;> rfl
theorem DgI.bd {n nn : Int} {ls : List Int} {i : Int} (h : DgI n nn ls i) (h0 : 0 ≤ n ∧ n ≤ 262143) : 0 ≤ nn ∧ nn ≤ 262143 := by
  rw [h.2.1]; unfold dgN; split; omega; split; omega; split; omega; split; omega; split; omega; split <;> omega
theorem DgI.next {n nn : Int} {ls : List Int} {i : Int} (h : DgI n nn ls i) (hi : 0 ≤ i) (h0 : 0 ≤ n ∧ n ≤ 262143) : DgI n (nn.tdiv 8) (ls.set i.toNat (nn.tmod 8)) (i - 1) := by
  have hb := h.bd h0
  obtain ⟨⟨h1, h2⟩, rfl, rfl⟩ := h
  refine ⟨by omega, ?_, ?_⟩
  · rw [Int.tdiv_eq_ediv_of_nonneg hb.1]
    rcases (show i = 0 ∨ i = 1 ∨ i = 2 ∨ i = 3 ∨ i = 4 ∨ i = 5 by omega) with rfl | rfl | rfl | rfl | rfl | rfl
    · show n / 32768 / 8 = n / 262144; omega
    · show n / 4096 / 8 = n / 32768; omega
    · show n / 512 / 8 = n / 4096; omega
    · show n / 64 / 8 = n / 512; omega
    · show n / 8 / 8 = n / 64; omega
    · rfl
  · rw [Int.tmod_eq_emod_of_nonneg hb.1]
    rcases (show i = 0 ∨ i = 1 ∨ i = 2 ∨ i = 3 ∨ i = 4 ∨ i = 5 by omega) with rfl | rfl | rfl | rfl | rfl | rfl <;> rfl
theorem DgI.done {n nn : Int} {ls : List Int} {i : Int} (h : DgI n nn ls i) (hi : i < 0) : ls = digs n := by
  obtain ⟨⟨h1, h2⟩, rfl, rfl⟩ := h
  obtain rfl : i = -1 := by omega
  rfl
theorem digs_len (n : Int) : (digs n).length = 6 := rfl
theorem digs_bd (n : Int) (i : Nat) : 0 ≤ (digs n).getD i default ∧ (digs n).getD i default ≤ 7 := by
  match i with
  | 0 => show 0 ≤ n / 32768 % 8 ∧ n / 32768 % 8 ≤ 7; omega
  | 1 => show 0 ≤ n / 4096 % 8 ∧ n / 4096 % 8 ≤ 7; omega
  | 2 => show 0 ≤ n / 512 % 8 ∧ n / 512 % 8 ≤ 7; omega
  | 3 => show 0 ≤ n / 64 % 8 ∧ n / 64 % 8 ≤ 7; omega
  | 4 => show 0 ≤ n / 8 % 8 ∧ n / 8 % 8 ≤ 7; omega
  | 5 => show 0 ≤ n % 8 ∧ n % 8 ≤ 7; omega
  | k + 6 => show 0 ≤ (0 : Int) ∧ (0 : Int) ≤ 7; omega
/-! ### WheelPlace -/
theorem plc_next {a n : Int} {i : Nat} (h : ∀ j, j < i → (digs a).getD j default = (digs n).getD j default) (h1 : (digs a).getD i default = (digs n).getD i default) : ∀ j, j < i + 1 → (digs a).getD j default = (digs n).getD j default := fun j hj => by
  rcases Nat.lt_succ_iff_lt_or_eq.1 hj with h2 | rfl
  · exact h j h2
  · exact h1
theorem chain {a : Int} (h : 0 ≤ a ∧ a ≤ 262143) : ∃ c5 c4 c3 c2 c1 c0 : Int, ((0 ≤ c5 ∧ c5 ≤ 7) ∧ (0 ≤ c4 ∧ c4 ≤ 7) ∧ (0 ≤ c3 ∧ c3 ≤ 7) ∧ (0 ≤ c2 ∧ c2 ≤ 7) ∧ (0 ≤ c1 ∧ c1 ≤ 7) ∧ (0 ≤ c0 ∧ c0 ≤ 7)) ∧ digs a = [c5, c4, c3, c2, c1, c0] ∧ a / 32768 = c5 ∧ a / 4096 = 8 * c5 + c4 ∧ a / 512 = 64 * c5 + 8 * c4 + c3 ∧ a / 64 = 512 * c5 + 64 * c4 + 8 * c3 + c2 ∧ a / 8 = 4096 * c5 + 512 * c4 + 64 * c3 + 8 * c2 + c1 ∧ a = 32768 * c5 + 4096 * c4 + 512 * c3 + 64 * c2 + 8 * c1 + c0 := by
  have e4 : a / 4096 = 8 * (a / 32768) + a / 4096 % 8 := by omega
  have e3 : a / 512 = 8 * (a / 4096) + a / 512 % 8 := by omega
  have e2 : a / 64 = 8 * (a / 512) + a / 64 % 8 := by omega
  have e1 : a / 8 = 8 * (a / 64) + a / 8 % 8 := by omega
  have e0 : a = 8 * (a / 8) + a % 8 := by omega
  have b5 : 0 ≤ a / 32768 % 8 ∧ a / 32768 % 8 ≤ 7 := by omega
  have b4 : 0 ≤ a / 4096 % 8 ∧ a / 4096 % 8 ≤ 7 := by omega
  have b3 : 0 ≤ a / 512 % 8 ∧ a / 512 % 8 ≤ 7 := by omega
  have b2 : 0 ≤ a / 64 % 8 ∧ a / 64 % 8 ≤ 7 := by omega
  have b1 : 0 ≤ a / 8 % 8 ∧ a / 8 % 8 ≤ 7 := by omega
  have b0 : 0 ≤ a % 8 ∧ a % 8 ≤ 7 := by omega
  have e5 : a / 32768 = a / 32768 % 8 := by omega
  refine ⟨_, _, _, _, _, _, ⟨b5, b4, b3, b2, b1, b0⟩, rfl, e5, ?_, ?_, ?_, ?_, ?_⟩
  all_goals
    generalize a / 32768 % 8 = c5 at *
    generalize a / 4096 % 8 = c4 at *
    generalize a / 512 % 8 = c3 at *
    generalize a / 64 % 8 = c2 at *
    generalize a / 8 % 8 = c1 at *
    generalize a % 8 = c0 at *
    generalize a / 32768 = d5 at *
    generalize a / 4096 = d4 at *
    generalize a / 512 = d3 at *
    generalize a / 64 = d2 at *
    generalize a / 8 = d1 at *
    omega
theorem pow8_0 : pow8 0 = 1 := by decide
theorem pow8_1 : pow8 1 = 8 := by decide
theorem pow8_2 : pow8 2 = 64 := by decide
theorem pow8_3 : pow8 3 = 512 := by decide
theorem pow8_4 : pow8 4 = 4096 := by decide
theorem pow8_5 : pow8 5 = 32768 := by decide
theorem plc_done {a n : Int} {i : Nat} (ha : 0 ≤ a ∧ a ≤ 262143) (hn : 0 ≤ n ∧ n ≤ 262143) (hi : i ≤ 5) (h : ∀ j, j < i → (digs a).getD j default = (digs n).getD j default) (h1 : i = 5 ∨ ¬ (digs a).getD i default = (digs n).getD i default) : 8 * (5 - (i : Int)) + (digs a).getD i default = place a n := by
  obtain ⟨c5, c4, c3, c2, c1, c0, ⟨hc5, hc4, hc3, hc2, hc1, hc0⟩, ea, ea5, ea4, ea3, ea2, ea1, ea0⟩ := chain ha
  obtain ⟨d5, d4, d3, d2, d1, d0, ⟨hd5, hd4, hd3, hd2, hd1, hd0⟩, en, en5, en4, en3, en2, en1, en0⟩ := chain hn
  rw [ea, en] at h h1
  have hp : place a n = 8 * level a n + a / pow8 (level a n) % 8 := rfl
  have hl : level a n = if a / 8 = n / 8 then 0 else if a / 64 = n / 64 then 1 else if a / 512 = n / 512 then 2 else if a / 4096 = n / 4096 then 3 else if a / 32768 = n / 32768 then 4 else 5 := rfl
  rw [ea5, ea4, ea3, ea2, ea1, en5, en4, en3, en2, en1] at hl
  rw [ea]
  rcases (show i = 0 ∨ i = 1 ∨ i = 2 ∨ i = 3 ∨ i = 4 ∨ i = 5 by omega) with rfl | rfl | rfl | rfl | rfl | rfl
  · have e : ¬ c5 = d5 := h1.resolve_left (by decide)
    clear h h1 hi
    rw [if_neg (by clear ea0 en0 ea1 en1 ea2 en2 ea3 en3 ea4 en4 ea5 en5 ea en hp; omega), if_neg (by clear ea0 en0 ea1 en1 ea2 en2 ea3 en3 ea4 en4 ea5 en5 ea en hp; omega), if_neg (by clear ea0 en0 ea1 en1 ea2 en2 ea3 en3 ea4 en4 ea5 en5 ea en hp; omega), if_neg (by clear ea0 en0 ea1 en1 ea2 en2 ea3 en3 ea4 en4 ea5 en5 ea en hp; omega), if_neg (by clear ea0 en0 ea1 en1 ea2 en2 ea3 en3 ea4 en4 ea5 en5 ea en hp; omega)] at hl
    rw [hp, hl, pow8_5]
    show 8 * (5 - 0) + c5 = _
    clear hp hl
    omega
  · have e : ¬ c4 = d4 := h1.resolve_left (by decide)
    have g0 : c5 = d5 := h 0 (by decide)
    clear h h1 hi
    rw [if_neg (by clear ea0 en0 ea1 en1 ea2 en2 ea3 en3 ea4 en4 ea5 en5 ea en hp; omega), if_neg (by clear ea0 en0 ea1 en1 ea2 en2 ea3 en3 ea4 en4 ea5 en5 ea en hp; omega), if_neg (by clear ea0 en0 ea1 en1 ea2 en2 ea3 en3 ea4 en4 ea5 en5 ea en hp; omega), if_neg (by clear ea0 en0 ea1 en1 ea2 en2 ea3 en3 ea4 en4 ea5 en5 ea en hp; omega), if_pos (by clear ea0 en0 ea1 en1 ea2 en2 ea3 en3 ea4 en4 ea5 en5 ea en hp; omega)] at hl
    rw [hp, hl, pow8_4]
    show 8 * (5 - 1) + c4 = _
    clear hp hl
    omega
  · have e : ¬ c3 = d3 := h1.resolve_left (by decide)
    have g0 : c5 = d5 := h 0 (by decide)
    have g1 : c4 = d4 := h 1 (by decide)
    clear h h1 hi
    rw [if_neg (by clear ea0 en0 ea1 en1 ea2 en2 ea3 en3 ea4 en4 ea5 en5 ea en hp; omega), if_neg (by clear ea0 en0 ea1 en1 ea2 en2 ea3 en3 ea4 en4 ea5 en5 ea en hp; omega), if_neg (by clear ea0 en0 ea1 en1 ea2 en2 ea3 en3 ea4 en4 ea5 en5 ea en hp; omega), if_pos (by clear ea0 en0 ea1 en1 ea2 en2 ea3 en3 ea4 en4 ea5 en5 ea en hp; omega)] at hl
    rw [hp, hl, pow8_3]
    show 8 * (5 - 2) + c3 = _
    clear hp hl
    omega
  · have e : ¬ c2 = d2 := h1.resolve_left (by decide)
    have g0 : c5 = d5 := h 0 (by decide)
    have g1 : c4 = d4 := h 1 (by decide)
    have g2 : c3 = d3 := h 2 (by decide)
    clear h h1 hi
    rw [if_neg (by clear ea0 en0 ea1 en1 ea2 en2 ea3 en3 ea4 en4 ea5 en5 ea en hp; omega), if_neg (by clear ea0 en0 ea1 en1 ea2 en2 ea3 en3 ea4 en4 ea5 en5 ea en hp; omega), if_pos (by clear ea0 en0 ea1 en1 ea2 en2 ea3 en3 ea4 en4 ea5 en5 ea en hp; omega)] at hl
    rw [hp, hl, pow8_2]
    show 8 * (5 - 3) + c2 = _
    clear hp hl
    omega
  · have e : ¬ c1 = d1 := h1.resolve_left (by decide)
    have g0 : c5 = d5 := h 0 (by decide)
    have g1 : c4 = d4 := h 1 (by decide)
    have g2 : c3 = d3 := h 2 (by decide)
    have g3 : c2 = d2 := h 3 (by decide)
    clear h h1 hi
    rw [if_neg (by clear ea0 en0 ea1 en1 ea2 en2 ea3 en3 ea4 en4 ea5 en5 ea en hp; omega), if_pos (by clear ea0 en0 ea1 en1 ea2 en2 ea3 en3 ea4 en4 ea5 en5 ea en hp; omega)] at hl
    rw [hp, hl, pow8_1]
    show 8 * (5 - 4) + c1 = _
    clear hp hl
    omega
  · have e := hi
    have g0 : c5 = d5 := h 0 (by decide)
    have g1 : c4 = d4 := h 1 (by decide)
    have g2 : c3 = d3 := h 2 (by decide)
    have g3 : c2 = d2 := h 3 (by decide)
    have g4 : c1 = d1 := h 4 (by decide)
    clear h h1 hi
    rw [if_pos (by clear ea0 en0 ea1 en1 ea2 en2 ea3 en3 ea4 en4 ea5 en5 ea en hp; omega)] at hl
    rw [hp, hl, pow8_0]
    show 8 * (5 - 5) + c0 = _
    clear hp hl
    omega
/-! ### WheelAll -/
theorem all_next {LL : List (List DTimer)} {i : Nat} (h : i < LL.length) : (LL.take i).flatten ++ LL.getD i [] = (LL.take (i + 1)).flatten := by
  rw [take_next h, List.flatten_append]; simp
theorem pre_le (LL : List (List DTimer)) (i : Nat) : ((LL.take i).flatten).length ≤ (timers LL).length := by
  have h3 : LL.flatten = (LL.take i).flatten ++ (LL.drop i).flatten := by rw [← List.flatten_append, List.take_append_drop]
  unfold timers; rw [h3, List.length_append]; omega
/-! ### WheelCheck -/
theorem few_ids : ∀ (n : Nat) (l : List Int), l.Nodup → (∀ x ∈ l, 0 ≤ x ∧ x < (n : Int)) → l.length ≤ n
  | 0, [], _, _ => Nat.le_refl _
  | 0, x :: l, _, h => by have := h x (by simp); omega
  | n + 1, l, hn, h => by
    have h1 := few_ids n (l.erase (n : Int)) (hn.erase _) (fun x hx => by
      have hx' := (hn.mem_erase_iff).1 hx
      have := h x hx'.2
      have := hx'.1
      omega)
    have h2 : l.length ≤ (l.erase (n : Int)).length + 1 := by
      rw [List.length_erase]; split <;> omega
    omega
structure CR (w : DWheel) (seen : List DTimer) (i k : Nat) : Prop where
  ids : (seen.map (·.id)).Nodup ∧ ∀ x ∈ seen.map (·.id), 0 ≤ x ∧ x < ((1048577 : Nat) : Int)
  seen_ : seen = (timers w.slots).take (pre w.slots i + k)
  go : ∃ sl last, checkGo w.now ((seen.map (·.id)).reverse) sl last ((flat w.slots).drop (pre w.slots i + k)) = checkGo w.now [] (-1) ⟨0, 0⟩ (flat w.slots) ∧ (k = 0 → sl < (i : Int)) ∧ (0 < k → sl = (i : Int) ∧ last = (w.slots.getD i []).getD (k - 1) default)
theorem CR.small {w : DWheel} {seen : List DTimer} {i k : Nat} (h : CR w seen i k) : seen.length ≤ 1048577 := by
  have := few_ids _ _ h.ids.1 h.ids.2
  rwa [List.length_map] at this
theorem CR.start (w : DWheel) : CR w [] 0 0 := ⟨⟨List.nodup_nil, fun _ h => by cases h⟩, rfl, -1, ⟨0, 0⟩, rfl, fun _ => by omega, fun h => absurd h (by omega)⟩
theorem CR.row {w : DWheel} {seen : List DTimer} {i k : Nat} (h : CR w seen i k) (hi : i < w.slots.length) (hk : k = (w.slots.getD i []).length) : CR w seen (i + 1) 0 := by
  have e : pre w.slots (i + 1) + 0 = pre w.slots i + k := by rw [pre_next hi, hk]; rfl
  obtain ⟨sl, last, g, g1, g2⟩ := h.go
  refine ⟨h.ids, by rw [e]; exact h.seen_, sl, last, by rw [e]; exact g, fun _ => ?_, fun h => absurd h (by omega)⟩
  rcases Nat.eq_zero_or_pos k with h9 | h9
  · have := g1 h9; omega
  · have := (g2 h9).1; omega
section
variable {w : DWheel} {seen : List DTimer} {i k : Nat}
theorem flat_at (hi : i < w.slots.length) (hk : k < (w.slots.getD i []).length) : (flat w.slots).drop (pre w.slots i + k) = (i, (w.slots.getD i []).getD k default) :: (flat w.slots).drop (pre w.slots i + (k + 1)) := by
  obtain ⟨a1, a2, a3⟩ := at_pre hi hk
  rw [drop_at a3]
  have e : ((flat w.slots).getD (pre w.slots i + k) (0, default)) = (i, (w.slots.getD i []).getD k default) := by
    refine Prod.ext ?_ a2
    have : (((flat w.slots).getD (pre w.slots i + k) (0, default)).1 : Int) = i := a1
    show ((flat w.slots).getD (pre w.slots i + k) (0, default)).1 = i
    omega
  rw [e]; rfl
theorem CR.ahead_ (h : CR w seen i k) (hi : i < w.slots.length) (hk : k < (w.slots.getD i []).length) (hr : Wh.right ((w.slots.getD i []).getD k default) w.now = true) (hp : place ((w.slots.getD i []).getD k default).due w.now = (i : Int)) (ho : k = 0 ∨ Wh.ahead ((w.slots.getD i []).getD (k - 1) default) ((w.slots.getD i []).getD k default) = true) : ∃ sl last, (if ((w.slots.getD i []).getD k default).id ∈ ((seen.map (·.id)).reverse) then 6 else checkGo w.now (((w.slots.getD i []).getD k default).id :: (seen.map (·.id)).reverse) i ((w.slots.getD i []).getD k default) ((flat w.slots).drop (pre w.slots i + (k + 1)))) = checkGo w.now [] (-1) ⟨0, 0⟩ (flat w.slots) ∧ sl = (i : Int) ∧ last = ((w.slots.getD i []).getD k default) := by
  obtain ⟨sl, last, g, g1, g2⟩ := h.go
  have e1 : ¬ Wh.right ((w.slots.getD i []).getD k default) w.now = false := fun h9 => by rw [hr] at h9; cases h9
  have e2 : ¬ (Wh.place ((w.slots.getD i []).getD k default).due w.now ≠ (i : Int) ∨ ((i : Int) = sl ∧ 0 ≤ order last ((w.slots.getD i []).getD k default))) := by
    rintro (h9 | ⟨h9, h8⟩)
    · exact h9 hp
    · rcases ho with h7 | h7
      · have := g1 h7; omega
      · rcases Nat.eq_zero_or_pos k with h6 | h6
        · have := g1 h6; omega
        · rw [(g2 h6).2] at h8
          exact not_ge.2 h7 h8
  refine ⟨_, _, ?_, rfl, rfl⟩
  rw [← g, flat_at hi hk, checkGo.eq_2]
  exact ((if_neg e1).trans (if_neg e2)).symm
theorem CR.next (h : CR w seen i k) (hi : i < w.slots.length) (hk : k < (w.slots.getD i []).length) (hr : Wh.right ((w.slots.getD i []).getD k default) w.now = true) (hp : place ((w.slots.getD i []).getD k default).due w.now = (i : Int)) (ho : k = 0 ∨ Wh.ahead ((w.slots.getD i []).getD (k - 1) default) ((w.slots.getD i []).getD k default) = true) (hn : ∀ j, j < seen.length → ¬ (seen.getD j default).id = ((w.slots.getD i []).getD k default).id) : CR w (seen ++ [((w.slots.getD i []).getD k default)]) i (k + 1) := by
  obtain ⟨sl, last, g, rfl, rfl⟩ := h.ahead_ hi hk hr hp ho
  obtain ⟨a1, a2, a3⟩ := at_pre hi hk
  have hnew : ∀ t ∈ seen, ¬ t.id = ((w.slots.getD i []).getD k default).id := fun t ht => by
    obtain ⟨j, hj, rfl⟩ := List.getElem_of_mem ht
    have := hn j hj
    rwa [getD_of hj] at this
  refine ⟨⟨?_, ?_⟩, ?_, _, _, ?_, fun h => absurd h (by omega), fun _ => ⟨rfl, rfl⟩⟩
  · rw [List.map_append, List.nodup_append]
    refine ⟨h.ids.1, by simp, fun x hx y hy => ?_⟩
    obtain ⟨t, ht, rfl⟩ := List.mem_map.1 hx
    rw [List.map_singleton, List.mem_singleton] at hy
    subst hy; exact hnew t ht
  · intro x hx
    rw [List.map_append, List.mem_append] at hx
    rcases hx with hx | hx
    · exact h.ids.2 x hx
    · rw [List.map_singleton, List.mem_singleton] at hx
      subst hx
      have := (right_iff.1 hr).1
      exact ⟨this.1, by omega⟩
  · have e := tim_get a3
    rw [a2] at e
    rw [e, ← Nat.add_assoc, List.take_succ_eq_append_getElem a3, h.seen_, getD_of a3]
  · rw [← g, if_neg]
    · simp
    · rw [List.mem_reverse, List.mem_map]
      rintro ⟨t, ht, e⟩
      obtain ⟨j, hj, rfl⟩ := List.getElem_of_mem ht
      exact hn j hj (by rw [getD_of hj]; exact e)
theorem CR.twice (h : CR w seen i k) (h1 : okTime w.now = true) (h2 : (w.slots.length : Int) = 48) (hi : i < w.slots.length) (hk : k < (w.slots.getD i []).length) (hr : Wh.right ((w.slots.getD i []).getD k default) w.now = true) (hp : place ((w.slots.getD i []).getD k default).due w.now = (i : Int)) (ho : k = 0 ∨ Wh.ahead ((w.slots.getD i []).getD (k - 1) default) ((w.slots.getD i []).getD k default) = true) {j : Nat} (hj : j < seen.length) (he : (seen.getD j default).id = ((w.slots.getD i []).getD k default).id) : 6 = check w := by
  obtain ⟨sl, last, g, rfl, rfl⟩ := h.ahead_ hi hk hr hp ho
  rw [c_head h1 h2, ← g, if_pos]
  rw [List.mem_reverse, List.mem_map]
  exact ⟨_, List.getElem_mem hj, by rw [← he, getD_of hj]⟩
theorem CR.right (h : CR w seen i k) (h1 : okTime w.now = true) (h2 : (w.slots.length : Int) = 48) (hi : i < w.slots.length) (hk : k < (w.slots.getD i []).length) (hr : Wh.right ((w.slots.getD i []).getD k default) w.now = false) : 3 = check w := by
  obtain ⟨sl, last, g, g1, g2⟩ := h.go
  rw [c_head h1 h2, ← g, flat_at hi hk, checkGo.eq_2]
  exact (if_pos hr).symm
theorem CR.place (h : CR w seen i k) (h1 : okTime w.now = true) (h2 : (w.slots.length : Int) = 48) (hi : i < w.slots.length) (hk : k < (w.slots.getD i []).length) (hr : Wh.right ((w.slots.getD i []).getD k default) w.now = true) (hb : ¬ Wh.place ((w.slots.getD i []).getD k default).due w.now = (i : Int) ∨ (0 < k ∧ Wh.ahead ((w.slots.getD i []).getD (k - 1) default) ((w.slots.getD i []).getD k default) = false)) : 4 = check w := by
  obtain ⟨sl, last, g, g1, g2⟩ := h.go
  rw [c_head h1 h2, ← g, flat_at hi hk, checkGo.eq_2, if_neg (fun h9 => by rw [hr] at h9; cases h9)]
  refine (if_pos ?_).symm
  rcases hb with h9 | ⟨h9, h8⟩
  · exact .inl h9
  · obtain ⟨e1, e2⟩ := g2 h9
    refine .inr ⟨e1.symm, ?_⟩
    rw [e2]
    exact Classical.byContradiction fun h7 => by rw [not_ge.1 h7] at h8; cases h8
theorem CR.many (h : CR w seen 48 0) (h1 : okTime w.now = true) (h2 : (w.slots.length : Int) = 48) (hb : 60 < (seen.length : Int)) : 2 = check w := by
  obtain ⟨sl, last, g, _, _⟩ := h.go
  rw [c_head h1 h2, ← g, List.drop_of_length_le (by rw [flat_len, pre_all (by omega)]; exact Nat.le_add_right _ _), checkGo, if_pos (by simp; omega)]
theorem CR.fine (h : CR w seen 48 0) (h1 : okTime w.now = true) (h2 : (w.slots.length : Int) = 48) (hb : (seen.length : Int) ≤ 60) : 0 = check w := by
  obtain ⟨sl, last, g, _, _⟩ := h.go
  rw [c_head h1 h2, ← g, List.drop_of_length_le (by rw [flat_len, pre_all (by omega)]; exact Nat.le_add_right _ _), checkGo, if_neg (by simp; omega)]
theorem km {k : Nat} : ((k : Int) - 1).toNat = k - 1 := by omega
theorem hb_of {Q : Prop} {R : List DTimer} {k : Nat} (h : Q ∨ (0 < (k : Int) ∧ Wh.ahead (R.getD ((k : Int) - 1).toNat default) (R.getD k default) = false)) : Q ∨ (0 < k ∧ Wh.ahead (R.getD (k - 1) default) (R.getD k default) = false) := by
  rw [km] at h; exact h.imp id fun ⟨a, b⟩ => ⟨by omega, b⟩
theorem ho_of {R : List DTimer} {k : Nat} (h : (k : Int) ≤ 0 ∨ Wh.ahead (R.getD ((k : Int) - 1).toNat default) (R.getD k default) = true) : k = 0 ∨ Wh.ahead (R.getD (k - 1) default) (R.getD k default) = true := by
  rw [km] at h; exact h.imp (fun a => by omega) id
theorem nj_next {j : Nat} {l : List DTimer} {id : Int} (h : ∀ q, q < j → ¬ (l.getD q default).id = id) (h1 : ¬ (l.getD j default).id = id) : ∀ q, q < j + 1 → ¬ (l.getD q default).id = id := fun q hq => by
  rcases Nat.lt_succ_iff_lt_or_eq.1 hq with h2 | rfl
  · exact h q h2
  · exact h1
end
/-! ### TimersSorted -/
theorem isort_min : ∀ {l : List DTimer} {b : Nat} (hb : b < l.length), (∀ x ∈ l, Wh.ahead x l[b] = false) → isort l = l[b] :: isort (l.eraseIdx b)
  | y :: r, 0, _, h => by
    simp only [List.getElem_cons_zero, List.eraseIdx_cons_zero] at h ⊢
    show insI y (isort r) = y :: isort r
    cases e : isort r with
    | nil => rfl
    | cons x L =>
      have hx : x ∈ r := mem_isort.1 (by rw [e]; simp)
      exact if_neg (by rw [h x (by simp [hx])]; decide)
  | y :: r, b + 1, hb, h => by
    simp only [List.getElem_cons_succ, List.eraseIdx_cons_succ] at h ⊢
    have hb' : b < r.length := by simpa using hb
    have ih := isort_min hb' (fun x hx => h x (by simp [hx]))
    rw [isort, ih, isort, insI]
    rcases ahead_total (h y (by simp)) with e | e
    · rw [if_neg (by rw [← e, ahead_irrefl]; decide), ← e]
      congr 1
      cases e2 : isort (r.eraseIdx b) with
      | nil => rfl
      | cons x L =>
        have hx : x ∈ r := List.mem_of_mem_eraseIdx (mem_isort.1 (by rw [e2]; simp : x ∈ isort (r.eraseIdx b)))
        have hz : ¬ Wh.ahead x y = true := by rw [e, h x (by simp [hx])]; decide
        exact (if_neg hz).symm
    · rw [if_pos e]
def BI (l : List DTimer) (b : Int) (i : Nat) : Prop := i ≤ l.length ∧ (0 ≤ b ∧ b < (l.length : Int)) ∧ ∀ j, j < i → Wh.ahead (l.getD j default) (l.getD b.toNat default) = false
theorem BI.start {l : List DTimer} (h : 0 < l.length) : BI l 0 0 := ⟨Nat.zero_le _, by omega, fun j h => absurd h (by omega)⟩
theorem BI.yes {l : List DTimer} {b : Int} {i : Nat} (h : BI l b i) (hi : i < l.length) (hc : Wh.ahead (l.getD i default) (l.getD b.toNat default) = true) : BI l (i : Int) (i + 1) := by
  refine ⟨by omega, by omega, fun j hj => ?_⟩
  rw [Int.toNat_natCast]
  rcases Nat.lt_succ_iff_lt_or_eq.1 hj with h2 | rfl
  · cases h3 : Wh.ahead (l.getD j default) (l.getD i default) with
    | false => rfl
    | true => have := h.2.2 j h2; rw [ahead_trans h3 hc] at this; cases this
  · exact ahead_irrefl _
theorem BI.no {l : List DTimer} {b : Int} {i : Nat} (h : BI l b i) (hi : i < l.length) (hc : Wh.ahead (l.getD i default) (l.getD b.toNat default) = false) : BI l b (i + 1) :=
  ⟨by omega, h.2.1, fun j hj => by
    rcases Nat.lt_succ_iff_lt_or_eq.1 hj with h2 | rfl
    · exact h.2.2 j h2
    · exact hc⟩
theorem BI.min {l : List DTimer} {b : Int} {i : Nat} (h : BI l b i) (hi : l.length ≤ i) : isort l = l.getD b.toNat default :: isort (l.take b.toNat ++ l.drop (b + 1).toNat) := by
  obtain ⟨h1, h2, h3⟩ := h
  have hb : b.toNat < l.length := by omega
  have e := isort_min hb (fun x hx => by
    obtain ⟨j, hj, rfl⟩ := List.getElem_of_mem hx
    have := h3 j (by omega)
    rwa [getD_of hj, getD_of hb] at this)
  rw [e, getD_of hb, List.eraseIdx_eq_take_drop_succ, show (b + 1).toNat = b.toNat + 1 by omega]
theorem ts_next {l left out : List DTimer} {b : Int} {i : Nat} (h : out ++ isort left = isort l) (hb : BI left b i) (hi : left.length ≤ i) : (out ++ [left.getD b.toNat default]) ++ isort (left.take b.toNat ++ left.drop (b + 1).toNat) = isort l := by
  rw [← h, hb.min hi]; simp
theorem isort_len (l : List DTimer) : (isort l).length = l.length := by
  induction l with
  | nil => rfl
  | cons y l ih =>
    have h : ∀ m : List DTimer, (insI y m).length = m.length + 1 := fun m => by
      induction m with
      | nil => rfl
      | cons z m ih2 => unfold insI; split <;> simp [ih2]
    rw [isort, h, ih]; rfl
/-! ### WheelOf -/
theorem mkW_push {now : Int} {S : List DTimer} {t : DTimer} : mkW now (S ++ [t]) = ⟨now, (mkW now S).slots.set (place t.due now).toNat ((mkW now S).slots.getD (place t.due now).toNat [] ++ [t])⟩ := by
  obtain ⟨p1, p2⟩ := place_nat t.due now
  refine wh_ext rfl (by rw [mkW_len]; show _ = ((mkW now S).slots.set _ _).length; rw [List.length_set, mkW_len]) fun i hi => ?_
  have hi' : i < 48 := by rwa [mkW_len] at hi
  rw [mkW_row hi']
  show _ = ((mkW now S).slots.set _ _).getD i []
  by_cases e : i = (place t.due now).toNat
  · subst e
    rw [getD_set_self (by rw [mkW_len]; exact p2), mkW_row p2, List.filter_append]
    simp [p1]
  · rw [getD_set_ne e, mkW_row hi', List.filter_append]
    have : ¬ place t.due now = (i : Int) := by omega
    simp [this]
def ofI (now : Int) (l : List DTimer) (i : Nat) : DWheel := mkW now (((isort l).take i).filter fun t => decide (now < t.due))
def of (now : Int) (l : List DTimer) : DWheel := mkW now ((isort l).filter fun t => decide (now < t.due))
theorem of_start (now : Int) (l : List DTimer) : (⟨now, List.replicate 48 []⟩ : DWheel) = ofI now l 0 := rfl
theorem of_yes {now : Int} {l : List DTimer} {w : DWheel} {i : Nat} (h : w = ofI now l i) (hi : i < (isort l).length) (hc : now < ((isort l).getD i default).due) : (⟨w.now, w.slots.set (place ((isort l).getD i default).due now).toNat (w.slots.getD (place ((isort l).getD i default).due now).toNat [] ++ [(isort l).getD i default])⟩ : DWheel) = ofI now l (i + 1) := by
  rw [h, ofI, ofI, List.take_succ_eq_append_getElem hi, List.filter_append]
  rw [getD_of hi] at hc ⊢
  rw [show [(isort l)[i]].filter (fun t => decide (now < t.due)) = [(isort l)[i]] by simp [hc], mkW_push]
  rfl
theorem of_no {now : Int} {l : List DTimer} {w : DWheel} {i : Nat} (h : w = ofI now l i) (hi : i < (isort l).length) (hc : ¬ now < ((isort l).getD i default).due) : w = ofI now l (i + 1) := by
  rw [h, ofI, ofI, List.take_succ_eq_append_getElem hi, List.filter_append]
  rw [getD_of hi] at hc
  rw [show [(isort l)[i]].filter (fun t => decide (now < t.due)) = [] by simp; omega, List.append_nil]
theorem of_due {l : List DTimer} (h : ∀ t ∈ l, 0 ≤ t.due ∧ t.due ≤ 262143) {i : Nat} (hi : i < (isort l).length) : 0 ≤ ((isort l).getD i default).due ∧ ((isort l).getD i default).due ≤ 262143 := by
  rw [getD_of hi]; exact h _ (mem_isort.1 (List.getElem_mem hi))
theorem of_len (now : Int) (l : List DTimer) (i : Nat) : (ofI now l i).slots.length = 48 := mkW_len _ _
theorem of_row (now : Int) (l : List DTimer) (i j : Nat) : ((ofI now l i).slots.getD j []).length ≤ l.length := by
  by_cases h : j < 48
  · rw [ofI, mkW_row h]
    refine Nat.le_trans (List.length_filter_le _ _) (Nat.le_trans (List.length_filter_le _ _) ?_)
    rw [List.length_take, isort_len]; omega
  · rw [List.getD_eq_getElem?_getD, List.getElem?_eq_none (by rw [of_len]; omega)]; exact Nat.zero_le _
theorem of_done {now : Int} {l : List DTimer} {w : DWheel} {i : Nat} (h : w = ofI now l i) (hi : (isort l).length ≤ i) : w = of now l := by rw [h, ofI, List.take_of_length_le hi]; rfl
/-! ### SameTimers, SameWheel, HasTimer -/
theorem st_no1 {a b : List DTimer} (h : ¬ (a.length : Int) = b.length) : false = decide (a = b) := (decide_eq_false fun e => h (by rw [e])).symm
theorem st_no2 {a b : List DTimer} {i : Nat} (h : ¬ a.getD i default = b.getD i default) : false = decide (a = b) := (decide_eq_false fun e => h (by rw [e])).symm
theorem st_yes {a b : List DTimer} {i : Nat} (hl : (a.length : Int) = b.length) (hi : a.length ≤ i) (h : ∀ j, j < i → a.getD j default = b.getD j default) : true = decide (a = b) :=
  (decide_eq_true (List.ext_getElem (by omega) fun j h1 h2 => by have := h j (by omega); rwa [getD_of h1, getD_of h2] at this)).symm
theorem tim_eq {a b : DTimer} : (a.id = b.id ∧ a.due = b.due) ↔ a = b := by
  obtain ⟨i, d⟩ := a; obtain ⟨j, e⟩ := b; simp
theorem all_next' {α : Type} {a b : List α} {d : α} {i : Nat} (h : ∀ j, j < i → a.getD j d = b.getD j d) (h1 : a.getD i d = b.getD i d) : ∀ j, j < i + 1 → a.getD j d = b.getD j d := fun j hj => by
  rcases Nat.lt_succ_iff_lt_or_eq.1 hj with h2 | rfl
  · exact h j h2
  · exact h1
theorem sw_no1 {a b : DWheel} (h : ¬ a.now = b.now ∨ ¬ (a.slots.length : Int) = b.slots.length) : false = decide (a = b) := (decide_eq_false fun e => by subst e; rcases h with h | h <;> exact h rfl).symm
theorem sw_no2 {a b : DWheel} {i : Nat} (h : ¬ a.slots.getD i [] = b.slots.getD i []) : false = decide (a = b) := (decide_eq_false fun e => h (by rw [e])).symm
theorem sw_yes {a b : DWheel} {i : Nat} (hl : a.now = b.now ∧ (a.slots.length : Int) = b.slots.length) (hi : a.slots.length ≤ i) (h : ∀ j, j < i → a.slots.getD j [] = b.slots.getD j []) : true = decide (a = b) :=
  (decide_eq_true (wh_ext hl.1 (by omega) fun j h1 => h j (by omega))).symm
def has (l : List DTimer) (id : Int) : Bool := l.any fun t => t.id == id
theorem has_yes {l : List DTimer} {id : Int} {i : Nat} (hi : i < l.length) (h : (l.getD i default).id = id) : true = has l id := by
  symm; unfold has; rw [List.any_eq_true]
  exact ⟨_, List.getElem_mem hi, by rw [getD_of hi] at h; simpa using h⟩
theorem has_no {l : List DTimer} {id : Int} {i : Nat} (hi : l.length ≤ i) (h : ∀ j, j < i → ¬ (l.getD j default).id = id) : false = has l id := by
  symm; unfold has; rw [List.any_eq_false]
  intro t ht
  obtain ⟨j, hj, rfl⟩ := List.getElem_of_mem ht
  have := h j (by omega)
  rw [getD_of hj] at this; simpa using this
end Go.Sx.Wh

/- Timing wheels: the laws, by the lists of timers. -/
namespace Go.Sx.Wh
theorem ids_inj {S : List DTimer} (h : (S.map (·.id)).Nodup) {x y : DTimer} (hx : x ∈ S) (hy : y ∈ S) (e : x.id = y.id) : x = y := by
  induction S with
  | nil => cases hx
  | cons z S ih =>
    rw [List.map_cons, List.nodup_cons] at h
    rcases List.mem_cons.1 hx with g1 | g1 <;> rcases List.mem_cons.1 hy with g2 | g2
    · rw [g1, g2]
    · exact absurd (List.mem_map.2 ⟨y, g2, by rw [← e, g1]⟩) h.1
    · exact absurd (List.mem_map.2 ⟨x, g1, by rw [e, g2]⟩) h.1
    · exact ih h.2 g1 g2
theorem has_iff {l : List DTimer} {id : Int} : has l id = true ↔ ∃ t ∈ l, t.id = id := by
  unfold has; rw [List.any_eq_true]; simp
theorem find_has (w : DWheel) (id : Int) : (find w id).2.2 = has (timers w.slots) id := by
  have h : ∀ (LL : List (List DTimer)) (s : Nat), (findGo id s LL).2.2 = has LL.flatten id := by
    intro LL
    induction LL with
    | nil => intro s; rfl
    | cons l r ih =>
      intro s
      unfold findGo
      have e : has (l :: r).flatten id = (l.any (fun t => t.id == id) || has r.flatten id) := by unfold has; rw [List.flatten_cons, List.any_append]
      rw [e]
      rcases idxF_cases (fun x : DTimer => (x.id == id)) l with ⟨k, h2, h1, h3, _⟩ | ⟨h1, h2⟩
      · rw [if_pos (by omega), List.any_eq_true.2 ⟨l[k], List.getElem_mem h2, h3⟩]; rfl
      · rw [if_neg (by omega), ih, List.any_eq_false.2 (fun x hx => by rw [h2 x hx]; decide)]; rfl
  exact h w.slots 0
/-! ### Advance -/
theorem adv0 {w : DWheel} {to : Int} (h : advErr w to = 0) : Ok w ∧ okTime to = true ∧ ¬ to < w.now := by
  unfold advErr at h
  split at h; · rename_i h1; exact absurd h h1
  split at h; · cases h
  split at h; · cases h
  rename_i h1 h2 h3
  exact ⟨check_ok.1 (by simpa using h1), by simpa using h2, h3⟩
theorem adv_can {w : DWheel} {to : Int} (h : advErr w to = 0) : adv w to = mkW to ((timers w.slots).filter fun t => decide (to < t.due)) ∧ gone w to = (timers w.slots).filter fun t => decide (t.due ≤ to) := by
  obtain ⟨hw, h1, h2⟩ := adv0 h
  obtain ⟨a, b, _⟩ := av4 hw h1 h2 (oo := (advGo w to (timers w.slots).length).1) (gl := (advGo w to (timers w.slots).length).2) rfl
  rw [a, b, advGo_eq hw _ (Nat.le_refl _), List.take_length]
  exact ⟨rfl, rfl⟩
theorem sub_ids {S T : List DTimer} (h : T.Sublist S) (hs : (S.map (·.id)).Nodup) : (T.map (·.id)).Nodup := hs.sublist (h.map _)
theorem adv_good {w : DWheel} {to : Int} (h : advErr w to = 0) : Good to ((timers w.slots).filter fun t => decide (to < t.due)) := by
  obtain ⟨hw, h1, h2⟩ := adv0 h
  refine ⟨okTime_iff.1 h1, sd_filter hw.sd _, fun t ht => ?_, sub_ids List.filter_sublist hw.ids, Nat.le_trans (List.length_filter_le _ _) hw.few⟩
  obtain ⟨g1, g2⟩ := List.mem_filter.1 ht
  have := right_iff.1 (hw.right g1)
  exact right_iff.2 ⟨this.1, this.2.1, by simpa using g2⟩
theorem gone_bad {w : DWheel} {to : Int} (h : ¬ advErr w to = 0) : gone w to = [] := if_neg h
theorem gone_len (w : DWheel) (to : Int) : (gone w to).length ≤ 60 := by
  by_cases h : advErr w to = 0
  · rw [(adv_can h).2]; exact Nat.le_trans (List.length_filter_le _ _) (adv0 h).1.few
  · rw [gone_bad h]; exact Nat.zero_le _
theorem adv_timers {w : DWheel} {to : Int} (h : advErr w to = 0) : timers (adv w to).slots = (timers w.slots).filter fun t => decide (to < t.due) := by
  rw [(adv_can h).1]; exact (adv_good h).timers
theorem parts {w : DWheel} {a b : Int} (h : advErr w a = 0) (h2 : advErr (adv w a) b = 0) : advErr w b = 0 ∧ adv (adv w a) b = adv w b ∧ gone w b = gone w a ++ gone (adv w a) b ∧ check (adv (adv w a) b) = 0 := by
  obtain ⟨hw, k1, k2⟩ := adv0 h
  obtain ⟨hw2, m1, m2⟩ := adv0 h2
  have hab : a ≤ b := by rw [(adv_can h).1] at m2; have : ¬ b < a := m2; omega
  have h3 : advErr w b = 0 := advErr0 hw m1 (by omega)
  refine ⟨h3, ?_, ?_, ?_⟩
  · rw [(adv_can h2).1, (adv_can h3).1, adv_timers h, List.filter_filter]
    congr 1
    refine List.filter_congr fun t _ => ?_
    rw [← Bool.decide_and]; exact decide_eq_decide.2 (by omega)
  · rw [(adv_can h2).2, (adv_can h).2, (adv_can h3).2, adv_timers h]
    refine sd_ext (sd_filter hw.sd _) (List.pairwise_append.2 ⟨sd_filter hw.sd _, sd_filter (sd_filter hw.sd _) _, fun x hx y hy => ?_⟩) fun t => ?_
    · have hx := (List.mem_filter.1 hx).2
      have hy := (List.mem_filter.1 (List.mem_filter.1 hy).1).2
      simp only [decide_eq_true_eq] at hx hy
      exact ahead_iff.2 (.inl (by omega))
    · simp only [List.mem_append, List.mem_filter, decide_eq_true_eq]
      constructor
      · rintro ⟨g1, g2⟩
        by_cases c : t.due ≤ a
        · exact .inl ⟨g1, c⟩
        · exact .inr ⟨⟨g1, by omega⟩, g2⟩
      · rintro (⟨g1, g2⟩ | ⟨⟨g1, _⟩, g2⟩)
        · exact ⟨g1, by omega⟩
        · exact ⟨g1, g2⟩
  · rw [(adv_can h2).1]; exact check_ok.2 (adv_good h2).ok
/-! ### Next -/
theorem next0 {w : DWheel} (h : nextErr w = 0) : Ok w ∧ 0 < (timers w.slots).length ∧ next w = ((timers w.slots).getD 0 default).due := by
  have h0 := h
  unfold nextErr at h
  split at h; · rename_i h1; exact absurd h h1
  split at h; · cases h
  rename_i h1 h2
  exact ⟨check_ok.1 (by simpa using h1), by omega, if_pos h0⟩
theorem next5 {w : DWheel} (h : Ok w) : (nextErr w = 0 ∧ 0 < (timers w.slots).length) ∨ (nextErr w = 5 ∧ (timers w.slots).length = 0) := by
  have hc := check_ok.2 h
  by_cases c : (timers w.slots).length = 0
  · right; exact ⟨by rw [nextErr, if_neg (by simp [hc]), if_pos c], c⟩
  · left; exact ⟨by rw [nextErr, if_neg (by simp [hc]), if_neg c], by omega⟩
theorem gone_at {w : DWheel} {to : Int} (h : advErr w to = 0) {i : Nat} (hi : i < (gone w to).length) : ((gone w to).getD i default).due ≤ to ∧ (0 < i → ((gone w to).getD (i - 1) default).due ≤ ((gone w to).getD i default).due) := by
  have e := (adv_can h).2
  have hs : Sd (gone w to) := by rw [e]; exact sd_filter (adv0 h).1.sd _
  rw [getD_of hi]
  refine ⟨?_, fun h0 => ?_⟩
  · have h9 : ∀ x ∈ gone w to, x.due ≤ to := fun x hx => by rw [e] at hx; simpa using (List.mem_filter.1 hx).2
    exact h9 _ (List.getElem_mem hi)
  · rw [getD_of (show i - 1 < (gone w to).length by omega)]
    have := List.pairwise_iff_getElem.1 hs (i - 1) i (by omega) hi (by omega)
    rcases ahead_iff.1 this with h9 | h9
    · omega
    · omega
theorem next_adv {w : DWheel} {to : Int} (h : advErr w to = 0) (h2 : nextErr (adv w to) = 0) : ¬ next (adv w to) ≤ to := by
  obtain ⟨a, b, c⟩ := next0 h2
  rw [c, getD_of b]
  have h9 : ∀ x ∈ timers (adv w to).slots, to < x.due := fun x hx => by rw [adv_timers h] at hx; simpa using (List.mem_filter.1 hx).2
  have := h9 _ (List.getElem_mem b)
  omega
theorem sd_head {S : List DTimer} (h : Sd S) (h0 : 0 < S.length) {t : DTimer} (ht : t ∈ S) : (S.getD 0 default).due ≤ t.due := by
  cases S with
  | nil => cases ht
  | cons x S =>
    show x.due ≤ t.due
    rcases List.mem_cons.1 ht with rfl | ht
    · omega
    · have := (List.pairwise_cons.1 h).1 t ht
      rcases ahead_iff.1 this with h9 | h9 <;> omega
theorem due_law {w : DWheel} {to : Int} (h : advErr w to = 0) : (nextErr w = 5 ∧ gone w to = []) ∨ (nextErr w = 0 ∧ ((to < next w ∧ gone w to = []) ∨ (next w ≤ to ∧ 0 < (gone w to).length ∧ ((gone w to).getD 0 default).due = next w))) := by
  have hw := (adv0 h).1
  have e := (adv_can h).2
  rcases next5 hw with ⟨h1, h2⟩ | ⟨h1, h2⟩
  · right
    refine ⟨h1, ?_⟩
    have hn := (next0 h1).2.2
    by_cases c : to < next w
    · left
      refine ⟨c, ?_⟩
      rw [e, List.filter_eq_nil_iff]
      intro t ht
      have := sd_head hw.sd h2 ht
      simp only [decide_eq_true_eq]; omega
    · right
      refine ⟨by omega, ?_⟩
      rw [e, hn]
      have hsd := hw.sd
      rw [hn] at c
      revert h2 c hsd
      generalize timers w.slots = S
      intro h2 c hsd
      cases S with
      | nil => exact absurd h2 (by simp)
      | cons x S =>
        have hx : x.due ≤ to := by have : ¬ to < x.due := c; omega
        rw [List.filter_cons, if_pos (by simpa using hx)]
        exact ⟨by simp, rfl⟩
  · left
    refine ⟨h1, ?_⟩
    rw [e, List.length_eq_zero_iff.1 h2]; rfl
theorem due_bool {e n to : Int} {l : List DTimer} (h : (e = 5 ∧ l = []) ∨ (e = 0 ∧ ((to < n ∧ l = []) ∨ (n ≤ to ∧ 0 < l.length ∧ (l.getD 0 default).due = n)))) : (((e == 5) && ((l.length : Int) == 0)) || (((e == 0) && (decide (to < n) == ((l.length : Int) == 0))) && (decide (to < n) || ((l.getD 0 default).due == n)))) = true := by
  rcases h with ⟨rfl, rfl⟩ | ⟨rfl, ⟨g2, rfl⟩ | ⟨g2, g3, g4⟩⟩
  · rfl
  · rw [decide_eq_true g2]; rfl
  · have a : decide (to < n) = false := decide_eq_false (by omega)
    have b : ((l.length : Int) == 0) = false := beq_eq_false_iff_ne.2 (by omega)
    rw [a, b, g4]; simp
/-! ### Add -/
theorem add_iff {w : DWheel} {t : DTimer} : addErr w t = 0 ↔ Ok w ∧ Wh.right t w.now = true ∧ has (timers w.slots) t.id = false ∧ ¬ (timers w.slots).length = 60 := by
  unfold addErr
  rw [find_has]
  constructor
  · intro h
    split at h; · rename_i h1; exact absurd h h1
    split at h; · cases h
    split at h; · cases h
    split at h; · cases h
    rename_i h1 h2 h3 h4
    exact ⟨check_ok.1 (by simpa using h1), by simpa using h2, by simpa using h3, h4⟩
  · rintro ⟨h1, h2, h3, h4⟩
    rw [if_neg (by simp [check_ok.2 h1]), if_neg (by simp [h2]), if_neg (by simp [h3]), if_neg h4]
theorem insI_perm (t : DTimer) (l : List DTimer) : (insI t l).Perm (t :: l) := by
  induction l with
  | nil => exact List.Perm.refl _
  | cons x l ih =>
    unfold insI
    split
    · exact (List.Perm.cons x ih).trans (List.Perm.swap t x l)
    · exact List.Perm.refl _
theorem add_can {w : DWheel} {t : DTimer} (h : addErr w t = 0) : add w t = mkW w.now (insI t (timers w.slots)) ∧ Good w.now (insI t (timers w.slots)) := by
  obtain ⟨h1, h2, h3, h4⟩ := add_iff.1 h
  have hn : ∀ x ∈ timers w.slots, ¬ x.id = t.id := fun x hx e => by rw [has_iff.2 ⟨x, hx, e⟩] at h3; cases h3
  have hn2 : t ∉ timers w.slots := fun h9 => hn t h9 rfl
  constructor
  · rw [add, if_pos h]
    conv => lhs; rw [h1.canon]
    exact put_mkW h1.sd hn2
  · refine ⟨h1.now, sd_insI h1.sd hn2, fun x hx => ?_, ?_, ?_⟩
    · rcases mem_insI.1 hx with rfl | hx
      · exact h2
      · exact h1.right hx
    · refine ((insI_perm t (timers w.slots)).map _).nodup_iff.2 ?_
      rw [List.map_cons, List.nodup_cons]
      refine ⟨fun h9 => ?_, h1.ids⟩
      obtain ⟨x, hx, e⟩ := List.mem_map.1 h9
      exact hn x hx e
    · rw [(insI_perm t (timers w.slots)).length_eq, List.length_cons]
      have := h1.few; omega
theorem add_timers {w : DWheel} {t : DTimer} (h : addErr w t = 0) : timers (add w t).slots = insI t (timers w.slots) := by rw [(add_can h).1]; exact (add_can h).2.timers
theorem add_now {w : DWheel} {t : DTimer} (h : addErr w t = 0) : (add w t).now = w.now := by rw [(add_can h).1]; rfl
theorem add_ok {w : DWheel} {t : DTimer} (h : addErr w t = 0) : Ok (add w t) := by rw [(add_can h).1]; exact (add_can h).2.ok
theorem add_bad {w : DWheel} {t : DTimer} (h : ¬ addErr w t = 0) : add w t = ⟨0, []⟩ := if_neg h
/-! ### Cancel -/
theorem cancel_iff {w : DWheel} {id : Int} : cancelErr w id = 0 ↔ Ok w ∧ has (timers w.slots) id = true := by
  unfold cancelErr
  rw [find_has]
  constructor
  · intro h
    split at h; · rename_i h1; exact absurd h h1
    split at h; · cases h
    rename_i h1 h2
    exact ⟨check_ok.1 (by simpa using h1), by simpa using h2⟩
  · rintro ⟨h1, h2⟩
    rw [if_neg (by simp [check_ok.2 h1]), if_neg (by simp [h2])]
theorem mem_cut {l : List DTimer} (hn : l.Nodup) {k : Nat} (hk : k < l.length) {x : DTimer} : x ∈ l.take k ++ l.drop (k + 1) ↔ x ∈ l ∧ x ≠ l[k] := by
  rw [← List.eraseIdx_eq_take_drop_succ, List.mem_eraseIdx_iff_getElem]
  constructor
  · rintro ⟨i, hi, h1, rfl⟩
    refine ⟨List.getElem_mem hi, fun e => h1 ?_⟩
    have hp := List.pairwise_iff_getElem.1 hn
    rcases Nat.lt_trichotomy i k with c | c | c
    · exact absurd e (hp i k hi hk c)
    · exact c
    · exact absurd e.symm (hp k i hk hi c)
  · rintro ⟨h1, h2⟩
    obtain ⟨i, hi, rfl⟩ := List.getElem_of_mem h1
    exact ⟨i, hi, fun e => h2 (by subst e; rfl), rfl⟩
theorem cut_sub (l : List DTimer) (k : Nat) : (l.take k ++ l.drop (k + 1)).Sublist l := by
  rw [← List.eraseIdx_eq_take_drop_succ]; exact List.eraseIdx_sublist _ _
theorem cancel_can {w : DWheel} {id : Int} (h : cancelErr w id = 0) : cancel w id = mkW w.now ((timers w.slots).filter fun t => decide (¬ t.id = id)) := by
  obtain ⟨h1, h2⟩ := cancel_iff.1 h
  rw [cancel, if_pos h]
  obtain ⟨f1, f2, f3, f4, f5⟩ := find_at (w := w) (id := id) (by rw [find_has]; exact h2)
  generalize (find w id).1 = i at *
  generalize (find w id).2.1 = k at *
  have hi48 : i.toNat < 48 := by have := h1.len; omega
  have hk : k.toNat < (w.slots.getD i.toNat []).length := by omega
  rw [getD_of hk] at f5
  have hin : ∀ {j : Nat} {x : DTimer}, j < w.slots.length → x ∈ w.slots.getD j [] → x ∈ timers w.slots := fun hj hx => mem_timers.2 ⟨_, hj, hx⟩
  refine wh_ext rfl (by show (w.slots.set _ _).length = _; rw [List.length_set, mkW_len, h1.len]) fun j hj => ?_
  have hj' : j < w.slots.length := by have : j < (w.slots.set _ _).length := hj; rwa [List.length_set] at this
  have hj48 : j < 48 := by rw [← h1.len]; exact hj'
  show (w.slots.set _ _).getD j [] = _
  rw [mkW_row hj48]
  by_cases e : j = i.toNat
  · subst e
    rw [getD_set_self hj', show (k + 1).toNat = k.toNat + 1 by omega]
    refine sd_ext ((h1.srt _ hj48).sublist (cut_sub _ _)) (sd_filter (sd_filter h1.sd _) _) fun x => ?_
    rw [mem_cut (sd_nodup (h1.srt _ hj48)) hk, List.mem_filter, List.mem_filter, decide_eq_true_eq, decide_eq_true_eq]
    constructor
    · rintro ⟨a, b⟩
      refine ⟨⟨hin hj' a, fun e2 => b ?_⟩, (h1.ent _ hj48 x a).2⟩
      exact ids_inj h1.ids (hin hj' a) (hin hj' (List.getElem_mem hk)) (e2.trans f5.symm)
    · rintro ⟨⟨a, b⟩, c⟩
      obtain ⟨j2, hj2, ht⟩ := mem_timers.1 a
      have := (h1.ent j2 (by rw [← h1.len]; exact hj2) x ht).2
      obtain rfl : j2 = i.toNat := by omega
      exact ⟨ht, fun e2 => b (by rw [e2]; exact f5)⟩
  · rw [getD_set_ne e]
    refine sd_ext (h1.srt _ hj48) (sd_filter (sd_filter h1.sd _) _) fun x => ?_
    rw [List.mem_filter, List.mem_filter, decide_eq_true_eq, decide_eq_true_eq]
    constructor
    · intro a
      refine ⟨⟨hin hj' a, fun e2 => ?_⟩, (h1.ent _ hj48 x a).2⟩
      have e3 := ids_inj h1.ids (hin hj' a) (hin (show i.toNat < w.slots.length by omega) (List.getElem_mem hk)) (e2.trans f5.symm)
      have p1 := (h1.ent _ hj48 x a).2
      have p2 := (h1.ent _ hi48 _ (List.getElem_mem hk)).2
      rw [← e3] at p2
      omega
    · rintro ⟨⟨a, b⟩, c⟩
      obtain ⟨j2, hj2, ht⟩ := mem_timers.1 a
      have := (h1.ent j2 (by rw [← h1.len]; exact hj2) x ht).2
      obtain rfl : j2 = j := by omega
      exact ht
/-! ### WheelCancel -/
theorem cancel_add {w : DWheel} {t : DTimer} (h : addErr w t = 0) : cancelErr (add w t) t.id = 0 ∧ cancel (add w t) t.id = w := by
  obtain ⟨h1, h2, h3, h4⟩ := add_iff.1 h
  have hc : cancelErr (add w t) t.id = 0 := cancel_iff.2 ⟨add_ok h, has_iff.2 ⟨t, by rw [add_timers h]; exact mem_insI.2 (.inl rfl), rfl⟩⟩
  refine ⟨hc, ?_⟩
  rw [cancel_can hc, add_timers h, add_now h]
  conv => rhs; rw [h1.canon]
  congr 1
  refine sd_ext (sd_filter (add_can h).2.sd _) h1.sd fun x => ?_
  rw [List.mem_filter, mem_insI, decide_eq_true_eq]
  constructor
  · rintro ⟨rfl | hx, hn⟩
    · exact absurd rfl hn
    · exact hx
  · intro hx
    exact ⟨.inr hx, fun e => by rw [has_iff.2 ⟨x, hx, e⟩] at h3; cases h3⟩
theorem addErr_ok {w : DWheel} (h1 : Ok w) (u : DTimer) : addErr w u = if Wh.right u w.now = false then 3 else if has (timers w.slots) u.id = true then 6 else if (timers w.slots).length = 60 then 8 else 0 := by
  unfold addErr; rw [find_has, if_neg (by simp [check_ok.2 h1])]
theorem has_ins {t : DTimer} {S : List DTimer} {id : Int} : has (insI t S) id = true ↔ t.id = id ∨ has S id = true := by
  rw [has_iff, has_iff]
  constructor
  · rintro ⟨x, hx, e⟩
    rcases mem_insI.1 hx with rfl | hx
    · exact .inl e
    · exact .inr ⟨x, hx, e⟩
  · rintro (e | ⟨x, hx, e⟩)
    · exact ⟨t, mem_insI.2 (.inl rfl), e⟩
    · exact ⟨x, mem_insI.2 (.inr hx), e⟩
theorem two_bad {w : DWheel} {t u : DTimer} (h : addErr w t = 0) (hb : ¬ addErr w u = 0 ∨ ¬ addErr (add w t) u = 0) : addErr w u = addErr (add w t) u ∨ (addErr (add w t) u = 6 ∧ t.id = u.id) ∨ addErr (add w t) u = 8 := by
  have h1 := (add_iff.1 h).1
  rw [addErr_ok (add_ok h), addErr_ok h1, add_timers h, add_now h] at hb ⊢
  by_cases c1 : Wh.right u w.now = false
  · left; rw [if_pos c1, if_pos c1]
  · rw [if_neg c1, if_neg c1] at hb ⊢
    by_cases c2 : has (timers w.slots) u.id = true
    · left; rw [if_pos c2, if_pos (has_ins.2 (.inr c2))]
    · by_cases c3 : t.id = u.id
      · right; left; exact ⟨if_pos (has_ins.2 (.inl c3)), c3⟩
      · have c4 : ¬ has (insI t (timers w.slots)) u.id = true := fun h9 => (has_ins.1 h9).elim c3 c2
        rw [if_neg c2, if_neg c4] at hb ⊢
        by_cases c5 : (insI t (timers w.slots)).length = 60
        · right; right; exact if_pos c5
        · rw [if_neg c5] at hb
          rcases hb with hb | hb
          · split at hb
            · rename_i c6
              rw [(insI_perm t (timers w.slots)).length_eq, List.length_cons] at c5
              have := (add_can h).2.few
              rw [(insI_perm t (timers w.slots)).length_eq, List.length_cons] at this
              omega
            · exact absurd rfl hb
          · exact absurd rfl hb
theorem two_good {w : DWheel} {t u : DTimer} (h : addErr w t = 0) (h2 : addErr w u = 0) (h3 : addErr (add w t) u = 0) : addErr (add w u) t = 0 ∧ add (add w t) u = add (add w u) t := by
  obtain ⟨a1, a2, a3, a4⟩ := add_iff.1 h
  obtain ⟨b1, b2, b3, b4⟩ := add_iff.1 h2
  obtain ⟨c1, c2, c3, c4⟩ := add_iff.1 h3
  rw [add_timers h] at c3 c4
  have hne : ¬ u.id = t.id := fun e => by rw [has_ins.2 (.inl e.symm)] at c3; cases c3
  have h4 : addErr (add w u) t = 0 := by
    refine add_iff.2 ⟨add_ok h2, by rw [add_now h2]; exact a2, ?_, ?_⟩
    · rw [add_timers h2]
      cases e : has (insI u (timers w.slots)) t.id with
      | false => rfl
      | true =>
        rcases has_ins.1 e with e | e
        · exact absurd e hne
        · rw [a3] at e; cases e
    · rw [add_timers h2, (insI_perm u (timers w.slots)).length_eq]
      rw [(insI_perm t (timers w.slots)).length_eq] at c4
      exact c4
  refine ⟨h4, ?_⟩
  rw [(add_can h3).1, (add_can h4).1, add_now h, add_now h2]
  congr 1
  refine sd_ext (add_can h3).2.sd (add_can h4).2.sd fun x => ?_
  rw [mem_insI, mem_insI, add_timers h, add_timers h2, mem_insI, mem_insI]
  constructor
  · rintro (h | h | h) <;> simp [h]
  · rintro (h | h | h) <;> simp [h]
end Go.Sx.Wh
