/- Stack distances: the four laws. -/
import Derived.Test.YtkndekkacimekaaDpLaw2
namespace Go.Sx.Deep
open Go.Sx.Lru (at_ at_lt at_mem at_idx erase_at trace trace_ok)
theorem wrap_small {z : Int} (h1 : -9223372036854775808 ≤ z) (h2 : z ≤ 9223372036854775807) : IntKind.i64.wrap z = z := by
  simp only [IntKind.wrap, IntKind.bits, IntKind.signed]
  simp; omega
theorem mul_bd {p m : Int} (h1 : 0 ≤ p) (h2 : p ≤ 100) (h3 : 0 ≤ m) (h4 : m ≤ 200) : 0 ≤ p * m ∧ p * m ≤ 20000 := by
  have := Int.mul_le_mul h2 h4 h3 (by omega : (0 : Int) ≤ 100)
  have := Int.mul_nonneg h1 h3; omega
theorem enough_iff {m p n : Int} (h1 : 0 ≤ p) (h2 : p ≤ 100) (h3 : 0 ≤ m) (h4 : m ≤ 200) (h5 : 0 ≤ n) (h6 : n ≤ 200) : enough m p n = true ↔ p * m ≤ 100 * n := by
  have := mul_bd h1 h2 h3 h4
  rw [enough, wrap_small (by omega) (by omega), wrap_small (by omega) (by omega), decide_eq_true_iff]
theorem at40_lt (l : List Int) (p : Int) : at40 l p < 40 ∧ -1 ≤ at40 l p := by
  have := idxF_lt (fun n => enough l.length p n) (hits l); rw [hits_len] at this; simp only [at40]; omega
theorem at40_pos {l : List Int} {p : Int} (h : 0 ≤ at40 l p) : ∃ hk : (at40 l p).toNat < (hits l).length, enough l.length p (hits l)[(at40 l p).toNat] = true ∧ ∀ j (hj : j < (hits l).length), j < (at40 l p).toNat → enough l.length p (hits l)[j] = false := by
  rcases idxF_cases (fun n => enough l.length p n) (hits l) with ⟨k, hk, e, h1, h2⟩ | ⟨e, _⟩
  · have e2 : (at40 l p).toNat = k := by rw [at40, e]; rfl
    simp only [e2]; exact ⟨hk, h1, h2⟩
  · rw [at40, e] at h; omega
theorem at40_neg {l : List Int} {p : Int} (h : at40 l p < 0) : ∀ j (hj : j < (hits l).length), enough l.length p (hits l)[j] = false := by
  rcases idxF_cases (fun n => enough l.length p n) (hits l) with ⟨k, hk, e, h1, h2⟩ | ⟨e, h1⟩
  · rw [at40, e] at h; omega
  · exact fun j hj => h1 _ (List.getElem_mem hj)
theorem at40_eq {l : List Int} {p : Int} {r : Nat} (hr : r < (hits l).length) (h1 : enough l.length p (hits l)[r] = true) (h2 : ∀ j (hj : j < (hits l).length), j < r → enough l.length p (hits l)[j] = false) : at40 l p = r := (idxF_found hr h1 h2).symm
theorem at40_none {l : List Int} {p : Int} (h : ∀ j (hj : j < (hits l).length), enough l.length p (hits l)[j] = false) : at40 l p = -1 := (idxF_none h).symm
/- DistanceSpec -/
theorem dep_next {l ds : List Int} {k : Nat} (h : k ≤ l.length ∧ ds = (depths l).take k) (hk : k < l.length) : k + 1 ≤ l.length ∧ ds ++ [deep l ((k : Int)).toNat] = (depths l).take (k + 1) := by
  refine ⟨by omega, ?_⟩; rw [take_depths hk, h.2, Int.toNat_natCast]
structure SInv (l : List Int) (p : Int) (hs cv : List Int) (need room : Int) : Prop where
  r1 : 1 ≤ room
  r2 : room ≤ 41
  hs_ : hs = (hits l).take (room - 1).toNat
  cv_ : cv = ((hits l).map (fun n => (l.length : Int) - n)).take (room - 1).toNat
  need_ : (need = 0 ∧ ((p < 0 ∨ 100 < p) ∨ ∀ j (hj : j < (hits l).length), (j : Int) < room - 1 → enough l.length p (hits l)[j] = false)) ∨ ((0 ≤ p ∧ p ≤ 100) ∧ ∃ r, ∃ hr : r < (hits l).length, need = (r : Int) + 1 ∧ enough l.length p (hits l)[r] = true ∧ ∀ j (hj : j < (hits l).length), j < r → enough l.length p (hits l)[j] = false)
theorem SInv.start (l : List Int) (p : Int) : SInv l p [] [] 0 1 := ⟨by omega, by omega, rfl, rfl, .inl ⟨rfl, .inr fun j _ h => by omega⟩⟩
theorem SInv.lens {l hs cv : List Int} {p need room : Int} (h : SInv l p hs cv need room) : hs.length ≤ 40 ∧ cv.length ≤ 40 := by
  rw [h.hs_, h.cv_, List.length_take, List.length_take, List.length_map, hits_len]; omega
theorem SInv.grow {l hs cv : List Int} {p need room : Int} (h : SInv l p hs cv need room) (hr : room ≤ 40) : hs ++ [hitsAt l room] = (hits l).take (room + 1 - 1).toNat ∧ cv ++ [(l.length : Int) - hitsAt l room] = ((hits l).map (fun n => (l.length : Int) - n)).take (room + 1 - 1).toNat := by
  have h1 := h.r1
  have e : (room + 1 - 1).toNat = (room - 1).toNat + 1 := by omega
  have e2 : (hits l)[(room - 1).toNat]'(by rw [hits_len]; omega) = hitsAt l room := by rw [hits_get]; congr 1; omega
  refine ⟨?_, ?_⟩
  · rw [e, List.take_succ_eq_append_getElem (by rw [hits_len]; omega), h.hs_, e2]
  · rw [e, List.take_succ_eq_append_getElem (by rw [List.length_map, hits_len]; omega), h.cv_, List.getElem_map, e2]
theorem SInv.take_ {l hs cv : List Int} {p need room : Int} (h : SInv l p hs cv need room) (hr : room ≤ 40) (h0 : need = 0) (hn : IntKind.i64.wrap (p * (l.length : Int)) ≤ IntKind.i64.wrap (hitsAt l room * 100)) (hp : 0 ≤ p) (hp2 : p ≤ 100) : SInv l p (hs ++ [hitsAt l room]) (cv ++ [(l.length : Int) - hitsAt l room]) room (room + 1) := by
  have h1 := h.r1
  have g := h.grow hr
  refine ⟨by omega, by omega, g.1, g.2, .inr ⟨⟨hp, hp2⟩, (room - 1).toNat, by rw [hits_len]; omega, by omega, ?_, fun j hj hlt => ?_⟩⟩
  · rw [hits_get, show (((room - 1).toNat : Int) + 1) = room by omega, enough, Int.mul_comm 100]; exact decide_eq_true hn
  · rcases h.need_ with ⟨_, h2 | h2⟩ | ⟨_, r, _, h3, _⟩
    · omega
    · exact h2 j hj (by omega)
    · omega
theorem SInv.leave {l hs cv : List Int} {p need room : Int} (h : SInv l p hs cv need room) (hr : room ≤ 40) (hn : need ≠ 0 ∨ IntKind.i64.wrap (hitsAt l room * 100) < IntKind.i64.wrap (p * (l.length : Int)) ∨ p < 0 ∨ 100 < p) : SInv l p (hs ++ [hitsAt l room]) (cv ++ [(l.length : Int) - hitsAt l room]) need (room + 1) := by
  have h1 := h.r1
  have g := h.grow hr
  refine ⟨by omega, by omega, g.1, g.2, ?_⟩
  rcases h.need_ with ⟨h2, h3 | h3⟩ | h3
  · exact .inl ⟨h2, .inl h3⟩
  · rcases hn with hn | hn | hn
    · exact absurd h2 hn
    · refine .inl ⟨h2, .inr fun j hj hlt => ?_⟩
      by_cases e : (j : Int) < room - 1
      · exact h3 j hj e
      · have : (j : Int) + 1 = room := by omega
        rw [hits_get, this, enough, Int.mul_comm 100]; exact decide_eq_false (by omega)
    · exact .inl ⟨h2, .inl hn⟩
  · exact .inr h3
theorem SInv.done {l hs cv : List Int} {p need room : Int} (h : SInv l p hs cv need room) (hr : 40 < room) (ht : trace l = 0) : hs = hitsR l ∧ cv = misses l ∧ need = Deep.room l p ∧ ((p < 0 ∨ 100 < p) → roomErr l p = 3) ∧ ((0 ≤ p ∧ p ≤ 100) → need = 0 → roomErr l p = 5) ∧ ((0 ≤ p ∧ p ≤ 100) → need ≠ 0 → roomErr l p = 0) := by
  have e : room = 41 := by have := h.r2; omega
  subst e
  refine ⟨?_, ?_, ?_⟩
  · rw [h.hs_, ← hits2 ht, List.take_of_length_le (by rw [hits_len]; decide)]
  · rw [h.cv_, misses, if_pos ht, List.take_of_length_le (by rw [List.length_map, hits_len]; decide)]
  · rcases h.need_ with ⟨h2, h3 | h3⟩ | ⟨h2, r, hr, h3, h4, h5⟩
    · obtain ⟨a, b⟩ := room2 ht h3
      exact ⟨by rw [h2, a], fun _ => b.symm, fun h9 => by omega, fun h9 => by omega⟩
    · by_cases hp : p < 0 ∨ 100 < p
      · obtain ⟨a, b⟩ := room2 ht hp
        exact ⟨by rw [h2, a], fun _ => b.symm, fun h9 => by omega, fun h9 => by omega⟩
      · obtain ⟨a, b⟩ := room3 (p := p) ht (by omega) (by rw [at40_none fun j hj => h3 j hj (by rw [hits_len] at hj; omega)]; decide)
        exact ⟨by rw [h2, a], fun h9 => absurd h9 hp, fun _ _ => b.symm, fun _ h9 => absurd h2 h9⟩
    · have e := at40_eq hr h4 h5
      obtain ⟨a, b⟩ := room4 ht h2 (by omega)
      exact ⟨by rw [h3, ← a, e], fun h9 => by omega, fun _ h9 => by omega, fun _ _ => b.symm⟩
theorem spec_bad {l : List Int} (h : trace l ≠ 0) : dist l = [] ∧ hitsR l = [] ∧ misses l = [] := ⟨(dist1 h).symm, (hits1 h).symm, if_neg h⟩
theorem spec_bad2 {l : List Int} (p : Int) (h : trace l ≠ 0) : room l p = 0 ∧ roomErr l p = trace l := by
  obtain ⟨a, b⟩ := room1 (p := p) h; exact ⟨a.symm, b.symm⟩
/- DistanceMonotone -/
theorem hitsR_get {l : List Int} {j : Nat} (h : j < (hitsR l).length) : (hitsR l)[j] = hitsAt l ((j : Int) + 1) := by
  have e : trace l = 0 := by
    by_cases e : trace l = 0
    · exact e
    · rw [← hits1 e] at h; exact absurd h (Nat.not_lt_zero _)
  have e2 : hitsR l = hits l := (hits2 e).symm
  simp only [e2]; exact hits_get _
theorem misses_len (l : List Int) : (misses l).length = (hitsR l).length := by unfold misses hitsR; split <;> simp
theorem misses_get {l : List Int} {j : Nat} (h : j < (misses l).length) : (misses l)[j] = (l.length : Int) - hitsAt l ((j : Int) + 1) := by
  have e : trace l = 0 := by
    by_cases e : trace l = 0
    · exact e
    · rw [misses_len, ← hits1 e] at h; exact absurd h (Nat.not_lt_zero _)
  simp only [misses, if_pos e, List.getElem_map, hits_get]
theorem mono_h {l : List Int} {j k : Nat} (hj : j < (hitsR l).length) (hk : k < (hitsR l).length) (h : j ≤ k) : (hitsR l)[j] ≤ (hitsR l)[k] := by
  rw [hitsR_get, hitsR_get]; exact hitsAt_mono l (by omega)
theorem mono_m {l : List Int} {j k : Nat} (hj : j < (misses l).length) (hk : k < (misses l).length) (h : j ≤ k) : (misses l)[k] ≤ (misses l)[j] := by
  rw [misses_get, misses_get]; have := hitsAt_mono l (a := (j : Int) + 1) (b := (k : Int) + 1) (by omega); omega
theorem mono_sum {l : List Int} {k : Nat} (hk : k < (hitsR l).length) (hk2 : k < (misses l).length) : (hitsR l)[k] + (misses l)[k] = l.length := by
  rw [hitsR_get, misses_get]; omega
theorem hitsR_len {l : List Int} (h : trace l = 0) : (hitsR l).length = 40 := by rw [← hits2 h, hits_len]
theorem room_ok {l : List Int} {p : Int} (h : roomErr l p = 0) : trace l = 0 ∧ (0 ≤ p ∧ p ≤ 100) ∧ 0 ≤ at40 l p ∧ room l p = at40 l p + 1 := by
  rcases room_cases l p with ⟨a, b, d⟩ | ⟨a, b, d, e⟩ | ⟨a, b, d, e, f⟩ | ⟨a, b, d, e, f⟩
  · rw [h] at d; exact absurd d.symm a
  · rw [h] at e; exact absurd e (by decide)
  · rw [h] at f; exact absurd f (by decide)
  · exact ⟨a, b, d, e⟩
theorem room_in {l : List Int} {p : Int} (h : roomErr l p = 0) : 1 ≤ room l p ∧ room l p ≤ (hitsR l).length := by
  obtain ⟨a, b, d, e⟩ := room_ok h
  have := at40_lt l p; rw [hitsR_len a]; omega
theorem room_enough {l : List Int} {p : Int} {j : Nat} (h : roomErr l p = 0) (hj : (j : Int) = room l p - 1) (hl : j < (hitsR l).length) : IntKind.i64.wrap (p * (l.length : Int)) ≤ IntKind.i64.wrap (100 * (hitsR l)[j]) := by
  obtain ⟨a, b, d, e⟩ := room_ok h
  obtain ⟨hk, h1, _⟩ := at40_pos d
  obtain rfl : j = (at40 l p).toNat := by omega
  rw [hitsR_get]; rw [hits_get] at h1
  exact of_decide_eq_true h1
theorem room_less {l : List Int} {p : Int} {j : Nat} (h : roomErr l p = 0) (hj : (j : Int) = room l p - 2) (hl : j < (hitsR l).length) : IntKind.i64.wrap (100 * (hitsR l)[j]) < IntKind.i64.wrap (p * (l.length : Int)) := by
  obtain ⟨a, b, d, e⟩ := room_ok h
  obtain ⟨hk, _, h2⟩ := at40_pos d
  have h3 := h2 j (by omega) (by omega)
  rw [hitsR_get]; rw [hits_get] at h3
  have := of_decide_eq_false h3; omega
theorem room_mono {l : List Int} {a b : Int} (h : a ≤ b) (h1 : roomErr l a = 0) (h2 : roomErr l b = 0) : room l a ≤ room l b := by
  obtain ⟨a1, a2, a3, a4⟩ := room_ok h1
  obtain ⟨_, b2, b3, b4⟩ := room_ok h2
  obtain ⟨hk, e1, e2⟩ := at40_pos a3
  obtain ⟨hk', f1, f2⟩ := at40_pos b3
  rcases Nat.lt_or_ge (at40 l b).toNat (at40 l a).toNat with hlt | hge
  · have hl := len200 a1
    have h3 := e2 _ hk' hlt
    have hb : 0 ≤ (hits l)[(at40 l b).toNat] ∧ (hits l)[(at40 l b).toNat] ≤ l.length := by rw [hits_get]; exact hitsAt_bd _ _
    have h4 := (enough_iff b2.1 b2.2 (by omega) (by omega) hb.1 (by omega)).1 f1
    have h5 : a * (l.length : Int) ≤ b * (l.length : Int) := Int.mul_le_mul_of_nonneg_right h (by omega)
    have h6 := (enough_iff a2.1 a2.2 (m := (l.length : Int)) (by omega) (by omega) hb.1 (by omega)).2 (by omega)
    rw [h6] at h3; cases h3
  · omega
theorem err_same {l : List Int} {p : Int} (h : trace l ≠ 0) : roomErr l p = trace l := (room1 h).2.symm
/- DistanceRepeat -/
theorem twice_ok {l : List Int} (h : trace (l ++ l) = 0) : trace l = 0 := by
  rw [trace_ok] at h ⊢
  rw [List.length_append] at h
  exact ⟨by omega, fun k hk => h.2 k (by simp [hk])⟩
theorem getD_left {l m : List Int} {i : Nat} (h : i < l.length) : (l ++ m).getD i 0 = l.getD i 0 := by
  rw [List.getD_eq_getElem?_getD, List.getD_eq_getElem?_getD, List.getElem?_append_left h]
theorem getD_right {l m : List Int} {i : Nat} : (l ++ m).getD (l.length + i) 0 = m.getD i 0 := by
  rw [List.getD_eq_getElem?_getD, List.getD_eq_getElem?_getD, List.getElem?_append_right (by omega), Nat.add_sub_cancel_left]
theorem deep_left {l m : List Int} {i : Nat} (h : i < l.length) : deep (l ++ m) i = deep l i := by
  rw [deep, deep, getD_left h, List.take_append_of_le_length (by omega)]
theorem take_right {l m : List Int} {i : Nat} : (l ++ m).take (l.length + i) = l ++ m.take i := List.take_length_add_append i
theorem rep_pos {l : List Int} {i : Nat} (h : i < l.length) : 1 ≤ deep (l ++ l) (l.length + i) := by
  have : 0 < deep (l ++ l) (l.length + i) := by
    rw [deep_pos, getD_right, take_right]
    exact List.mem_append_left _ (by rw [getD_at h]; exact List.getElem_mem h)
  omega
theorem rep_eq {l : List Int} {i : Nat} (h0 : 0 < deep l i) : deep (l ++ l) (l.length + i) = deep l i := by
  obtain ⟨p, q, e, hq⟩ := last_split (deep_pos.1 h0)
  rw [deep_again e hq, deep_again (p := l ++ p) (q := q) (by rw [take_right, getD_right, e, List.append_assoc]) (by rw [getD_right]; exact hq), getD_right]
theorem rep_le {l : List Int} {i : Nat} : deep (l ++ l) (l.length + i) ≤ ((uniq l).length : Int) := by
  have h1 := deep_bd (l ++ l) (l.length + i)
  have h2 : (stack ((l ++ l).take (l.length + i))).length = (uniq l).length := by
    apply nodup_len (stack_nodup _) (uniq_all l).1
    intro x; rw [mem_stack, (uniq_all l).2, take_right, List.mem_append]
    exact ⟨fun h => h.elim id List.mem_of_mem_take, .inl⟩
  omega
theorem dist_len {l : List Int} (h : trace l = 0) : (dist l).length = l.length := by rw [← dist2 h, depths_len]
theorem dist_get {l : List Int} (h : trace l = 0) {i : Nat} (hi : i < (dist l).length) : (dist l)[i] = deep l i := by
  have e : dist l = depths l := (dist2 h).symm
  simp only [e]; exact depths_get _
theorem r_same {l : List Int} {i : Nat} (h : trace (l ++ l) = 0) (hi : i < l.length) (h1 : i < (dist l).length) (h2 : i < (dist (l ++ l)).length) : (dist (l ++ l))[i] = (dist l)[i] := by
  rw [dist_get h, dist_get (twice_ok h), deep_left hi]
theorem r_pos {l : List Int} {i j : Nat} (h : trace (l ++ l) = 0) (hj : j = l.length + i) (hi : i < l.length) (h2 : j < (dist (l ++ l)).length) : 1 ≤ (dist (l ++ l))[j] := by
  subst hj; rw [dist_get h]; exact rep_pos hi
theorem r_eq {l : List Int} {i j : Nat} (h : trace (l ++ l) = 0) (hj : j = l.length + i) (h1 : i < (dist l).length) (h2 : j < (dist (l ++ l)).length) (h0 : 0 < (dist l)[i]) : (dist (l ++ l))[j] = (dist l)[i] := by
  subst hj; rw [dist_get (twice_ok h)] at h0; rw [dist_get h, dist_get (twice_ok h)]; exact rep_eq h0
theorem r_le {l : List Int} {j : Nat} (h : trace (l ++ l) = 0) (hj : l.length ≤ j) (h2 : j < (dist (l ++ l)).length) : (dist (l ++ l))[j] ≤ ((uniq l).length : Int) := by
  obtain ⟨i, rfl⟩ := Nat.exists_eq_add_of_le hj
  rw [dist_get h]; exact rep_le
/- DistanceHits -/
theorem mem_take_nodup {l : List Int} (h : l.Nodup) {x : Int} {n : Nat} : x ∈ l.take n ↔ 0 ≤ at_ l x ∧ at_ l x < n := by
  constructor
  · intro hm
    have h1 := List.mem_of_mem_take hm
    obtain ⟨j, hj, e⟩ := List.getElem_of_mem hm
    rw [List.length_take] at hj; rw [List.getElem_take] at e
    rw [at_some h1, ← e, List.Nodup.idxOf_getElem h]; omega
  · rintro ⟨h1, h2⟩
    have hm := at_mem.1 h1
    rw [at_some hm] at h2
    have hl := List.idxOf_lt_length_of_mem hm
    exact List.mem_take_iff_getElem.2 ⟨l.idxOf x, by omega, List.getElem_idxOf hl⟩
theorem lru_sim {r : Int} (h0 : 1 ≤ r) (l : List Int) : (Lru.runGo ⟨r, []⟩ 0 l).1.keys = (stack l).take r.toNat ∧ (Lru.runGo ⟨r, []⟩ 0 l).2 = hitsAt l r := by
  induction l using snoc_ind with
  | h0 => exact ⟨by simp [Lru.runGo, stack], by simp [Lru.runGo, hitsAt, many, depths]⟩
  | h1 l k ih =>
    have hr : (Lru.runGo ⟨r, []⟩ 0 l).1.room = r := Lru.runGo_room
    rw [Lru.runGo_append]
    simp only [Lru.runGo, Lru.touch, hr, ih.1]
    refine ⟨?_, ?_⟩
    · rw [Lru.front_take (r := r.toNat + (stack l).length + 1) (by omega) (by omega), stack_snoc, Lru.front, push, List.take_take, Nat.min_eq_left (by omega)]
    · rw [ih.2]
      have e : depths (l ++ [k]) = depths l ++ [at_ (stack l) k + 1] := by
        apply List.ext_getElem (by simp [depths_len])
        intro j h1 h2
        rw [depths_get]
        by_cases hj : j < l.length
        · rw [List.getElem_append_left (by rw [depths_len]; exact hj), depths_get, deep_left hj]
        · rw [depths_len, List.length_append, List.length_singleton] at h1
          obtain rfl : j = l.length := by omega
          rw [List.getElem_append_right (by rw [depths_len]; omega)]
          simp [deep]
      simp only [hitsAt, many, e, List.countP_append, List.countP_singleton]
      have hm := mem_take_nodup (stack_nodup l) (x := k) (n := r.toNat)
      by_cases hk : k ∈ (stack l).take r.toNat
      · have := hm.1 hk
        rw [if_pos (by simpa using hk), if_pos (by simp; omega)]; omega
      · have h3 : ¬ (0 < at_ (stack l) k + 1 ∧ at_ (stack l) k + 1 ≤ r) := fun h => hk (hm.2 (by omega))
        rw [if_neg (by simpa using hk), if_neg (by simpa using h3)]; omega
theorem small_err {r : Int} {l : List Int} (h : trace l = 0) (h2 : Lru.runErr ⟨r, []⟩ l ≠ 0) : r < 1 ∨ 40 < r := by
  rw [Lru.runErr] at h2
  split at h2
  · exact absurd h h2
  · rename_i h3
    have : ¬ (1 ≤ r ∧ r ≤ 40) := fun h4 => h3 (Lru.check_ok.2 ⟨h4, by simp; omega, by simp, List.nodup_nil⟩)
    omega
theorem lru_hits {r : Int} {l : List Int} (h : trace l = 0) (h2 : Lru.runErr ⟨r, []⟩ l = 0) : (1 ≤ r ∧ r ≤ 40) ∧ ∀ hj : (r - 1).toNat < (hitsR l).length, (hitsR l)[(r - 1).toNat] = (Lru.run ⟨r, []⟩ l).2 := by
  obtain ⟨a, _, b⟩ := Lru.run_ok h2
  have h3 := (Lru.ok_of a).room
  have h3' : 1 ≤ r ∧ r ≤ 40 := h3
  refine ⟨h3', fun hj => ?_⟩
  rw [b, (lru_sim h3'.1 l).2, hitsR_get]; congr 1; omega
theorem room_bd (l : List Int) (p : Int) : 0 ≤ room l p ∧ room l p ≤ 40 := by
  have := at40_lt l p
  rcases room_cases l p with ⟨a, b, d⟩ | ⟨a, b, d, e⟩ | ⟨a, b, d, e, f⟩ | ⟨a, b, d, e, f⟩ <;> omega
theorem mono_wrap {l : List Int} {k : Nat} (ht : trace l = 0) (hk : k < (hitsR l).length) (hk2 : k < (misses l).length) : IntKind.i64.wrap ((hitsR l)[k] + (misses l)[k]) = l.length := by
  have := len200 ht
  rw [mono_sum hk hk2]; exact wrap_small (by omega) (by omega)
theorem mono_end (l : List Int) (a b : Int) : roomErr l a ≠ 0 ∨ roomErr l b ≠ 0 ∨ b < a ∨ room l a ≤ room l b := by
  by_cases h1 : roomErr l a = 0
  · by_cases h2 : roomErr l b = 0
    · rcases Int.lt_or_le b a with h3 | h3
      · exact .inr (.inr (.inl h3))
      · exact .inr (.inr (.inr (room_mono h3 h1 h2)))
    · exact .inr (.inl h2)
  · exact .inl h1
theorem hits_err {l : List Int} {r : Int} (h : trace l ≠ 0 ∨ Lru.runErr ⟨r, []⟩ l ≠ 0) : ((trace l != 0 || decide (r < 1)) || decide (40 < r)) = true := by
  by_cases h1 : trace l = 0
  · have := small_err h1 (h.resolve_left (fun h => h h1))
    rcases this with h2 | h2 <;> simp [h2]
  · simp [h1]
end Go.Sx.Deep
