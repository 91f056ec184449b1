/- Least recently used: what a touch and a run do. -/
import Derived.Test.YtnmbkopnopaigaaExPureM20
namespace Go.Sx.Lru
abbrev at_ (l : List Int) (key : Int) : Int := idxF (fun x : Int => (x == key)) l
theorem at_lt (l : List Int) (key : Int) : at_ l key < l.length ∧ -1 ≤ at_ l key := idxF_lt _ _
theorem at_mem {l : List Int} {key : Int} : 0 ≤ at_ l key ↔ key ∈ l := by
  rcases idxF_cases (fun x : Int => (x == key)) l with ⟨k, h, e, h1, _⟩ | ⟨e, h1⟩
  · unfold at_; rw [e]
    have : l[k] = key := by simpa using h1
    exact ⟨fun _ => this ▸ List.getElem_mem h, fun _ => by omega⟩
  · unfold at_; rw [e]
    refine ⟨fun h => absurd h (by omega), fun h => ?_⟩
    have := h1 key h; simp at this
theorem at_idx {l : List Int} {key : Int} (h : 0 ≤ at_ l key) : (at_ l key).toNat = l.idxOf key := by
  unfold at_ idxF at h ⊢
  split
  · rfl
  · rename_i h2; rw [if_neg h2] at h; omega
theorem erase_at {l : List Int} {key : Int} (h : 0 ≤ at_ l key) : l.take (at_ l key).toNat ++ l.drop ((at_ l key).toNat + 1) = l.erase key := by
  rw [← List.eraseIdx_eq_take_drop_succ, at_idx h, List.erase_eq_eraseIdx_of_idxOf rfl]
theorem Ok.pos {c : DCache} (h : Ok c) : 0 < c.room.toNat := by have := h.room; omega
theorem front_len (room : Nat) (l : List Int) (k : Int) : (front room l k).length ≤ room := by unfold front; exact List.length_take_le _ _
theorem mem_front {room : Nat} {l : List Int} {k x : Int} (h : x ∈ front room l k) : x = k ∨ x ∈ l := by
  have := List.mem_of_mem_take h
  rcases List.mem_cons.1 this with h | h
  · exact .inl h
  · exact .inr (List.mem_of_mem_erase h)
theorem front_nodup {room : Nat} {l : List Int} (k : Int) (h : l.Nodup) : (front room l k).Nodup := by
  unfold front
  refine List.Nodup.sublist (List.take_sublist _ _) (List.nodup_cons.2 ⟨fun hm => ?_, h.erase k⟩)
  exact absurd rfl (h.mem_erase_iff.1 hm).1
theorem Ok.touch {c : DCache} (h : Ok c) {key : Int} (hk : okKey key = true) : Ok (touch c key).1 := by
  refine ⟨h.room, ?_, ?_, front_nodup key h.once⟩
  · have := front_len c.room.toNat c.keys key; have := h.room
    simp only [Lru.touch]; omega
  · intro k hm
    rcases mem_front hm with rfl | hm
    · exact hk
    · exact h.key k hm
theorem front_hit {room : Nat} {l : List Int} {k : Int} (hk : k ∈ l) (hl : l.length ≤ room) : front room l k = k :: l.erase k := by
  unfold front; rw [List.take_of_length_le]
  have := List.length_erase_of_mem hk
  have := List.length_pos_of_mem hk
  simp only [List.length_cons]; omega
theorem front_add {room : Nat} {l : List Int} {k : Int} (hk : k ∉ l) (hl : l.length < room) : front room l k = k :: l := by
  unfold front; rw [List.erase_of_not_mem hk, List.take_of_length_le (by simp only [List.length_cons]; omega)]
theorem front_full {room : Nat} {l : List Int} {k : Int} (hk : k ∉ l) (h0 : 0 < room) : front room l k = k :: l.take (room - 1) := by
  unfold front; rw [List.erase_of_not_mem hk]
  obtain ⟨n, rfl⟩ : ∃ n, room = n + 1 := ⟨room - 1, by omega⟩
  rw [List.take_succ_cons, Nat.add_sub_cancel]
theorem touch_hit {c : DCache} {key : Int} (ho : Ok c) (h : 0 ≤ at_ c.keys key) : touch c key = (⟨c.room, key :: (c.keys.take (at_ c.keys key).toNat ++ c.keys.drop ((at_ c.keys key).toNat + 1))⟩, true, -1) := by
  have hm := at_mem.1 h
  have := ho.len; have := ho.room
  unfold touch; rw [front_hit hm (by omega), erase_at h]
  simp [gone, hm]
theorem touch_add {c : DCache} {key : Int} (ho : Ok c) (h : at_ c.keys key < 0) (hl : (c.keys.length : Int) ≠ c.room) : touch c key = (⟨c.room, key :: c.keys⟩, false, -1) := by
  have hm : key ∉ c.keys := fun hm => by have := at_mem.2 hm; omega
  have := ho.len; have := ho.room
  unfold touch; rw [front_add hm (by omega)]
  simp [gone, hm, hl]
theorem touch_full {c : DCache} {key : Int} (ho : Ok c) (h : at_ c.keys key < 0) (hl : (c.keys.length : Int) = c.room) (hi : (c.room - 1).toNat < c.keys.length) : touch c key = (⟨c.room, key :: c.keys.take (c.room - 1).toNat⟩, false, c.keys[(c.room - 1).toNat]) := by
  have hm : key ∉ c.keys := fun hm => by have := at_mem.2 hm; omega
  have := ho.len; have := ho.room
  unfold touch; rw [front_full hm (by omega), show c.room.toNat - 1 = (c.room - 1).toNat by omega]
  have e : c.keys.getLastD (-1) = c.keys[(c.room - 1).toNat] := by
    rw [List.getLastD_eq_getLast?, List.getLast?_eq_getElem?, show c.keys.length - 1 = (c.room - 1).toNat by omega, List.getElem?_eq_getElem hi]; rfl
  simp only [gone, hm, not_false_eq_true, hl, and_self, if_true, e, decide_false]
/-! ### access and run -/
theorem acc_cases (c : DCache) (key : Int) : (check c ≠ 0 ∧ access c key = (zero, false, 0) ∧ accessErr c key = check c) ∨ (check c = 0 ∧ okKey key = false ∧ access c key = (zero, false, 0) ∧ accessErr c key = 3) ∨ (check c = 0 ∧ okKey key = true ∧ access c key = touch c key ∧ accessErr c key = 0) := by
  by_cases hc : check c = 0
  · cases hr : okKey key
    · have e : accessErr c key = 3 := by unfold accessErr; rw [if_pos hc, if_neg (by simp [hr])]
      exact .inr (.inl ⟨hc, rfl, by unfold access; rw [e]; rfl, e⟩)
    · have e : accessErr c key = 0 := by unfold accessErr; rw [if_pos hc, if_pos hr]
      exact .inr (.inr ⟨hc, rfl, by unfold access; rw [if_pos e], e⟩)
  · have e : accessErr c key = check c := by unfold accessErr; rw [if_neg hc]
    exact .inl ⟨hc, by unfold access; rw [e, if_neg hc], e⟩
theorem acc1 {c : DCache} {key : Int} (e : check c ≠ 0) : access c key = (zero, false, 0) ∧ accessErr c key = check c := by
  rcases acc_cases c key with ⟨_, b⟩ | ⟨a, _⟩ | ⟨a, _⟩
  · exact b
  · exact absurd a e
  · exact absurd a e
theorem acc2 {c : DCache} {key : Int} (e : check c = 0 ∧ okKey key = false) : access c key = (zero, false, 0) ∧ accessErr c key = 3 := by
  rcases acc_cases c key with ⟨a, _⟩ | ⟨_, _, b⟩ | ⟨_, b, _⟩
  · exact absurd e.1 a
  · exact b
  · rw [e.2] at b; cases b
theorem acc3 {c : DCache} {key : Int} (e2 : ¬ check c = 0 ∨ okKey key = true) (e : check c = 0) : access c key = touch c key ∧ accessErr c key = 0 := by
  rcases acc_cases c key with ⟨a, _⟩ | ⟨_, b, _⟩ | ⟨_, _, b⟩
  · exact absurd e a
  · rcases e2 with e2 | e2
    · exact absurd e e2
    · rw [e2] at b; cases b
  · exact b
theorem acc_bad {c : DCache} {key : Int} (e : accessErr c key ≠ 0) : access c key = (zero, false, 0) := if_neg e
theorem acc_ok {c : DCache} {key : Int} (e : accessErr c key = 0) : check c = 0 ∧ okKey key = true ∧ access c key = touch c key := by
  rcases acc_cases c key with ⟨a, b, d⟩ | ⟨a, a2, b, d⟩ | ⟨a, a2, b, d⟩
  · exact absurd (d ▸ e) a
  · rw [d] at e; cases e
  · exact ⟨a, a2, b⟩
theorem run_cases (c : DCache) (l : List Int) : (check c ≠ 0 ∧ run c l = (zero, 0) ∧ runErr c l = check c) ∨ (check c = 0 ∧ trace l ≠ 0 ∧ run c l = (zero, 0) ∧ runErr c l = trace l) ∨ (check c = 0 ∧ trace l = 0 ∧ run c l = runGo c 0 l ∧ runErr c l = 0) := by
  by_cases h : check c = 0
  · have e : runErr c l = trace l := by unfold runErr; rw [if_pos h]
    by_cases h2 : trace l = 0
    · exact .inr (.inr ⟨h, h2, by unfold run; rw [if_pos (e.trans h2)], e.trans h2⟩)
    · exact .inr (.inl ⟨h, h2, by unfold run; rw [if_neg (by rw [e]; exact h2)], e⟩)
  · have e : runErr c l = check c := by unfold runErr; rw [if_neg h]
    exact .inl ⟨h, by unfold run; rw [if_neg (by rw [e]; exact h)], e⟩
theorem run1 {c : DCache} {l : List Int} (e : check c ≠ 0) : run c l = (zero, 0) ∧ runErr c l = check c := by
  rcases run_cases c l with ⟨_, b⟩ | ⟨a, _⟩ | ⟨a, _⟩
  · exact b
  · exact absurd a e
  · exact absurd a e
theorem run2 {c : DCache} {l : List Int} (e : check c = 0) (e2 : trace l ≠ 0) : run c l = (zero, 0) ∧ runErr c l = trace l := by
  rcases run_cases c l with ⟨a, _⟩ | ⟨_, _, b⟩ | ⟨_, a, _⟩
  · exact absurd e a
  · exact b
  · exact absurd a e2
theorem run3 {c : DCache} {l : List Int} (e : check c = 0) (e2 : trace l = 0) : run c l = runGo c 0 l ∧ runErr c l = 0 := by
  rcases run_cases c l with ⟨a, _⟩ | ⟨_, a, _⟩ | ⟨_, _, b⟩
  · exact absurd e a
  · exact absurd e2 a
  · exact b
theorem run_bad {c : DCache} {l : List Int} (e : runErr c l ≠ 0) : run c l = (zero, 0) := if_neg e
theorem run_ok {c : DCache} {l : List Int} (e : runErr c l = 0) : check c = 0 ∧ trace l = 0 ∧ run c l = runGo c 0 l := by
  rcases run_cases c l with ⟨a, b, d⟩ | ⟨a, a2, b, d⟩ | ⟨a, a2, b, d⟩
  · exact absurd (d ▸ e) a
  · exact absurd (d ▸ e) a2
  · exact ⟨a, a2, b⟩
theorem size_cases (c : DCache) (room : Int) : (check c ≠ 0 ∧ resize c room = (zero, []) ∧ sizeErr c room = check c) ∨ (check c = 0 ∧ okRoom room = false ∧ resize c room = (zero, []) ∧ sizeErr c room = 3) ∨ (check c = 0 ∧ okRoom room = true ∧ resize c room = (⟨room, c.keys.take room.toNat⟩, (c.keys.drop room.toNat).reverse) ∧ sizeErr c room = 0) := by
  by_cases hc : check c = 0
  · cases hr : okRoom room
    · have e : sizeErr c room = 3 := by unfold sizeErr; rw [if_pos hc, if_neg (by simp [hr])]
      exact .inr (.inl ⟨hc, rfl, by unfold resize; rw [e]; rfl, e⟩)
    · have e : sizeErr c room = 0 := by unfold sizeErr; rw [if_pos hc, if_pos hr]
      exact .inr (.inr ⟨hc, rfl, by unfold resize; rw [if_pos e], e⟩)
  · have e : sizeErr c room = check c := by unfold sizeErr; rw [if_neg hc]
    exact .inl ⟨hc, by unfold resize; rw [e, if_neg hc], e⟩
theorem size1 {c : DCache} {room : Int} (e : check c ≠ 0) : resize c room = (zero, []) ∧ sizeErr c room = check c := by
  rcases size_cases c room with ⟨_, b⟩ | ⟨a, _⟩ | ⟨a, _⟩
  · exact b
  · exact absurd a e
  · exact absurd a e
theorem size2 {c : DCache} {room : Int} (e : check c = 0 ∧ okRoom room = false) : resize c room = (zero, []) ∧ sizeErr c room = 3 := by
  rcases size_cases c room with ⟨a, _⟩ | ⟨_, _, b⟩ | ⟨_, b, _⟩
  · exact absurd e.1 a
  · exact b
  · rw [e.2] at b; cases b
theorem size3 {c : DCache} {room : Int} (e : check c = 0) (e2 : okRoom room = true) : resize c room = (⟨room, c.keys.take room.toNat⟩, (c.keys.drop room.toNat).reverse) ∧ sizeErr c room = 0 := by
  rcases size_cases c room with ⟨a, _⟩ | ⟨_, b, _⟩ | ⟨_, _, b⟩
  · exact absurd e a
  · rw [e2] at b; cases b
  · exact b
theorem take_min (l : List Int) (n : Nat) : l.take (min n l.length) = l.take n := by
  rcases Nat.le_total n l.length with h | h
  · rw [Nat.min_eq_left h]
  · rw [Nat.min_eq_right h, List.take_of_length_le h, List.take_of_length_le (Nat.le_refl _)]
theorem drop_min (l : List Int) (n : Nat) : l.drop (min n l.length) = l.drop n := by
  rcases Nat.le_total n l.length with h | h
  · rw [Nat.min_eq_left h]
  · rw [Nat.min_eq_right h, List.drop_of_length_le h, List.drop_of_length_le (Nat.le_refl _)]
theorem keep_nat (l : List Int) {room : Int} (h : 0 ≤ room) : (min room (l.length : Int)).toNat = min room.toNat l.length := by omega
theorem cut_keys (l : List Int) (room : Int) (h : 0 ≤ room) : l.take (min room (l.length : Int)).toNat = l.take room.toNat := by rw [keep_nat l h, take_min]
theorem cut_gone (l : List Int) (room : Int) (h : 0 ≤ room) : (l.drop (min room (l.length : Int)).toNat).reverse = (l.drop room.toNat).reverse := by rw [keep_nat l h, drop_min]
theorem ins0 (l : List Int) (k : Int) : l.take (0 : Int).toNat ++ [k] ++ l.drop (0 : Int).toNat = k :: l := rfl
theorem nat1 {i : Int} (h : 0 ≤ i) : (i + 1).toNat = i.toNat + 1 := by omega
/-! ### the reference's touch -/
/-- the keys but one, as many as there is room, and the last that doesn't fit -/
structure TInv (c : DCache) (key : Int) (oc : DCache) (gone : Int) (i : Nat) : Prop where
  room : oc.room = c.room
  rb : 1 ≤ c.room ∧ c.room ≤ 40
  le : i ≤ c.keys.length
  keys : oc.keys = (key :: (c.keys.take i).filter (fun x => !(x == key))).take c.room.toNat
  gone_ : gone = if c.room.toNat < ((c.keys.take i).filter (fun x => !(x == key))).length + 1 then ((c.keys.take i).filter (fun x => !(x == key))).getLastD (-1) else -1
theorem TInv.start {c : DCache} (h : Ok c) (key : Int) : TInv c key ⟨c.room, [key]⟩ (-1) 0 := by
  have hr := h.room
  refine ⟨rfl, h.room, Nat.zero_le _, ?_, by simp⟩
  obtain ⟨t, ht⟩ : ∃ t, c.room.toNat = t + 1 := ⟨c.room.toNat - 1, by omega⟩
  rw [ht]; simp
theorem TInv.olen {c oc : DCache} {key gone : Int} {i : Nat} (h : TInv c key oc gone i) : oc.keys.length ≤ 40 := by
  have := h.rb
  rw [h.keys, List.length_take]; omega
theorem TInv.skip {c oc : DCache} {key gone : Int} {i : Nat} (h : TInv c key oc gone i) (hi : i < c.keys.length) (hk : c.keys[i] = key) : TInv c key oc gone (i + 1) := by
  have e : (c.keys.take (i + 1)).filter (fun x => !(x == key)) = (c.keys.take i).filter (fun x => !(x == key)) := by
    rw [List.take_succ_eq_append_getElem hi, List.filter_append]; simp [hk]
  exact ⟨h.room, h.rb, hi, by rw [e]; exact h.keys, by rw [e]; exact h.gone_⟩
theorem filt_snoc {l : List Int} {key : Int} {i : Nat} (hi : i < l.length) (hk : l[i] ≠ key) : (l.take (i + 1)).filter (fun x => !(x == key)) = (l.take i).filter (fun x => !(x == key)) ++ [l[i]] := by
  rw [List.take_succ_eq_append_getElem hi, List.filter_append]; simp [hk]
theorem TInv.add {c oc : DCache} {key gone : Int} {i : Nat} (h : TInv c key oc gone i) (hi : i < c.keys.length) (hk : c.keys[i] ≠ key) (hl : (oc.keys.length : Int) < c.room) : TInv c key ⟨oc.room, oc.keys ++ [c.keys[i]]⟩ gone (i + 1) := by
  have hr := h.rb
  have e := filt_snoc hi hk
  have hlen := h.keys
  have hl2 := congrArg List.length hlen
  simp only [List.length_take, List.length_cons] at hl2
  refine ⟨h.room, h.rb, hi, ?_, ?_⟩
  · simp only; rw [e, hlen]
    generalize (c.keys.take i).filter (fun x => !(x == key)) = f at hl2 ⊢
    rw [List.take_of_length_le (l := key :: f) (by simp only [List.length_cons]; omega), List.take_of_length_le (l := key :: (f ++ [c.keys[i]])) (by simp only [List.length_cons, List.length_append, List.length_nil]; omega), List.cons_append]
  · rw [h.gone_, e, if_neg (by omega), if_neg (by simp only [List.length_append, List.length_cons, List.length_nil]; omega)]
theorem TInv.drop {c oc : DCache} {key gone : Int} {i : Nat} (h : TInv c key oc gone i) (hi : i < c.keys.length) (hk : c.keys[i] ≠ key) (hl : c.room ≤ (oc.keys.length : Int)) : TInv c key oc c.keys[i] (i + 1) := by
  have hr := h.rb
  have e := filt_snoc hi hk
  have hlen := h.keys
  have hl2 := congrArg List.length hlen
  simp only [List.length_take, List.length_cons] at hl2
  refine ⟨h.room, h.rb, hi, ?_, ?_⟩
  · rw [e, hlen, ← List.cons_append, List.take_append_of_le_length (by simp only [List.length_cons]; omega)]
  · rw [e, if_pos (by simp only [List.length_append, List.length_cons, List.length_nil]; omega)]; simp
theorem filter_erase {l : List Int} (hn : l.Nodup) (key : Int) : l.filter (fun x => !(x == key)) = l.erase key := by
  rw [hn.erase_eq_filter]; congr 1
theorem TInv.done {c oc : DCache} {key gone : Int} {i : Nat} (h : TInv c key oc gone i) (ho : Ok c) (hi : (c.keys.length : Int) ≤ i) : oc.keys = (Lru.touch c key).1.keys ∧ gone = (Lru.touch c key).2.2 := by
  have hr := h.rb
  have hl := ho.len
  have e : (c.keys.take i).filter (fun x => !(x == key)) = c.keys.erase key := by rw [List.take_of_length_le (by omega), filter_erase ho.once]
  refine ⟨by rw [h.keys, e]; rfl, ?_⟩
  rw [h.gone_, e]
  show _ = Lru.gone c.room c.keys key
  unfold Lru.gone
  by_cases hm : key ∈ c.keys
  · have h1 := List.length_erase_of_mem hm
    have h2 := List.length_pos_of_mem hm
    rw [if_neg (by omega), if_neg (fun h => h.1 hm)]
  · rw [List.erase_of_not_mem hm]
    by_cases hf : (c.keys.length : Int) = c.room
    · rw [if_pos (by omega), if_pos ⟨hm, hf⟩]
    · rw [if_neg (by omega), if_neg (fun h => hf h.2)]
structure RInv (c cc : DCache) (l : List Int) (n : Int) (k : Nat) : Prop where
  ok : Ok cc
  key : ∀ x ∈ l, okKey x = true
  n0 : 0 ≤ n
  n1 : n ≤ (k : Int)
  le : k ≤ l.length
  go : runGo cc n (l.drop k) = runGo c 0 l
theorem RInv.start {c : DCache} {l : List Int} (h : Ok c) (hk : ∀ x ∈ l, okKey x = true) : RInv c c l 0 0 := ⟨h, hk, Int.le_refl _, Int.le_refl _, Nat.zero_le _, rfl⟩
theorem RInv.start' {c : DCache} {l : List Int} (h : check c = 0) (hk : trace l = 0) : RInv c c l 0 0 := RInv.start (ok_of h) (trace_ok.1 hk).2
theorem RInv.hit {c cc : DCache} {l : List Int} {n : Int} {k : Nat} (h : RInv c cc l n k) (hk : k < l.length) (ht : (Lru.touch cc l[k]).2.1 = true) : RInv c (Lru.touch cc l[k]).1 l (n + 1) (k + 1) := by
  obtain ⟨g1, g0, g2, g3, g4, g5⟩ := h
  rw [List.drop_eq_getElem_cons hk, runGo, if_pos ht] at g5
  exact ⟨g1.touch (g0 _ (List.getElem_mem hk)), g0, by omega, by omega, hk, g5⟩
theorem RInv.miss {c cc : DCache} {l : List Int} {n : Int} {k : Nat} (h : RInv c cc l n k) (hk : k < l.length) (ht : (Lru.touch cc l[k]).2.1 = false) : RInv c (Lru.touch cc l[k]).1 l n (k + 1) := by
  obtain ⟨g1, g0, g2, g3, g4, g5⟩ := h
  rw [List.drop_eq_getElem_cons hk, runGo, if_neg (by simp [ht])] at g5
  exact ⟨g1.touch (g0 _ (List.getElem_mem hk)), g0, by omega, by omega, hk, g5⟩
theorem RInv.done {c cc : DCache} {l : List Int} {n : Int} {k : Nat} (h : RInv c cc l n k) (hk : (l.length : Int) ≤ k) : runGo c 0 l = (cc, n) := by
  rw [← h.go, List.drop_of_length_le (by omega)]; rfl
theorem Ok.runGo {l : List Int} : ∀ {c : DCache} {n : Int}, Ok c → (∀ x ∈ l, okKey x = true) → Ok (runGo c n l).1 := by
  induction l with
  | nil => intro c n h _; exact h
  | cons k l ih => intro c n h hk; exact ih (h.touch (hk k (by simp))) (fun x hx => hk x (by simp [hx]))
theorem runGo_append {l m : List Int} : ∀ {c : DCache} {n : Int}, Lru.runGo c n (l ++ m) = Lru.runGo (Lru.runGo c n l).1 (Lru.runGo c n l).2 m := by
  induction l with
  | nil => intro c n; rfl
  | cons k l ih => intro c n; rw [List.cons_append, Lru.runGo, ih]; rfl
theorem runGo_add {l : List Int} : ∀ {c : DCache} {n : Int}, Lru.runGo c n l = ((Lru.runGo c 0 l).1, n + (Lru.runGo c 0 l).2) := by
  induction l with
  | nil => intro c n; simp [Lru.runGo]
  | cons k l ih =>
    intro c n
    rw [Lru.runGo, ih, Lru.runGo, ih (n := if (Lru.touch c k).2.1 = true then 0 + 1 else 0)]
    split <;> simp <;> omega
theorem runGo_room {l : List Int} : ∀ {c : DCache} {n : Int}, (Lru.runGo c n l).1.room = c.room := by
  induction l with
  | nil => intro c n; rfl
  | cons k l ih => intro c n; rw [Lru.runGo, ih]; rfl
theorem same_cache {a b : DCache} : a = b ↔ a.room = b.room ∧ a.keys = b.keys := by
  constructor
  · rintro rfl; exact ⟨rfl, rfl⟩
  · rintro ⟨h1, h2⟩; cases a; cases b; simp_all
/-! ### inclusion -/
theorem take_erase {l : List Int} {k : Int} {s : Nat} (hk : k ∈ l.take s) : (l.take s).erase k = (l.erase k).take (s - 1) := by
  induction l generalizing s with
  | nil => simp at hk
  | cons a l ih =>
    cases s with
    | zero => simp at hk
    | succ s =>
      rw [List.take_succ_cons] at hk ⊢
      by_cases e : a = k
      · subst e; simp
      · have e' : (a == k) = false := by simpa using e
        rw [List.erase_cons, List.erase_cons, if_neg (by simp [e']), if_neg (by simp [e'])]
        have hk' : k ∈ l.take s := by rcases List.mem_cons.1 hk with h | h; exact absurd h.symm e; exact h
        rw [ih hk']
        obtain ⟨t, rfl⟩ : ∃ t, s = t + 1 := by
          cases s with
          | zero => simp at hk'
          | succ t => exact ⟨t, rfl⟩
        rfl
theorem take_erase_not {l : List Int} {k : Int} {s : Nat} (hk : k ∉ l.take (s + 1)) : (l.erase k).take s = l.take s := by
  induction l generalizing s with
  | nil => simp
  | cons a l ih =>
    rw [List.take_succ_cons] at hk
    have e : ¬ a = k := fun e => hk (by simp [e])
    have e' : (a == k) = false := by simpa using e
    rw [List.erase_cons, if_neg (by simp [e'])]
    cases s with
    | zero => rfl
    | succ s => rw [List.take_succ_cons, List.take_succ_cons, ih (fun h => hk (List.mem_cons_of_mem _ h))]
theorem front_take {s r : Nat} {l : List Int} {k : Int} (hs : 0 < s) (h : s ≤ r) : front s (l.take s) k = (front r l k).take s := by
  obtain ⟨t, rfl⟩ : ∃ t, s = t + 1 := ⟨s - 1, by omega⟩
  unfold front
  rw [List.take_take, Nat.min_eq_left h, List.take_succ_cons, List.take_succ_cons]
  congr 1
  by_cases hk : k ∈ l.take (t + 1)
  · rw [take_erase hk, List.take_take, Nat.add_sub_cancel, Nat.min_self]
  · rw [List.erase_of_not_mem hk, List.take_take, Nat.min_eq_left (by omega), take_erase_not hk]
theorem inclusion {l : List Int} : ∀ {a b : DCache} {n m : Int}, 1 ≤ a.room → a.room ≤ b.room → a.keys = b.keys.take a.room.toNat → n ≤ m → (Lru.runGo a n l).2 ≤ (Lru.runGo b m l).2 ∧ (Lru.runGo a n l).1.keys = (Lru.runGo b m l).1.keys.take a.room.toNat := by
  induction l with
  | nil => intro a b n m _ _ h1 h2; exact ⟨h2, h1⟩
  | cons k l ih =>
    intro a b n m h1 hr hk hn
    rw [Lru.runGo, Lru.runGo]
    refine ih (a := (Lru.touch a k).1) (b := (Lru.touch b k).1) h1 hr ?_ ?_
    · show front a.room.toNat a.keys k = (front b.room.toNat b.keys k).take a.room.toNat
      rw [hk]; exact front_take (by omega) (by omega)
    · have hs : k ∈ a.keys → k ∈ b.keys := fun h => by rw [hk] at h; exact List.mem_of_mem_take h
      simp only [Lru.touch, decide_eq_true_eq]
      by_cases ha : k ∈ a.keys
      · rw [if_pos ha, if_pos (hs ha)]; omega
      · rw [if_neg ha]; split <;> omega
/-! ### what was used last -/
theorem runGo_keys {l : List Int} : ∀ {c : DCache} {n : Int}, ∀ x ∈ (Lru.runGo c n l).1.keys, x ∈ c.keys ∨ x ∈ l := by
  induction l with
  | nil => intro c n x hx; exact .inl hx
  | cons k l ih =>
    intro c n x hx
    rw [Lru.runGo] at hx
    rcases ih x hx with h | h
    · rcases mem_front h with rfl | h
      · exact .inr (by simp)
      · exact .inl h
    · exact .inr (List.mem_cons_of_mem _ h)
theorem runGo_snoc {l : List Int} {c : DCache} {n : Int} {k : Int} : (Lru.runGo c n (l ++ [k])).1 = (Lru.touch (Lru.runGo c n l).1 k).1 := by rw [runGo_append]; rfl
theorem runGo_last {l : List Int} {c : DCache} {n : Int} (h0 : l ≠ []) (hr : 1 ≤ c.room) : ∃ r, (Lru.runGo c n l).1.keys = l.getLast h0 :: r := by
  have e := List.dropLast_concat_getLast h0
  have : (Lru.runGo c n l).1 = (Lru.touch (Lru.runGo c n l.dropLast).1 (l.getLast h0)).1 := by
    conv => lhs; rw [← e]
    exact runGo_snoc
  rw [this]
  show ∃ r, front (Lru.runGo c n l.dropLast).1.room.toNat _ _ = _
  rw [runGo_room]
  obtain ⟨t, ht⟩ : ∃ t, c.room.toNat = t + 1 := ⟨c.room.toNat - 1, by omega⟩
  unfold front; rw [ht, List.take_succ_cons]; exact ⟨_, rfl⟩
theorem touch_first {c : DCache} {k : Int} {r : List Int} (ho : Ok c) (h : c.keys = k :: r) : Lru.touch c k = (c, true, -1) := by
  have hm : k ∈ c.keys := by simp [h]
  have hl := ho.len
  unfold Lru.touch
  rw [front_hit hm (by omega)]
  simp [gone, hm, h]
  cases c; simp_all
/-! ### LruSpec -/
theorem acc_num (c : DCache) (key : Int) : (check c ≠ 0 ∧ access c key = (zero, false, 0) ∧ accessErr c key = check c) ∨ (check c = 0 ∧ (key < 0 ∨ 1048576 < key) ∧ access c key = (zero, false, 0) ∧ accessErr c key = 3) ∨ (check c = 0 ∧ (0 ≤ key ∧ key ≤ 1048576) ∧ access c key = touch c key ∧ accessErr c key = 0) := by
  rcases acc_cases c key with h | ⟨a, b, d⟩ | ⟨a, b, d⟩
  · exact .inl h
  · refine .inr (.inl ⟨a, ?_, d⟩); simp [okKey] at b; omega
  · exact .inr (.inr ⟨a, key_ok b, d⟩)
theorem size_num (c : DCache) (room : Int) : (check c ≠ 0 ∧ resize c room = (zero, []) ∧ sizeErr c room = check c) ∨ (check c = 0 ∧ (room < 1 ∨ 40 < room) ∧ resize c room = (zero, []) ∧ sizeErr c room = 3) ∨ (check c = 0 ∧ (1 ≤ room ∧ room ≤ 40) ∧ resize c room = (⟨room, c.keys.take room.toNat⟩, (c.keys.drop room.toNat).reverse) ∧ sizeErr c room = 0) := by
  rcases size_cases c room with h | ⟨a, b, d⟩ | ⟨a, b, d⟩
  · exact .inl h
  · refine .inr (.inl ⟨a, ?_, d⟩); simp [okRoom] at b; omega
  · exact .inr (.inr ⟨a, room_ok b, d⟩)
structure ZInv (c : DCache) (room : Int) (sc : DCache) (less : List Int) : Prop where
  rm : sc.room = room
  rb : 1 ≤ room
  len : sc.keys.length + less.length = c.keys.length
  keys : sc.keys = c.keys.take sc.keys.length
  less_ : less = (c.keys.drop sc.keys.length).reverse
  few : less = [] ∨ room ≤ (sc.keys.length : Int)
theorem ZInv.start {c : DCache} {room : Int} (h : 1 ≤ room) : ZInv c room ⟨room, c.keys⟩ [] := ⟨rfl, h, by simp, by simp, by simp, .inl rfl⟩
theorem ZInv.next {c sc : DCache} {room : Int} {less : List Int} (h : ZInv c room sc less) (hl : room < (sc.keys.length : Int)) (hi : ((sc.keys.length : Int) - 1).toNat < sc.keys.length) : ZInv c room ⟨sc.room, sc.keys.take ((sc.keys.length : Int) - 1).toNat⟩ (less ++ [sc.keys[((sc.keys.length : Int) - 1).toNat]]) := by
  obtain ⟨a, b, l, k, e, f⟩ := h
  have e1 : ((sc.keys.length : Int) - 1).toNat = sc.keys.length - 1 := by omega
  have e2 : (sc.keys.take (sc.keys.length - 1)).length = sc.keys.length - 1 := by simp
  have hc : sc.keys.length - 1 < c.keys.length := by omega
  have hg : sc.keys[sc.keys.length - 1]'(by omega) = c.keys[sc.keys.length - 1] := by
    have : sc.keys[sc.keys.length - 1]'(by omega) = (c.keys.take sc.keys.length)[sc.keys.length - 1]'(by simp; omega) := by
      congr 1
    rw [this, List.getElem_take]
  simp only [e1]
  refine ⟨a, b, by simp only [List.length_append, List.length_singleton, e2]; omega, ?_, ?_, .inr (by simp only [e2]; omega)⟩
  · have hk := congrArg (List.take (sc.keys.length - 1)) k
    rw [List.take_take, Nat.min_eq_left (by omega)] at hk
    simp only [e2]; exact hk
  · simp only [e2, hg]
    rw [List.drop_eq_getElem_cons hc, List.reverse_cons, show sc.keys.length - 1 + 1 = sc.keys.length by omega, ← e]
theorem ZInv.done {c sc : DCache} {room : Int} {less : List Int} (h : ZInv c room sc less) (hl : (sc.keys.length : Int) ≤ room) : sc = ⟨room, c.keys.take room.toNat⟩ ∧ less = (c.keys.drop room.toNat).reverse := by
  obtain ⟨a, b, l, k, e, f⟩ := h
  have key : sc.keys = c.keys.take room.toNat ∧ less = (c.keys.drop room.toNat).reverse := by
    rcases f with f | f
    · subst f
      simp only [List.length_nil, Nat.add_zero] at l
      refine ⟨?_, ?_⟩
      · rw [k, l, List.take_of_length_le (Nat.le_refl _), List.take_of_length_le (by omega)]
      · rw [List.drop_of_length_le (by omega)]; rfl
    · have : sc.keys.length = room.toNat := by omega
      exact ⟨by rw [← this]; exact k, by rw [← this]; exact e⟩
  exact ⟨by cases sc; simp only at a key ⊢; rw [a, key.1], key.2⟩
end Go.Sx.Lru

/- LRU: inclusion, parts, what was used last: as the program's statements ask. -/
namespace Go.Sx.Lru
theorem run_n (l : List Int) : ∀ (c : DCache), 0 ≤ (Lru.runGo c 0 l).2 ∧ (Lru.runGo c 0 l).2 ≤ l.length := by
  induction l with
  | nil => intro c; simp [Lru.runGo]
  | cons k l ih =>
    intro c
    rw [Lru.runGo, runGo_add]
    have := ih (touch c k).1
    split <;> simp <;> omega
theorem run_small {c : DCache} {l : List Int} (h : runErr c l = 0) : l.length ≤ 200 := (trace_ok.1 (run_ok h).2.1).1
theorem run_oks {c : DCache} {l : List Int} (h : runErr c l = 0) : Ok (run c l).1 := by
  obtain ⟨a, b, e⟩ := run_ok h
  rw [e]; exact (ok_of a).runGo (trace_ok.1 b).2
theorem parts_err {c : DCache} {l m : List Int} (h : runErr c l = 0) : runErr (run c l).1 m = runErr c (l ++ m) ∨ runErr c (l ++ m) = 2 := by
  have ho := run_oks h
  obtain ⟨a1, a2, a3⟩ := run_ok h
  obtain ⟨t1, t2⟩ := trace_ok.1 a2
  have e1 : runErr (run c l).1 m = trace m := by unfold runErr; rw [if_pos (check_ok.2 ho)]
  have e2 : runErr c (l ++ m) = trace (l ++ m) := by unfold runErr; rw [if_pos a1]
  rw [e1, e2]
  by_cases g : 200 < (l ++ m).length
  · right; unfold trace; rw [if_pos g]
  · left
    have g2 : ¬ 200 < m.length := by rw [List.length_append] at g; omega
    have g3 : (l ++ m).any (fun k => !okKey k) = m.any (fun k => !okKey k) := by
      have : l.any (fun k => !okKey k) = false := List.any_eq_false.2 fun k hk => by simp [t2 k hk]
      rw [List.any_append, this, Bool.false_or]
    unfold trace; rw [if_neg g, if_neg g2, g3]
theorem parts_ok {c : DCache} {l m : List Int} (h : runErr c l = 0) (h2 : runErr (run c l).1 m = 0) (h3 : runErr c (l ++ m) = 0) :
    (run (run c l).1 m).1 = (run c (l ++ m)).1 ∧ (run c (l ++ m)).2 = (run c l).2 + (run (run c l).1 m).2 ∧ 0 ≤ (run c l).2 ∧ (run c l).2 ≤ 200 ∧ 0 ≤ (run (run c l).1 m).2 ∧ (run (run c l).1 m).2 ≤ 200 := by
  obtain ⟨a1, a2, a3⟩ := run_ok h
  obtain ⟨b1, b2, b3⟩ := run_ok h2
  obtain ⟨c1, c2, c3⟩ := run_ok h3
  have n1 := run_n l c
  have n2 := run_n m (run c l).1
  have t1 := (trace_ok.1 a2).1
  have t2 := (trace_ok.1 b2).1
  have e := runGo_append (l := l) (m := m) (c := c) (n := 0)
  rw [runGo_add (l := m)] at e
  rw [b3, c3, e, a3] at *
  exact ⟨rfl, rfl, by omega, by omega, by omega, by omega⟩
theorem parts_bool {c : DCache} {l m : List Int} (h : runErr c l = 0) (h2 : runErr (run c l).1 m = 0) (h3 : runErr c ([] ++ l ++ m) = 0) :
    (decide ((run (run c l).1 m).1 = (run c ([] ++ l ++ m)).1) && ((run c ([] ++ l ++ m)).2 == IntKind.i64.wrap ((run c l).2 + (run (run c l).1 m).2))) = true := by
  obtain ⟨p1, p2, p3, p4, p5, p6⟩ := parts_ok (l := l) h h2 h3
  rw [wrap_i64 (by omega)]
  simp only [List.nil_append]
  simp [p1, p2]
theorem parts_bool2 {c : DCache} {l m : List Int} (h : runErr c l = 0) : (runErr (run c l).1 m == runErr c ([] ++ l ++ m) || runErr c ([] ++ l ++ m) == 2) = true := by
  rcases parts_err (l := l) (m := m) h with e | e
  · simp only [List.nil_append]; simp [e]
  · simp only [List.nil_append]; simp [e]
theorem parts_bool3 {c : DCache} {l : List Int} (h : runErr c l ≠ 0) : ((run c l).2 == 0 && (((run c l).1.keys.length : Int) == 0)) = true := by rw [run_bad h]; rfl
/-! ### Inclusion -/
theorem incl {l : List Int} {small great : Int} (ha : runErr ⟨small, []⟩ l = 0) (hb : runErr ⟨great, []⟩ l = 0) (hs : small ≤ great) :
    (run ⟨small, []⟩ l).2 ≤ (run ⟨great, []⟩ l).2 ∧ (run ⟨small, []⟩ l).1.keys.length ≤ (run ⟨great, []⟩ l).1.keys.length ∧ (run ⟨small, []⟩ l).1.keys = (run ⟨great, []⟩ l).1.keys.take (run ⟨small, []⟩ l).1.keys.length := by
  obtain ⟨a1, a2, a3⟩ := run_ok ha
  obtain ⟨b1, b2, b3⟩ := run_ok hb
  rw [a3, b3]
  obtain ⟨h1, h2⟩ := inclusion (l := l) (a := ⟨small, []⟩) (b := ⟨great, []⟩) (n := 0) (m := 0) (ok_of a1).room.1 hs (by simp) (Int.le_refl 0)
  refine ⟨h1, ?_, ?_⟩
  · rw [h2]; simp; omega
  · have e : (Lru.runGo ⟨small, []⟩ 0 l).1.keys.length = min small.toNat (Lru.runGo ⟨great, []⟩ 0 l).1.keys.length := by rw [h2, List.length_take]
    rw [e, take_min]; exact h2
/-! ### Recent -/
theorem from_ {c : DCache} {l : List Int} (h : runErr c l = 0) {x : Int} (hx : x ∈ (run c l).1.keys) : x ∈ c.keys ∨ x ∈ l := by
  obtain ⟨_, _, e⟩ := run_ok h
  rw [e] at hx; exact runGo_keys x hx
theorem from_no {c : DCache} {l : List Int} {i : Nat} (h : runErr c l = 0) (hi : i < (run c l).1.keys.length) (h1 : Ref.hasInt c.keys (run c l).1.keys[i] = false) (h2 : Ref.hasInt l (run c l).1.keys[i] = false) : False := by
  rcases from_ h (List.getElem_mem hi) with g | g
  · simp [Ref.hasInt] at h1; exact h1 g
  · simp [Ref.hasInt] at h2; exact h2 g
theorem run_nil {c : DCache} {l : List Int} (h : runErr c l = 0) (hl : l.length = 0) : (run c l).1 = c := by
  obtain ⟨_, _, e⟩ := run_ok h
  rw [e, List.length_eq_zero_iff.1 hl]; rfl
theorem recent {c : DCache} {l : List Int} {j : Nat} (h : runErr c l = 0) (hj : j + 1 = l.length) :
    accessErr (run c l).1 (l[j]'(by omega)) = 0 ∧ access (run c l).1 (l[j]'(by omega)) = ((run c l).1, true, -1) ∧ sizeErr (run c l).1 1 = 0 ∧ (resize (run c l).1 1).1.keys = [l[j]'(by omega)] ∧ (resize (run c l).1 1).2.length + 1 = (run c l).1.keys.length := by
  have ho := run_oks h
  have hc := check_ok.2 ho
  obtain ⟨a1, a2, a3⟩ := run_ok h
  have h0 : l ≠ [] := by rintro rfl; simp at hj
  obtain ⟨r, hr⟩ := runGo_last (c := c) (n := 0) h0 (ok_of a1).room.1
  have hl : l.getLast h0 = l[j]'(by omega) := by rw [List.getLast_eq_getElem]; congr 1; omega
  rw [hl, ← a3] at hr
  have hk : okKey (l[j]'(by omega)) = true := (trace_ok.1 a2).2 _ (List.getElem_mem _)
  have e1 : accessErr (run c l).1 (l[j]'(by omega)) = 0 := by unfold accessErr; rw [if_pos hc, if_pos hk]
  obtain ⟨s1, s2⟩ := size3 (c := (run c l).1) (room := 1) hc (by rfl)
  refine ⟨e1, ?_, s2, ?_, ?_⟩
  · rw [access, if_pos e1]; exact touch_first ho hr
  · rw [s1, hr]; rfl
  · rw [s1, hr]; simp
end Go.Sx.Lru
