/- LFU: how the checks read. -/
import Derived.Test.YtgjdmnljnimamaaLfLaw
namespace Go.Sx.Lfu
theorem chk1 {u : DUses} (h : Lru.okRoom u.room = false) : 3 = check u := by rw [check, if_pos h]
theorem chk2 {u : DUses} (h : Lru.okRoom u.room = true) (h2 : u.room < (u.list.length : Int)) : 2 = check u := by rw [check, if_neg (by simp [h]), if_pos h2]
theorem chk3 {u : DUses} {ks : List Int} (hk : ks = keysOf u.list) (h : Lru.okRoom u.room = true) (h2 : (u.list.length : Int) ≤ u.room) (h3 : Lru.keys ks ≠ 0) : Lru.keys ks = check u := by
  rw [check, if_neg (by simp [h]), if_neg (by omega), ← hk, if_pos h3]
theorem chk4 {u : DUses} {ks : List Int} (hk : ks = keysOf u.list) (h : Lru.okRoom u.room = true) (h2 : (u.list.length : Int) ≤ u.room) (h3 : Lru.keys ks = 0) (h4 : u.list.any (fun x => !okCount x) = true) : 3 = check u := by
  rw [check, if_neg (by simp [h]), if_neg (by omega), ← hk, if_neg (by simp [h3]), if_pos h4]
theorem chk5 {u : DUses} {ks : List Int} (hk : ks = keysOf u.list) (h : Lru.okRoom u.room = true) (h2 : (u.list.length : Int) ≤ u.room) (h3 : Lru.keys ks = 0) (h4 : u.list.any (fun x => !okCount x) = false) : 0 = check u := by
  rw [check, if_neg (by simp [h]), if_neg (by omega), ← hk, if_neg (by simp [h3]), if_neg (by simp [h4])]
theorem keys_step {l : List DUse} {k : Nat} (h : k < l.length) : keysOf (l.take k) ++ [l[k].key] = keysOf (l.take (k + 1)) := by
  rw [List.take_succ_eq_append_getElem h, keysOf, keysOf, List.map_append]; rfl
theorem keys_len {l : List DUse} {k : Nat} (h : k ≤ l.length) : (keysOf (l.take k)).length = k := by simp [keysOf]; omega
theorem keys_all {l : List DUse} {k : Nat} (h : l.length ≤ k) : keysOf (l.take k) = keysOf l := by rw [List.take_of_length_le h]
theorem count_at {u : DUses} (h : Ok u) {i : Nat} (hi : i < u.list.length) : 1 ≤ (u.list.getD i default).count ∧ (u.list.getD i default).count ≤ 1099511627776 := by
  have e : u.list.getD i default = u.list[i] := by simp [List.getD, hi]
  rw [e]; exact h.count _ (List.getElem_mem hi)
theorem cut_take {l : List DUse} {i : Int} (h : 0 ≤ i) : l.take i.toNat ++ l.drop (i + 1).toNat = l.eraseIdx i.toNat := by
  rw [List.eraseIdx_eq_take_drop_succ, show (i + 1).toNat = i.toNat + 1 by omega]
theorem t_hit {u : DUses} {key : Int} (h : 0 ≤ at_ u.list key) : touch u key = (⟨u.room, ⟨(u.list.getD (at_ u.list key).toNat default).key, min ((u.list.getD (at_ u.list key).toNat default).count + 1) 1099511627776⟩ :: (u.list.take (at_ u.list key).toNat ++ u.list.drop (at_ u.list key + 1).toNat)⟩, true, -1) := by
  rw [cut_take h]; unfold touch; rw [if_pos h]; rfl
theorem t_full {u : DUses} {key : Int} (h : at_ u.list key < 0) (hf : (u.list.length : Int) = u.room) : touch u key = (⟨u.room, ⟨key, min (0 + 1) 1099511627776⟩ :: (u.list.take ((least u.list : Int)).toNat ++ u.list.drop ((least u.list : Int) + 1).toNat)⟩, false, (u.list.getD ((least u.list : Int)).toNat default).key) := by
  rw [cut_take (by omega)]; unfold touch; rw [if_neg (by omega), if_pos hf]; rfl
theorem t_add {u : DUses} {key : Int} (h : at_ u.list key < 0) (hf : (u.list.length : Int) ≠ u.room) : touch u key = (⟨u.room, ⟨key, min (0 + 1) 1099511627776⟩ :: u.list⟩, false, -1) := by
  unfold touch; rw [if_neg (by omega), if_neg hf]; rfl
theorem ins0 (l : List DUse) (k : DUse) : l.take (0 : Int).toNat ++ [k] ++ l.drop (0 : Int).toNat = k :: l := rfl
theorem acc1 {c : DUses} {key : Int} (e : check c ≠ 0) : access c key = (zero, false, 0) ∧ accessErr c key = check c := by
  rcases acc_cases c key with ⟨_, b⟩ | ⟨a, _⟩ | ⟨a, _⟩
  · exact b
  · exact absurd a e
  · exact absurd a e
theorem acc2 {c : DUses} {key : Int} (e : check c = 0 ∧ Lru.okKey key = false) : access c key = (zero, false, 0) ∧ accessErr c key = 3 := by
  rcases acc_cases c key with ⟨a, _⟩ | ⟨_, _, b⟩ | ⟨_, b, _⟩
  · exact absurd e.1 a
  · exact b
  · rw [e.2] at b; cases b
theorem acc3 {c : DUses} {key : Int} (e2 : ¬ check c = 0 ∨ Lru.okKey key = true) (e : check c = 0) : access c key = touch c key ∧ accessErr c key = 0 := by
  rcases acc_cases c key with ⟨a, _⟩ | ⟨_, b, _⟩ | ⟨_, _, b⟩
  · exact absurd e a
  · rcases e2 with e2 | e2
    · exact absurd e e2
    · rw [e2] at b; cases b
  · exact b
theorem run1 {c : DUses} {l : List Int} (e : check c ≠ 0) : run c l = (zero, 0) ∧ runErr c l = check c := by
  rcases run_cases c l with ⟨_, b⟩ | ⟨a, _⟩ | ⟨a, _⟩
  · exact b
  · exact absurd a e
  · exact absurd a e
theorem run2 {c : DUses} {l : List Int} (e : check c = 0) (e2 : Lru.trace l ≠ 0) : run c l = (zero, 0) ∧ runErr c l = Lru.trace l := by
  rcases run_cases c l with ⟨a, _⟩ | ⟨_, _, b⟩ | ⟨_, a, _⟩
  · exact absurd e a
  · exact b
  · exact absurd a e2
theorem run3 {c : DUses} {l : List Int} (e : check c = 0) (e2 : Lru.trace l = 0) : run c l = runGo c 0 l ∧ runErr c l = 0 := by
  rcases run_cases c l with ⟨a, _⟩ | ⟨_, a, _⟩ | ⟨_, _, b⟩
  · exact absurd e a
  · exact absurd e2 a
  · exact b
theorem vic1 {u : DUses} (e : check u ≠ 0) : 0 = victim u ∧ check u = victimErr u := by
  have e1 : victimErr u = check u := by unfold victimErr; rw [if_neg e]
  exact ⟨by unfold victim; rw [if_neg (by rw [e1]; exact e)], e1.symm⟩
theorem vic2 {u : DUses} (e : check u = 0) (h : u.list.length = 0) : 0 = victim u ∧ 5 = victimErr u := by
  have e1 : victimErr u = 5 := by unfold victimErr; rw [if_pos e, if_pos h]
  exact ⟨by unfold victim; rw [if_neg (by rw [e1]; decide)], e1.symm⟩
theorem vic3 {u : DUses} (e : check u = 0) (h : 0 < u.list.length) (h2 : ((least u.list : Int)).toNat < u.list.length) : (u.list[((least u.list : Int)).toNat]).key = victim u ∧ 0 = victimErr u := by
  have e1 : victimErr u = 0 := by unfold victimErr; rw [if_pos e, if_neg (by omega)]
  refine ⟨?_, e1.symm⟩
  unfold victim; rw [if_pos e1]
  have h3 : least u.list < u.list.length := by simpa using h2
  simp [List.getD, h3]
structure GInv (l m : List DUse) (k : Nat) : Prop where
  le : k ≤ l.length
  len : m.length = l.length
  at_ : ∀ j (h : j < m.length) (h2 : j < l.length), m[j] = if j < k then old l[j] else l[j]
theorem GInv.start (l : List DUse) : GInv l l 0 := ⟨Nat.zero_le _, rfl, fun j h h2 => by simp⟩
theorem GInv.next {l m : List DUse} {k : Nat} (h : GInv l m k) (hk : k < m.length) : GInv l (m.set k ⟨m[k].key, max 1 (m[k].count.tdiv 2)⟩) (k + 1) := by
  have hl := h.len
  refine ⟨by omega, by rw [List.length_set]; exact hl, fun j h1 h2 => ?_⟩
  rw [List.getElem_set]
  have h3 := h.at_ k hk (by omega)
  rw [if_neg (by omega)] at h3
  by_cases e : k = j
  · subst e; rw [if_pos rfl, if_pos (by omega), h3]; rfl
  · rw [if_neg e, h.at_ j (by simpa using h1) h2]
    by_cases g : j < k
    · rw [if_pos g, if_pos (by omega)]
    · rw [if_neg g, if_neg (by omega)]
theorem GInv.done {l m : List DUse} {k : Nat} (h : GInv l m k) (hk : l.length ≤ k) : m = l.map old := by
  have hl := h.len
  refine List.ext_getElem (by simp [hl]) fun j h1 h2 => ?_
  rw [h.at_ j h1 (by omega), if_pos (by omega), List.getElem_map]
theorem GInv.cnt {u : DUses} {m : List DUse} {k : Nat} (h : GInv u.list m k) (ho : Ok u) (hk : k < m.length) : 1 ≤ m[k].count ∧ m[k].count ≤ 1099511627776 := by
  have hl := h.len
  rw [h.at_ k hk (by omega), if_neg (by omega)]; exact ho.count _ (List.getElem_mem _)
theorem half_bd {a : Int} (h : 1 ≤ a ∧ a ≤ 1099511627776) : 0 ≤ a.tdiv 2 ∧ a.tdiv 2 ≤ 1099511627776 := by
  rw [Int.tdiv_eq_ediv_of_nonneg (by omega)]; omega
def KInv (u : DUses) (e : Int) (i : Nat) : Prop := i ≤ u.list.length ∧ e = (if Lru.keys (keysOf u.list) ≠ 0 then Lru.keys (keysOf u.list) else if (u.list.take i).any (fun x => !okCount x) = true then 3 else 0)
theorem KInv.start {u : DUses} {ks : List Int} (h : ks = keysOf u.list) : KInv u (Lru.keys ks) 0 := by
  subst h; refine ⟨Nat.zero_le _, ?_⟩
  split
  · rfl
  · rename_i g; simpa using g
theorem KInv.zero {u : DUses} {e : Int} {i : Nat} (h : KInv u e i) (h0 : e = 0) : Lru.keys (keysOf u.list) = 0 ∧ (u.list.take i).any (fun x => !okCount x) = false := by
  have h2 := h.2; rw [h0] at h2
  split at h2
  · rename_i g; exact absurd h2.symm g
  · split at h2
    · cases h2
    · rename_i g1 g2; exact ⟨Decidable.not_not.1 g1, Bool.not_eq_true _ ▸ g2⟩
theorem between_ok {x : DUse} : Ref.between x.count 1 1099511627776 = okCount x := by
  simp [Ref.between, okCount]
theorem KInv.ok {u : DUses} {e : Int} {i : Nat} (h : KInv u e i) (h0 : e = 0) (hi : i < u.list.length) (hb : Ref.between u.list[i].count 1 1099511627776 = true) : KInv u e (i + 1) := by
  obtain ⟨h1, h2⟩ := h.zero h0
  refine ⟨hi, ?_⟩
  rw [between_ok] at hb
  rw [if_neg (by simp [h1]), List.take_succ_eq_append_getElem hi, List.any_append, h2]
  simp [hb, h0]
theorem KInv.bad {u : DUses} {e : Int} {i : Nat} (h : KInv u e i) (h0 : e = 0) (hi : i < u.list.length) (hb : Ref.between u.list[i].count 1 1099511627776 = false) : KInv u 3 (i + 1) := by
  obtain ⟨h1, h2⟩ := h.zero h0
  refine ⟨hi, ?_⟩
  rw [between_ok] at hb
  rw [if_neg (by simp [h1]), List.take_succ_eq_append_getElem hi, List.any_append, h2]
  simp [hb]
theorem KInv.done {u : DUses} {e : Int} {i : Nat} (h : KInv u e i) (hd : (i : Int) < u.list.length → e ≠ 0) (h1 : Lru.okRoom u.room = true) (h2 : (u.list.length : Int) ≤ u.room) : e = check u := by
  rw [check, if_neg (by simp [h1]), if_neg (by omega), h.2]
  by_cases g : Lru.keys (keysOf u.list) ≠ 0
  · rw [if_pos g, if_pos g]
  · rw [if_neg g, if_neg g]
    by_cases hi : (i : Int) < u.list.length
    · have hne := hd hi
      rw [h.2, if_neg g] at hne
      have hany : (u.list.take i).any (fun x => !okCount x) = true := by
        by_cases g2 : (u.list.take i).any (fun x => !okCount x) = true
        · exact g2
        · rw [if_neg g2] at hne; exact absurd rfl hne
      have hall : u.list.any (fun x => !okCount x) = true := by
        obtain ⟨x, hx, hx2⟩ := List.any_eq_true.1 hany
        exact List.any_eq_true.2 ⟨x, List.mem_of_mem_take hx, hx2⟩
      rw [if_pos hany, if_pos hall]
    · rw [List.take_of_length_le (by omega)]
structure DInv (l : List DUse) (i : Int) (less : Bool) (k : Nat) : Prop where
  le : k ≤ l.length
  iff : less = true ↔ ∃ (j : Nat) (h : j < l.length) (h2 : i.toNat < l.length), j < k ∧ l[j].count < (l[i.toNat]).count
theorem DInv.start (l : List DUse) (i : Int) : DInv l i false 0 := ⟨Nat.zero_le _, by simp⟩
theorem DInv.next {l : List DUse} {i : Int} {less : Bool} {k : Nat} (h : DInv l i less k) (hk : k < l.length) (hi : i.toNat < l.length) : DInv l i (less || decide (l[k].count < (l[i.toNat]).count)) (k + 1) := by
  refine ⟨hk, ?_⟩
  rw [Bool.or_eq_true, h.iff, decide_eq_true_iff]
  constructor
  · rintro (⟨j, a, b, c, d⟩ | g)
    · exact ⟨j, a, b, by omega, d⟩
    · exact ⟨k, hk, hi, by omega, g⟩
  · rintro ⟨j, a, b, c, d⟩
    by_cases e : j = k
    · subst e; exact .inr d
    · exact .inl ⟨j, a, b, by omega, d⟩
/-- From the end on, none that is least. -/
structure EInv (l : List DUse) (i : Int) : Prop where
  bd : 0 ≤ i ∧ i < l.length
  more : ∀ j (hj : j < l.length), i < (j : Int) → ∃ t ∈ l, t.count < l[j].count
theorem EInv.start {l : List DUse} (h : 0 < l.length) : EInv l ((l.length : Int) - 1) := ⟨by omega, fun j hj h2 => by omega⟩
theorem EInv.next {l : List DUse} {i : Int} {less : Bool} {k : Nat} (h : EInv l i) (hd : DInv l i less k) (hk : (l.length : Int) ≤ k) (hl : less = true) (hp : 0 < i) : EInv l (i - 1) := by
  obtain ⟨j, a, b, c, d⟩ := hd.iff.1 hl
  have hb := h.bd
  refine ⟨by omega, fun q hq h2 => ?_⟩
  by_cases e : (q : Int) = i
  · have : q = i.toNat := by omega
    subst this; exact ⟨_, List.getElem_mem a, d⟩
  · exact h.more q hq (by omega)
theorem EInv.last {l : List DUse} {i : Int} {less : Bool} {k : Nat} (h : EInv l i) (hd : DInv l i less k) (hk : (l.length : Int) ≤ k) (hl : less = false) (hi : i.toNat < l.length) : (l[i.toNat]).key = (l.getD (least l) default).key := by
  have hb := h.bd
  have e : i.toNat = least l := by
    refine least_last (by omega) hi (fun t ht => ?_) fun j hj h2 => h.more j hj (by omega)
    obtain ⟨j, hj, rfl⟩ := List.getElem_of_mem ht
    by_cases g : l[j].count < (l[i.toNat]).count
    · exact absurd (hd.iff.2 ⟨j, hj, hi, by omega, g⟩) (by simp [hl])
    · omega
  have hll : least l < l.length := least_lt (by omega)
  simp only [← e]; simp [List.getD, hi]
theorem EInv.zero {l : List DUse} {i : Int} (h : EInv l i) (h0 : i ≤ 0) (hi : 0 < l.length) : (l[0]).key = (l.getD (least l) default).key := by
  have hb := h.bd
  have hz : i = 0 := by omega
  subst hz
  have e : 0 = Lfu.least l := by
    refine least_last (by omega) hi (fun t ht => ?_) fun j hj h2 => h.more j hj (by omega)
    have hll := least_lt hi
    by_cases g : Lfu.least l = 0
    · have := least_min hi t ht
      simpa [g] using this
    · obtain ⟨t2, ht2, h3⟩ := h.more (Lfu.least l) hll (by omega)
      have := least_min hi t2 ht2; omega
  simp only [← e]; simp [List.getD, hi]
end Go.Sx.Lfu
