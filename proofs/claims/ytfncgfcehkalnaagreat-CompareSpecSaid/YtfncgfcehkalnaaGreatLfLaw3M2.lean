/- LFU: the reference's touch does what touch does. -/
import Derived.Test.YtfncgfcehkalnaaGreatBeLawM22
namespace Go.Sx.Lfu
theorem filter_idx : ∀ {l : List DUse} {i : Nat} {p : DUse → Bool} (hi : i < l.length), (keysOf l).Nodup → (∀ x ∈ l, p x = !(x.key == l[i].key)) → l.filter p = l.eraseIdx i := by
  intro l
  induction l with
  | nil => intro i p hi; simp at hi
  | cons a l ih =>
    intro i p hi hn hp
    rw [keysOf, List.map_cons, List.nodup_cons] at hn
    cases i with
    | zero =>
      rw [List.filter_cons_of_neg (by simp [hp a (by simp)]), List.eraseIdx_cons_zero, List.filter_eq_self]
      intro x hx
      rw [hp x (by simp [hx])]
      have : x.key ≠ a.key := fun e => hn.1 (e ▸ List.mem_map_of_mem hx)
      simpa using this
    | succ i =>
      have hi2 : i < l.length := by simpa using hi
      have hne : a.key ≠ l[i].key := fun e => hn.1 (e ▸ List.mem_map_of_mem (List.getElem_mem hi2))
      rw [List.filter_cons_of_pos (by rw [hp a (by simp)]; simpa using hne), List.eraseIdx_cons_succ, ih hi2 hn.2 (fun x hx => by rw [hp x (by simp [hx])]; simp)]
structure AInv (l : List DUse) (key count : Int) (hit : Bool) (i : Nat) : Prop where
  le : i ≤ l.length
  yes : hit = true → ∃ (j : Nat) (h : j < l.length), j < i ∧ l[j].key = key ∧ count = l[j].count
  no : hit = false → count = 0 ∧ ∀ (j : Nat) (h : j < l.length), j < i → l[j].key ≠ key
theorem AInv.start (l : List DUse) (key : Int) : AInv l key 0 false 0 := ⟨Nat.zero_le _, fun h => by simp at h, fun _ => ⟨rfl, fun j _ h => absurd h (Nat.not_lt_zero _)⟩⟩
theorem AInv.found {l : List DUse} {key count : Int} {hit : Bool} {i : Nat} (h : AInv l key count hit i) (hi : i < l.length) (hk : l[i].key = key) : AInv l key l[i].count true (i + 1) :=
  ⟨hi, fun _ => ⟨i, hi, by omega, hk, rfl⟩, fun h => by simp at h⟩
theorem AInv.skip {l : List DUse} {key count : Int} {hit : Bool} {i : Nat} (h : AInv l key count hit i) (hi : i < l.length) (hk : l[i].key ≠ key) : AInv l key count hit (i + 1) := by
  refine ⟨hi, fun g => ?_, fun g => ⟨(h.no g).1, fun j hj h2 => ?_⟩⟩
  · obtain ⟨j, a, b, c⟩ := h.yes g; exact ⟨j, a, by omega, c⟩
  · by_cases e : j = i
    · subst e; exact hk
    · exact (h.no g).2 j hj (by omega)
theorem AInv.hit_ {u : DUses} {key count : Int} {i : Nat} (h : AInv u.list key count true i) (ho : Ok u) : 0 ≤ at_ u.list key ∧ count = (u.list.getD (at_ u.list key).toNat default).count := by
  obtain ⟨j, a, _, b, c⟩ := h.yes rfl
  have h0 : 0 ≤ at_ u.list key := by
    by_cases g : 0 ≤ at_ u.list key
    · exact g
    · exact absurd b (at_neg.1 (by omega) _ (List.getElem_mem a))
  obtain ⟨h1, h2⟩ := at_pos h0
  refine ⟨h0, ?_⟩
  have hn := ho.once
  have e : j = (at_ u.list key).toNat := by
    have a2 : j < (keysOf u.list).length := by simpa [keysOf] using a
    have a3 : (at_ u.list key).toNat < (keysOf u.list).length := by simpa [keysOf] using h1
    have e2 : (keysOf u.list)[j] = (keysOf u.list)[(at_ u.list key).toNat] := by simp only [keysOf, List.getElem_map]; rw [b, h2]
    rcases Nat.lt_trichotomy j (at_ u.list key).toNat with g | g | g
    · exact absurd e2 (List.pairwise_iff_getElem.1 hn _ _ a2 a3 g)
    · exact g
    · exact absurd e2.symm (List.pairwise_iff_getElem.1 hn _ _ a3 a2 g)
  rw [c]; simp only [List.getD, ← e]; simp [a]
theorem AInv.miss_ {u : DUses} {key count : Int} {i : Nat} (h : AInv u.list key count false i) (hi : u.list.length ≤ i) : at_ u.list key < 0 ∧ count = 0 := by
  obtain ⟨a, b⟩ := h.no rfl
  refine ⟨at_neg.2 fun x hx => ?_, a⟩
  obtain ⟨j, hj, rfl⟩ := List.getElem_of_mem hx
  exact b j hj (by omega)
structure OInv (u : DUses) (key : Int) (cc : DUses) (i : Nat) : Prop where
  le : i ≤ u.list.length
  room : cc.room = u.room
  list : cc.list = (touch u key).1.list.take 1 ++ (u.list.take i).filter (fun x => !(x.key == key) && !(x.key == (touch u key).2.2))
theorem OInv.len {u cc : DUses} {key : Int} {i : Nat} (h : OInv u key cc i) : cc.list.length ≤ i + 1 := by
  rw [h.list, List.length_append, List.length_take]
  have := List.length_filter_le (fun x => !(x.key == key) && !(x.key == (touch u key).2.2)) (u.list.take i)
  simp at this; omega
theorem OInv.start {u : DUses} {key count : Int} (h : (touch u key).1.list.take 1 = [⟨key, count⟩]) : OInv u key ⟨u.room, [⟨key, count⟩]⟩ 0 := ⟨Nat.zero_le _, rfl, by rw [h]; rfl⟩
theorem OInv.add {u cc : DUses} {key gone : Int} {i : Nat} (h : OInv u key cc i) (hg : gone = (touch u key).2.2) (hi : i < u.list.length) (h1 : u.list[i].key ≠ key) (h2 : u.list[i].key ≠ gone) : OInv u key ⟨cc.room, cc.list ++ [u.list[i]]⟩ (i + 1) := by
  subst hg
  refine ⟨hi, h.room, ?_⟩
  rw [List.take_succ_eq_append_getElem hi, List.filter_append, ← List.append_assoc, ← h.list]
  simp [h1, h2]
theorem OInv.drop {u cc : DUses} {key gone : Int} {i : Nat} (h : OInv u key cc i) (hg : gone = (touch u key).2.2) (hi : i < u.list.length) (h1 : u.list[i].key = key ∨ u.list[i].key = gone) : OInv u key cc (i + 1) := by
  subst hg
  refine ⟨hi, h.room, ?_⟩
  rw [List.take_succ_eq_append_getElem hi, List.filter_append, ← List.append_assoc, ← h.list]
  rcases h1 with e | e <;> simp [e]
theorem OInv.done {u cc : DUses} {key : Int} {i : Nat} (h : OInv u key cc i) (ho : Ok u) (hi : u.list.length ≤ i) : cc = (touch u key).1 := by
  have hl := h.list
  rw [List.take_of_length_le hi] at hl
  have hk0 : ∀ x ∈ u.list, x.key ≠ -1 := fun x hx => by have := ho.key x hx; simp [Lru.okKey] at this; omega
  have hr := touch_room u key
  have hfin : cc.list = (touch u key).1.list := by
    rw [hl]
    by_cases h0 : 0 ≤ at_ u.list key
    · obtain ⟨h1, h2⟩ := at_pos h0
      rw [touch_hit h0 h1]
      simp only [List.take_succ_cons, List.take_zero, List.singleton_append, List.cons.injEq, true_and]
      refine filter_idx h1 ho.once fun x hx => ?_
      rw [h2]; simp [hk0 x hx]
    · by_cases hf : (u.list.length : Int) = u.room
      · have hpos : 0 < u.list.length := by have := ho.room; omega
        have hll := least_lt hpos
        rw [touch_full (by omega) hf hll]
        simp only [List.take_succ_cons, List.take_zero, List.singleton_append, List.cons.injEq, true_and]
        refine filter_idx hll ho.once fun x hx => ?_
        simp [at_neg.1 (show at_ u.list key < 0 by omega) x hx]
      · rw [touch_add (by omega) hf]
        simp only [List.take_succ_cons, List.take_zero, List.singleton_append, List.cons.injEq, true_and]
        refine List.filter_eq_self.2 fun x hx => ?_
        simp [at_neg.1 (show at_ u.list key < 0 by omega) x hx, hk0 x hx]
  have h3 := h.room
  rw [← hr] at h3
  cases cc; simp only at h3 hfin; rw [h3, hfin]
theorem ref_hit {u : DUses} {key count : Int} {i : Nat} (h : AInv u.list key count true i) (ho : Ok u) : (touch u key).2.1 = true ∧ -1 = (touch u key).2.2 ∧ (1 ≤ count ∧ count ≤ 1099511627776) ∧ (count < 1099511627776 → (touch u key).1.list.take 1 = [⟨key, count + 1⟩]) ∧ (1099511627776 ≤ count → (touch u key).1.list.take 1 = [⟨key, count⟩]) := by
  obtain ⟨h0, hc⟩ := h.hit_ ho
  obtain ⟨h1, h2⟩ := at_pos h0
  have hb := count_at ho h1
  rw [touch_hit h0 h1]
  have e : (u.list.getD (at_ u.list key).toNat default).count = (u.list[(at_ u.list key).toNat]).count := by simp [List.getD, h1]
  refine ⟨rfl, rfl, by rw [hc]; exact hb, fun g => ?_, fun g => ?_⟩
  · simp only [List.take_succ_cons, List.take_zero, h2]; rw [← e, ← hc]; simp [cap]; omega
  · simp only [List.take_succ_cons, List.take_zero, h2]; rw [← e, ← hc]; simp [cap]; omega
theorem ref_miss {u : DUses} {key count : Int} {i : Nat} (h : AInv u.list key count false i) (hi : u.list.length ≤ i) (ho : Ok u) : (touch u key).2.1 = false ∧ count = 0 ∧ ((u.list.length : Int) = u.room → (u.list.getD (least u.list) default).key = (touch u key).2.2) ∧ ((u.list.length : Int) ≠ u.room → -1 = (touch u key).2.2) ∧ (touch u key).1.list.take 1 = [⟨key, 0 + 1⟩] := by
  obtain ⟨h0, hc⟩ := h.miss_ hi
  have hroom := ho.room
  unfold touch
  rw [if_neg (by omega)]
  by_cases g : (u.list.length : Int) = u.room
  · rw [if_pos g]; exact ⟨rfl, hc, fun _ => rfl, fun g2 => absurd g g2, rfl⟩
  · rw [if_neg g]; exact ⟨rfl, hc, fun g2 => absurd g2 g, fun _ => rfl, rfl⟩
section
variable {u : DUses} {key count : Int} {hit : Bool} {i : Nat}
theorem ref_full (h : AInv u.list key count hit i) (hi : u.list.length ≤ i) (ho : Ok u) (h1 : hit = false) (h2 : (u.list.length : Int) = u.room) : (u.list.getD (least u.list) default).key = (touch u key).2.2 := by
  subst h1; exact (ref_miss h hi ho).2.2.1 h2
theorem ref_not (h : AInv u.list key count hit i) (hi : u.list.length ≤ i) (ho : Ok u) (h1 : hit = true ∨ (u.list.length : Int) ≠ u.room) : -1 = (touch u key).2.2 := by
  cases hit
  · exact (ref_miss h hi ho).2.2.2.1 (h1.resolve_left (by simp))
  · exact (ref_hit h ho).2.1
theorem ref_is (h : AInv u.list key count hit i) (hi : u.list.length ≤ i) (ho : Ok u) : hit = (touch u key).2.1 := by
  cases hit
  · exact (ref_miss h hi ho).1.symm
  · exact (ref_hit h ho).1.symm
theorem ref_bd (h : AInv u.list key count hit i) (hi : u.list.length ≤ i) (ho : Ok u) : 0 ≤ count ∧ count ≤ 1099511627776 := by
  cases hit
  · have := (ref_miss h hi ho).2.1; omega
  · have := (ref_hit h ho).2.2.1; omega
theorem ref_lt (h : AInv u.list key count hit i) (hi : u.list.length ≤ i) (ho : Ok u) (hc : count < 1099511627776) : (touch u key).1.list.take 1 = [⟨key, count + 1⟩] := by
  cases hit
  · have h2 := ref_miss h hi ho; rw [h2.2.1]; exact h2.2.2.2.2
  · exact (ref_hit h ho).2.2.2.1 hc
theorem ref_ge (h : AInv u.list key count hit i) (hi : u.list.length ≤ i) (ho : Ok u) (hc : 1099511627776 ≤ count) : (touch u key).1.list.take 1 = [⟨key, count⟩] := by
  cases hit
  · have h2 := (ref_miss h hi ho).2.1; omega
  · exact (ref_hit h ho).2.2.2.2 hc
end
end Go.Sx.Lfu

/- LFU: what LfuSpec's end asks. -/
namespace Go.Sx.Lfu
end Go.Sx.Lfu
