/- Shards: a shard is removed; a shard weighs more. -/
import Derived.Test.YthecfjipaepcgaaShLaw2
namespace Go.Sx.Shd
/-! ### the best shard -/
theorem top_of {l : List DShard} {key : ByteArray} {k : Nat} (hk : k < l.length) : ((ranked l key).getD k default ∉ (ranked l key).take k) ∧ ∀ j : Int, 0 ≤ j → j < l.length → j ∉ (ranked l key).take k → j ≠ (ranked l key).getD k default → R l (Hash.raw key) ((ranked l key).getD k default) j := by
  have hl := ranked_len l key
  have hs := List.pairwise_iff_getElem.1 (ranked_sorted l key)
  rw [← getd_at (show k < (ranked l key).length by omega) default]
  constructor
  · intro h
    obtain ⟨j, hj, e⟩ := List.mem_iff_getElem.1 h
    rw [List.length_take] at hj
    rw [List.getElem_take] at e
    have := hs j k (by omega) (by omega) (by omega)
    rw [e] at this; exact R_irr _ this
  · intro j h0 h1 hn hne
    obtain ⟨q, hq, e⟩ := List.mem_iff_getElem.1 (ranked_mem (key := key).2 ⟨h0, h1⟩)
    rcases Nat.lt_trichotomy q k with h2 | h2 | h2
    · exact absurd (List.mem_iff_getElem.2 ⟨q, by rw [List.length_take]; omega, by rw [List.getElem_take]; exact e⟩) hn
    · subst h2; exact absurd e.symm hne
    · have := hs k q (by omega) hq h2
      rw [e] at this; exact this
theorem own_top {l : List DShard} {key : ByteArray} (h : ownErr l key = 0) {j : Int} (h0 : 0 ≤ j) (h1 : j < l.length) (hne : j ≠ owner l key) : R l (Hash.raw key) (owner l key) j := by
  rw [owner_eq h] at hne ⊢
  exact (top_of (own_ok h).2.2).2 j h0 h1 (by simp) hne
theorem own_of {l : List DShard} {key : ByteArray} (h : ownErr l key = 0) {b : Int} (h0 : 0 ≤ b) (h1 : b < l.length) (ht : ∀ j : Int, 0 ≤ j → j < l.length → j ≠ b → R l (Hash.raw key) b j) : owner l key = b := by
  rw [owner_eq h]
  exact ranked_at (own_ok h).2.2 h0 h1 (by simp) fun j hj _ hne => ht j (by omega) (by omega) hne
/-! ### a shard less -/
def less (l : List DShard) (at_ : Int) : List DShard := l.take at_.toNat ++ l.drop (at_ + 1).toNat
def sig (at_ i : Int) : Int := if i < at_ then i else i + 1
theorem less_len {l : List DShard} {at_ : Int} (h : 0 ≤ at_ ∧ at_ < l.length) : (less l at_).length + 1 = l.length := by
  simp only [less, List.length_append, List.length_take, List.length_drop]; omega
theorem less_at {l : List DShard} {at_ i : Int} (h : 0 ≤ at_ ∧ at_ < l.length) (hi : 0 ≤ i ∧ i + 1 < l.length) : (less l at_).getD i.toNat default = l.getD (sig at_ i).toNat default := by
  unfold less sig
  rw [List.getD_eq_getElem?_getD, List.getD_eq_getElem?_getD]
  split
  · rw [List.getElem?_append_left (by rw [List.length_take]; omega), List.getElem?_take, if_pos (by omega)]
  · rw [List.getElem?_append_right (by rw [List.length_take]; omega), List.getElem?_drop, List.length_take, show (at_ + 1).toNat + (i.toNat - min at_.toNat l.length) = (i + 1).toNat by omega]
theorem less_sub (l : List DShard) (at_ : Int) (h : 0 ≤ at_) : (less l at_).Sublist l := by
  unfold less
  have : l = l.take at_.toNat ++ l.drop at_.toNat := (List.take_append_drop _ _).symm
  conv => rhs; rw [this]
  refine (List.Sublist.refl _).append ?_
  rw [show (at_ + 1).toNat = at_.toNat + 1 by omega]
  exact List.drop_sublist_drop_left _ (by omega)
theorem Ok.less {l : List DShard} (h : Ok l) {at_ : Int} (h0 : 0 ≤ at_) : Ok (less l at_) :=
  have hs := less_sub l at_ h0
  ⟨by have := hs.length_le; have := h.len; omega, fun s hm => h.one s (hs.subset hm), (hs.map _).nodup h.nodup⟩
theorem R_less {l : List DShard} {n : UInt64} {at_ a b : Int} (h : 0 ≤ at_ ∧ at_ < l.length) (ha : 0 ≤ a ∧ a + 1 < l.length) (hb : 0 ≤ b ∧ b + 1 < l.length) : R (less l at_) n a b ↔ R l n (sig at_ a) (sig at_ b) := by
  unfold R
  rw [less_at h ha, less_at h hb]
  have : a < b ↔ sig at_ a < sig at_ b := by unfold sig; (repeat' split) <;> omega
  rw [this]
/-- the least of all but one -/
theorem less_owner {l : List DShard} {key : ByteArray} {at_ : Int} (h : 0 ≤ at_ ∧ at_ < l.length) (he : ownErr l key = 0) (hf : ownErr (less l at_) key = 0) {b : Int} (hb : 0 ≤ b ∧ b < l.length) (hne : b ≠ at_) (ht : ∀ j : Int, 0 ≤ j → j < l.length → j ≠ at_ → j ≠ b → R l (Hash.raw key) b j) : sig at_ (owner (less l at_) key) = b := by
  have hl := less_len h
  have e : owner (less l at_) key = if b < at_ then b else b - 1 := by
    refine own_of hf (by split <;> omega) (by split <;> omega) fun j h0 h1 hj => ?_
    have hs : sig at_ (if b < at_ then b else b - 1) = b := by unfold sig; (repeat' split) <;> omega
    rw [R_less h (by split <;> omega) (by omega), hs]
    refine ht _ (by unfold sig; split <;> omega) (by unfold sig; split <;> omega) (by unfold sig; split <;> omega) fun e => hj ?_
    unfold sig at e; split at e <;> (repeat' split) <;> omega
  rw [e]; unfold sig; (repeat' split) <;> omega
theorem names_inj {l : List DShard} (h : Ok l) {a b : Int} (ha : 0 ≤ a ∧ a < l.length) (hb : 0 ≤ b ∧ b < l.length) (hne : a ≠ b) : ¬ (l.getD a.toNat default).name = (l.getD b.toNat default).name := by
  intro e
  have hp := List.pairwise_iff_getElem.1 h.nodup
  have hn : ∀ i (hi : i < l.length), (names l)[i]'(by simpa [names] using hi) = (l.getD i default).name := fun i hi => by
    simp only [names, List.getElem_map]; rw [getd_at hi default]
  have hln : (names l).length = l.length := by simp [names]
  rcases Int.lt_or_gt_of_ne hne with h1 | h1
  · have := hp a.toNat b.toNat (by omega) (by omega) (by omega)
    rw [hn _ (by omega), hn _ (by omega)] at this
    exact this e
  · have := hp b.toNat a.toNat (by omega) (by omega) (by omega)
    rw [hn _ (by omega), hn _ (by omega)] at this
    exact this e.symm
theorem movErr0 {l m : List DShard} {keys : List ByteArray} (h : movErr l m keys = 0) {i : Nat} (hi : i < keys.length) : ownErr l (keys.getD i default) = 0 ∧ ownErr m (keys.getD i default) = 0 := by
  have h1 : firstErr l m keys = 0 := by
    unfold movErr at h; split at h
    · cases h
    · exact h
  have key : ∀ (ks : List ByteArray), firstErr l m ks = 0 → ∀ k ∈ ks, kerr l m k = 0 := by
    intro ks
    induction ks with
    | nil => intro _ k hk; cases hk
    | cons x r ih =>
      intro h k hk
      rw [firstErr] at h
      split at h
      · rename_i h2; exact absurd h h2
      · rename_i h2
        rcases List.mem_cons.1 hk with rfl | hk
        · simpa using h2
        · exact ih h k hk
  rw [← getd_at hi default]
  exact kerr0.1 (key keys h1 _ (List.getElem_mem hi))
theorem mem_moved {l m : List DShard} {keys : List ByteArray} (h : movErr l m keys = 0) {i : Nat} (hi : i < keys.length) : Ref.hasInt (moved l m keys) (i : Int) = differs l m (keys.getD i default) := by
  unfold Ref.hasInt moved
  rw [if_pos h]
  have : ((i : Int) ∈ movTo l m keys keys.length) ↔ differs l m (keys.getD i default) = true := by
    unfold movTo
    rw [List.mem_map]
    constructor
    · rintro ⟨j, hj, e⟩
      obtain rfl : j = i := Int.ofNat.inj e
      exact (List.mem_filter.1 hj).2
    · intro hd
      exact ⟨i, List.mem_filter.2 ⟨List.mem_range.2 hi, hd⟩, rfl⟩
  rw [Bool.eq_iff_iff, decide_eq_true_eq]; exact this
structure Min (l : List DShard) (at_ : Int) (ks : List ByteArray) (i : Nat) : Prop where
  g : ownsErr l (ks.getD i default) 2 = 0
  h : ownErr (less l at_) (ks.getD i default) = 0
  len : (owners l (ks.getD i default) 2).length = 2
  b0 : 0 ≤ (owners l (ks.getD i default) 2).getD 0 default ∧ (owners l (ks.getD i default) 2).getD 0 default < l.length
  b1 : 0 ≤ (owners l (ks.getD i default) 2).getD 1 default ∧ (owners l (ks.getD i default) 2).getD 1 default < l.length
  k : 0 ≤ owner (less l at_) (ks.getD i default) ∧ owner (less l at_) (ks.getD i default) < (less l at_).length
  m : Ref.hasInt (moved l (less l at_) ks) (i : Int) = ((owners l (ks.getD i default) 2).getD 0 default == at_)
  n : Ref.hasInt (moved (less l at_) l ks) (i : Int) = ((owners l (ks.getD i default) 2).getD 0 default == at_)
  same : (owners l (ks.getD i default) 2).getD 0 default = at_ → ((less l at_).getD (owner (less l at_) (ks.getD i default)).toNat default).name = (l.getD ((owners l (ks.getD i default) 2).getD 1 default).toNat default).name
  same2 : (owners l (ks.getD i default) 2).getD 0 default ≠ at_ → ((less l at_).getD (owner (less l at_) (ks.getD i default)).toNat default).name = (l.getD ((owners l (ks.getD i default) 2).getD 0 default).toNat default).name
theorem minimal {l : List DShard} {at_ : Int} {ks : List ByteArray} {i : Nat} (h : 0 ≤ at_ ∧ at_ < l.length) (h2 : 2 ≤ l.length) (he : movErr l (less l at_) ks = 0) (hf : movErr (less l at_) l ks = 0) (hi : i < ks.length) : Min l at_ ks i := by
  obtain ⟨q1, q2⟩ := movErr0 he hi
  have hm := mem_moved he hi
  have hn := mem_moved hf hi
  generalize hkey : ks.getD i default = key at *
  have hok := (own_ok q1).1
  have hrl := ranked_len l key
  have hll := less_len h
  have hown : ownsErr l key 2 = 0 ∧ owners l key 2 = (ranked l key).take 2 := by
    rcases ow_cases l key 2 with ⟨a, _⟩ | ⟨_, a, _⟩ | ⟨_, _, b, c⟩
    · exact absurd q1 a
    · omega
    · exact ⟨b, c⟩
  have e0 : (owners l key 2).getD 0 default = (ranked l key).getD 0 default := by
    rw [hown.2, List.getD_eq_getElem?_getD, List.getElem?_take, if_pos (by omega), List.getD_eq_getElem?_getD]
  have e1 : (owners l key 2).getD 1 default = (ranked l key).getD 1 default := by
    rw [hown.2, List.getD_eq_getElem?_getD, List.getElem?_take, if_pos (by omega), List.getD_eq_getElem?_getD]
  have b0 : 0 ≤ (ranked l key).getD 0 default ∧ (ranked l key).getD 0 default < l.length := by
    rw [← getd_at (show 0 < (ranked l key).length by omega) default]; exact ranked_mem.1 (List.getElem_mem _)
  have b1 : 0 ≤ (ranked l key).getD 1 default ∧ (ranked l key).getD 1 default < l.length := by
    rw [← getd_at (show 1 < (ranked l key).length by omega) default]; exact ranked_mem.1 (List.getElem_mem _)
  have eo := owner_eq q1
  have hk := owner_lt q2
  have hat := less_at (i := owner (less l at_) key) h ⟨hk.1, by omega⟩
  have t0 := top_of (l := l) (key := key) (k := 0) (by omega)
  have t1 := top_of (l := l) (key := key) (k := 1) (by omega)
  have htk : (ranked l key).take 1 = [(ranked l key).getD 0 default] := by
    rw [List.take_succ_eq_append_getElem (by omega), ← getd_at (show 0 < (ranked l key).length by omega) default]; rfl
  have hsig : sig at_ (owner (less l at_) key) = if (ranked l key).getD 0 default = at_ then (ranked l key).getD 1 default else (ranked l key).getD 0 default := by
    split
    · rename_i ea
      refine less_owner h q1 q2 b1 (fun e => t1.1 (by rw [htk, e, ← ea]; simp)) fun j h0 h1 hja hjb => t1.2 j h0 h1 (by rw [htk, ea]; simpa using hja) hjb
    · rename_i ea
      exact less_owner h q1 q2 b0 ea fun j h0 h1 hja hjb => t0.2 j h0 h1 (by simp) hjb
  have hd : differs l (less l at_) key = ((ranked l key).getD 0 default == at_) := by
    unfold differs
    rw [hat, hsig, eo]
    by_cases ea : (ranked l key).getD 0 default = at_
    · rw [if_pos ea, ea, beq_self_eq_true]
      have := names_inj hok (a := at_) (b := (ranked l key).getD 1 default) h b1 (fun e => t1.1 (by rw [htk, ea, e]; simp))
      rw [decide_eq_false this]; rfl
    · rw [if_neg ea, decide_eq_true rfl, beq_eq_false_iff_ne.2 ea]; rfl
  have hd2 : differs (less l at_) l key = differs l (less l at_) key := by
    unfold differs; congr 1; rw [decide_eq_decide]; exact eq_comm
  subst hkey
  refine ⟨hown.1, q2, by rw [hown.2, List.length_take]; omega, by rw [e0]; exact b0, by rw [e1]; exact b1, hk, by rw [hm, hd, e0], by rw [hn, hd2, hd, e0], fun ea => ?_, fun ea => ?_⟩
  · rw [e0] at ea
    rw [hat, hsig, if_pos ea, e1]
  · rw [e0] at ea
    rw [hat, hsig, if_neg ea, e0]
theorem mov_bad {l m : List DShard} {keys : List ByteArray} (h : movErr l m keys ≠ 0) : moved l m keys = [] := if_neg h
theorem min_bad {l m l2 m2 : List DShard} {ks k2 : List ByteArray} (h : ¬ movErr l m ks = 0 ∨ ¬ movErr l2 m2 k2 = 0) : (((((moved l m ks).length : Int) + ((moved l2 m2 k2).length : Int)) == 0) || (movErr l m ks != movErr l2 m2 k2)) = true := by
  by_cases h1 : movErr l m ks = 0
  · have h2 := h.resolve_left (fun q => q h1)
    rw [h1]
    simp only [Bool.or_eq_true, bne_iff_ne]; exact .inr (Ne.symm h2)
  · by_cases h2 : movErr l2 m2 k2 = 0
    · rw [h2]; simp only [Bool.or_eq_true, bne_iff_ne]; exact .inr h1
    · rw [mov_bad h1, mov_bad h2]; rfl
/-! ### a greater weight -/
def more (l : List DShard) (at_ : Int) : List DShard := l.set at_.toNat ⟨(l.getD at_.toNat default).name, (l.getD at_.toNat default).weight + 1⟩
theorem more_eq {l : List DShard} (h : Ok l) {at_ : Int} (ha : 0 ≤ at_ ∧ at_ < l.length) (hl : at_.toNat < l.length) : l.set at_.toNat (⟨(l[at_.toNat]).name, (IntKind.i64.wrap ((l[at_.toNat]).weight + 1))⟩ : DShard) = more l at_ := by
  have := h.at hl
  rw [more, wrap_i64 (by omega), ← getd_at hl default]
theorem score_more (s : DShard) (n : UInt64) {w : Int} (h : s.weight ≤ w) : ¬ score ⟨s.name, w⟩ n < score s n := by
  have key : ∀ k, scoreTo ⟨s.name, w⟩ n k = scoreTo s n k := by
    intro k
    induction k with
    | zero => rfl
    | succ k ih => simp only [scoreTo, ih]
  unfold score
  rw [key]
  obtain ⟨d, hd⟩ : ∃ d, w.toNat = s.weight.toNat + d := ⟨w.toNat - s.weight.toNat, by omega⟩
  rw [hd]
  clear hd
  induction d with
  | zero => simp
  | succ d ih =>
    rw [← Nat.add_assoc]
    simp only [scoreTo, mxU]
    split
    · rename_i h1
      simp only [UInt64.lt_iff_toNat_lt] at *
      omega
    · exact ih
theorem weight_law {l : List DShard} {key : ByteArray} {at_ : Int} (h : 0 ≤ at_ ∧ at_ < l.length) {m : List DShard} (hm : m = more l at_) (he : ownErr l key = 0) (hf : ownErr m key = 0) (hne : owner m key ≠ at_) : owner l key = owner m key := by
  have hlen : m.length = l.length := by rw [hm]; simp [more]
  have hb := owner_lt hf
  have hat : ∀ i : Int, 0 ≤ i → i < l.length → i ≠ at_ → m.getD i.toNat default = l.getD i.toNat default := fun i h0 h1 hi => by
    rw [hm, more, List.getD_eq_getElem?_getD, List.getElem?_set_ne (by omega), List.getD_eq_getElem?_getD]
  have hat2 : m.getD at_.toNat default = ⟨(l.getD at_.toNat default).name, (l.getD at_.toNat default).weight + 1⟩ := by
    rw [hm, more, List.getD_eq_getElem?_getD, List.getElem?_set_self (by omega)]; rfl
  refine own_of he hb.1 (by omega) fun j h0 h1 hj => ?_
  have h2 := own_top hf h0 (by omega) hj
  unfold R at h2 ⊢
  rw [hat _ hb.1 (by omega) hne] at h2
  by_cases ej : j = at_
  · subst ej
    rw [hat2] at h2
    have h3 := score_more (l.getD j.toNat default) (Hash.raw key) (w := (l.getD j.toNat default).weight + 1) (by omega)
    simp only [UInt64.lt_iff_toNat_lt, ← UInt64.toNat_inj] at *
    omega
  · rw [hat j h0 h1 ej] at h2; exact h2
end Go.Sx.Shd
