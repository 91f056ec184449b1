/- Shards: the order of scores, moves; the loops. -/
import Derived.Test.YthecfjipaepcgaaShPure
namespace Go.Sx.Shd
/-! ### the ranking -/
/-- a stands ahead of b -/
def R (l : List DShard) (n : UInt64) (a b : Int) : Prop := score (l.getD b.toNat default) n < score (l.getD a.toNat default) n ∨ (score (l.getD a.toNat default) n = score (l.getD b.toNat default) n ∧ a < b)
theorem R_trans {l : List DShard} {n : UInt64} (a b c : Int) (h1 : R l n a b) (h2 : R l n b c) : R l n a c := by
  unfold R at *
  simp only [UInt64.lt_iff_toNat_lt, ← UInt64.toNat_inj] at *
  omega
theorem R_irr {l : List DShard} {n : UInt64} (a : Int) : ¬ R l n a a := by
  unfold R
  simp only [UInt64.lt_iff_toNat_lt, ← UInt64.toNat_inj] at *
  omega
theorem R_total {l : List DShard} {n : UInt64} {a b : Int} (h : a ≠ b) : R l n a b ∨ R l n b a := by
  unfold R
  simp only [UInt64.lt_iff_toNat_lt, ← UInt64.toNat_inj] at *
  omega
theorem range_O (k : Nat) : ((List.range k).map Int.ofNat).Pairwise (· < ·) := by
  rw [List.pairwise_map]
  exact List.pairwise_lt_range.imp fun h => Int.ofNat_lt.2 h
theorem ranked_sorted (l : List DShard) (key : ByteArray) : (ranked l key).Pairwise (R l (Hash.raw key)) :=
  St.isort_sorted (O := (· < ·)) (fun a b c => R_trans a b c)
    (fun {x p} _ hn => by
      have := cmpU_neg.1 hn
      exact .inl this)
    (fun {x p} ho hn => by
      have h2 : ¬ _ := fun e => hn (cmpU_neg.2 e)
      unfold R
      simp only [UInt64.lt_iff_toNat_lt, ← UInt64.toNat_inj] at *
      omega) _ (range_O _)
theorem ranked_mem {l : List DShard} {key : ByteArray} {x : Int} : x ∈ ranked l key ↔ 0 ≤ x ∧ x < (l.length : Int) := by
  rw [ranked, St.isort_mem, List.mem_map]
  constructor
  · rintro ⟨i, hi, rfl⟩
    have := List.mem_range.1 hi
    exact ⟨Int.natCast_nonneg _, Int.ofNat_lt.2 this⟩
  · rintro ⟨h1, h2⟩
    exact ⟨x.toNat, List.mem_range.2 (by omega), by show ((x.toNat : Nat) : Int) = x; omega⟩
theorem side {l : List DShard} (h : Ok l) {out : List Int} {k : Nat} (e : out = (List.range k).map Int.ofNat) (hk : k ≤ l.length) : Ok l ∧ ∀ x ∈ out, 0 ≤ x ∧ x < (l.length : Int) := by
  refine ⟨h, fun x hx => ?_⟩
  rw [e, List.mem_map] at hx
  obtain ⟨i, hi, rfl⟩ := hx
  have := List.mem_range.1 hi
  exact ⟨Int.natCast_nonneg _, by show (i : Int) < _; omega⟩
theorem owner_eq {l : List DShard} {key : ByteArray} (h : ownErr l key = 0) : owner l key = (ranked l key).getD 0 default := if_pos h
theorem owner_lt {l : List DShard} {key : ByteArray} (h : ownErr l key = 0) : 0 ≤ owner l key ∧ owner l key < (l.length : Int) := by
  have h3 := (own_ok h).2.2
  have hl := ranked_len l key
  rw [owner_eq h, ← getd_at (show 0 < (ranked l key).length by omega) default]
  exact ranked_mem.1 (List.getElem_mem _)
/-! ### moves -/
theorem mv1 (l m : List DShard) {keys : List ByteArray} (h : 200 < (keys.length : Int)) : moved l m keys = [] ∧ movErr l m keys = 2 := by
  have e : movErr l m keys = 2 := if_pos h
  exact ⟨by unfold moved; rw [e]; rfl, e⟩
structure MI (l m : List DShard) (keys : List ByteArray) (out : List Int) (k : Nat) : Prop where
  le : k ≤ keys.length
  eq : firstErr l m (keys.drop k) = firstErr l m keys
  out : out = movTo l m keys k
theorem MI.start (l m : List DShard) (keys : List ByteArray) : MI l m keys [] 0 := ⟨Nat.zero_le _, rfl, rfl⟩
theorem movTo_len (l m : List DShard) (keys : List ByteArray) (k : Nat) : (movTo l m keys k).length ≤ k := by
  unfold movTo; rw [List.length_map]
  have := List.length_filter_le (fun i => differs l m (keys.getD i default)) (List.range k)
  simpa using this
theorem MI.len {l m : List DShard} {keys : List ByteArray} {out : List Int} {k : Nat} (h : MI l m keys out k) : out.length ≤ k := by rw [h.out]; exact movTo_len l m keys k
theorem first_step {l m : List DShard} {keys : List ByteArray} {k : Nat} (h : k < keys.length) : firstErr l m (keys.drop k) = if kerr l m (keys.getD k default) ≠ 0 then kerr l m (keys.getD k default) else firstErr l m (keys.drop (k + 1)) := by
  rw [List.drop_eq_getElem_cons h, firstErr, getd_at h default]
theorem kerr0 {l m : List DShard} {key : ByteArray} : kerr l m key = 0 ↔ ownErr l key = 0 ∧ ownErr m key = 0 := by
  unfold kerr; split <;> simp_all
theorem mv_bad {l m : List DShard} {keys : List ByteArray} (hn : (keys.length : Int) ≤ 200) {e : Int} (h : firstErr l m keys = e) (he : e ≠ 0) : moved l m keys = [] ∧ movErr l m keys = e := by
  have e1 : movErr l m keys = e := by unfold movErr; rw [if_neg (by omega), h]
  exact ⟨by unfold moved; rw [if_neg (by rw [e1]; exact he)], e1⟩
theorem MI.badl {l m : List DShard} {keys : List ByteArray} {out : List Int} {k : Nat} (h : MI l m keys out k) (hk : k < keys.length) (hn : (keys.length : Int) ≤ 200) (hb : ownErr l (keys.getD k default) ≠ 0) : moved l m keys = [] ∧ movErr l m keys = ownErr l (keys.getD k default) := by
  refine mv_bad hn ?_ hb
  rw [← h.eq, first_step hk]
  have e : kerr l m (keys.getD k default) = ownErr l (keys.getD k default) := if_pos hb
  rw [e, if_pos hb]
theorem MI.badm {l m : List DShard} {keys : List ByteArray} {out : List Int} {k : Nat} (h : MI l m keys out k) (hk : k < keys.length) (hn : (keys.length : Int) ≤ 200) (ha : ownErr l (keys.getD k default) = 0) (hb : ownErr m (keys.getD k default) ≠ 0) : moved l m keys = [] ∧ movErr l m keys = ownErr m (keys.getD k default) := by
  refine mv_bad hn ?_ hb
  rw [← h.eq, first_step hk]
  have e : kerr l m (keys.getD k default) = ownErr m (keys.getD k default) := if_neg (fun q => q ha)
  rw [e, if_pos hb]
theorem movTo_next (l m : List DShard) (keys : List ByteArray) (k : Nat) : movTo l m keys (k + 1) = movTo l m keys k ++ if differs l m (keys.getD k default) = true then [(k : Int)] else [] := by
  unfold movTo
  rw [List.range_succ, List.filter_append, List.map_append]
  congr 1
  by_cases h : differs l m (keys.getD k default) = true
  · rw [if_pos h, List.filter_cons_of_pos (p := fun i => differs l m (keys.getD i default)) h]; rfl
  · rw [if_neg h, List.filter_cons_of_neg (p := fun i => differs l m (keys.getD i default)) h]; rfl
theorem MI.add {l m : List DShard} {keys : List ByteArray} {out : List Int} {k : Nat} (h : MI l m keys out k) (hk : k < keys.length) (ha : ownErr l (keys.getD k default) = 0) (hb : ownErr m (keys.getD k default) = 0)
    (hd : ¬ (l.getD (owner l (keys.getD k default)).toNat default).name = (m.getD (owner m (keys.getD k default)).toNat default).name) : MI l m keys (out ++ [(k : Int)]) (k + 1) :=
  ⟨by omega, by rw [← h.eq, first_step hk, if_neg (fun q => q (kerr0.2 ⟨ha, hb⟩))], by rw [movTo_next, if_pos (by unfold differs; rw [decide_eq_false hd]; rfl), h.out]⟩
theorem MI.skip {l m : List DShard} {keys : List ByteArray} {out : List Int} {k : Nat} (h : MI l m keys out k) (hk : k < keys.length) (ha : ownErr l (keys.getD k default) = 0) (hb : ownErr m (keys.getD k default) = 0)
    (hd : (l.getD (owner l (keys.getD k default)).toNat default).name = (m.getD (owner m (keys.getD k default)).toNat default).name) : MI l m keys out (k + 1) :=
  ⟨by omega, by rw [← h.eq, first_step hk, if_neg (fun q => q (kerr0.2 ⟨ha, hb⟩))], by rw [movTo_next, if_neg (by unfold differs; rw [decide_eq_true hd]; simp), h.out, List.append_nil]⟩
theorem MI.done {l m : List DShard} {keys : List ByteArray} {out : List Int} {k : Nat} (h : MI l m keys out k) (hk : keys.length ≤ k) (hn : (keys.length : Int) ≤ 200) : moved l m keys = out ∧ movErr l m keys = 0 := by
  have e : movErr l m keys = 0 := by unfold movErr; rw [if_neg (by omega), ← h.eq, List.drop_of_length_le hk]; rfl
  refine ⟨?_, e⟩
  unfold moved; rw [if_pos e, h.out, show k = keys.length by have := h.le; omega]
end Go.Sx.Shd
