/- Bloom filters: the references, place by place. -/
import Derived.Test.YtfncgfcehkalnaaBlLaw
import Derived.Test.YtfncgfcehkalnaaLbPure
namespace Go.Sx.Bl
def upto (n : Nat) (p : Int → Bool) : List Int := ((List.range n).map Int.ofNat).filter p
theorem upto_mem {n : Nat} {p : Int → Bool} {x : Int} : x ∈ upto n p ↔ (0 ≤ x ∧ x < (n : Int)) ∧ p x = true := by
  unfold upto
  rw [List.mem_filter, List.mem_map]
  constructor
  · rintro ⟨⟨i, hi, rfl⟩, h⟩; have := List.mem_range.1 hi; exact ⟨⟨Int.natCast_nonneg i, by simpa using this⟩, h⟩
  · rintro ⟨h1, h2⟩; exact ⟨⟨x.toNat, List.mem_range.2 (by omega), by simp; omega⟩, h2⟩
theorem upto_up (n : Nat) (p : Int → Bool) : Up (upto n p) := by
  unfold Up upto
  refine List.Pairwise.filter _ ?_
  rw [List.pairwise_map]
  exact List.pairwise_lt_range.imp fun h => Int.ofNat_lt.2 h
theorem upto_len (n : Nat) (p : Int → Bool) : (upto n p).length ≤ n := by
  unfold upto; exact Nat.le_trans (List.length_filter_le _ _) (by simp)
theorem upto_succ (n : Nat) (p : Int → Bool) : upto (n + 1) p = upto n p ++ if p (n : Int) = true then [(n : Int)] else [] := by
  unfold upto
  rw [List.range_succ, List.map_append, List.filter_append]
  congr 1
  simp only [List.map_cons, List.map_nil, List.filter_cons, List.filter_nil]
  rfl
theorem up_t {n : Nat} {p : Int → Bool} {out : List Int} (h : out = upto n p) (hp : p (n : Int) = true) : out ++ [(n : Int)] = upto (n + 1) p := by rw [upto_succ, if_pos hp, h]
theorem up_f {n : Nat} {p : Int → Bool} {out : List Int} (h : out = upto n p) (hp : ¬ p (n : Int) = true) : out = upto (n + 1) p := by rw [upto_succ, if_neg hp, h, List.append_nil]
theorem place_eq {f : DFilter} {s : ByteArray} (hs : s.size ≤ 40) (i : Int) : place f s i = Hash.rawFold (Hash.mix (Hash.raw s ^^^ toU i)) f.size := by
  unfold place; rw [(Hash.sum_short (toU i) (by omega)).2.2]
theorem isp_t {f : DFilter} {s : ByteArray} {at_ : Int} (hs : s.size ≤ 40) {i : Nat} (hi : (i : Int) < f.hashes) (h : Hash.rawFold (Hash.mix (Hash.raw s ^^^ toU (i : Int))) f.size = at_) : true = decide (at_ ∈ places f s) :=
  (decide_eq_true (places_mem.2 ⟨i, hi, (place_eq hs _).trans h⟩)).symm
theorem isp_f {f : DFilter} {s : ByteArray} {at_ : Int} {i : Nat} (h : ∀ j : Nat, j < i → place f s (j : Int) ≠ at_) (hi : f.hashes ≤ (i : Int)) : false = decide (at_ ∈ places f s) := by
  refine (decide_eq_false fun hm => ?_).symm
  obtain ⟨j, hj, e⟩ := places_mem.1 hm
  exact h j (by omega) e
theorem isp_n {f : DFilter} {s : ByteArray} {at_ : Int} {i : Nat} (hs : s.size ≤ 40) (h : ∀ j : Nat, j < i → place f s (j : Int) ≠ at_) (hn : ¬ Hash.rawFold (Hash.mix (Hash.raw s ^^^ toU (i : Int))) f.size = at_) : ∀ j : Nat, j < i + 1 → place f s (j : Int) ≠ at_ := by
  intro j hj
  rcases Nat.lt_or_ge j i with h1 | h1
  · exact h j h1
  · rw [show j = i by omega, place_eq hs]; exact hn
theorem places_upto {f : DFilter} (h : Ok f) (s : ByteArray) {k : Nat} (hk : (k : Int) = f.size) : upto k (fun x => decide (x ∈ places f s)) = places f s := by
  refine up_eq (upto_up _ _) (once_up _) fun x => ?_
  rw [upto_mem, decide_eq_true_eq]
  exact ⟨fun q => q.2, fun q => ⟨by have := places_bd h q; omega, q⟩⟩
def lastAt (f : DFilter) (k : Nat) : Int := if k = 0 then -1 else f.set.getD ((k : Int) - 1).toNat default
theorem rc_next {f : DFilter} {k : Nat} (h : CkI f (lastAt f k) k) (hk : k < f.set.length) (hb : 0 ≤ f.set.getD k default ∧ f.set.getD k default ≤ f.size - 1) (hl : ¬ (0 < (k : Int) ∧ f.set.getD k default ≤ f.set.getD ((k : Int) - 1).toNat default)) : CkI f (lastAt f (k + 1)) (k + 1) := by
  have e : lastAt f (k + 1) = f.set[k] := by unfold lastAt; rw [if_neg (by omega), show (((k + 1 : Nat) : Int) - 1).toNat = k by omega, getd_at hk]
  rw [e]
  rw [← getd_at hk default] at hb hl
  refine h.next hk ⟨hb.1, by omega⟩ ?_
  unfold lastAt
  split
  · omega
  · rcases Int.lt_or_le (f.set.getD ((k : Int) - 1).toNat default) f.set[k] with h9 | h9
    · exact h9
    · exact absurd ⟨by omega, h9⟩ hl
theorem rc_bad {f : DFilter} {k : Nat} (h : CkI f (lastAt f k) k) (hk : k < f.set.length) (hb : ¬ (0 ≤ f.set.getD k default ∧ f.set.getD k default ≤ f.size - 1)) : 3 = scan f.size (-1) f.set := by
  rw [← getd_at hk default] at hb
  exact h.bad hk (by omega)
theorem rc_low {f : DFilter} {k : Nat} (h : CkI f (lastAt f k) k) (hk : k < f.set.length) (hb : 0 ≤ f.set.getD k default ∧ f.set.getD k default ≤ f.size - 1) (hl : 0 < (k : Int) ∧ f.set.getD k default ≤ f.set.getD ((k : Int) - 1).toNat default) : 4 = scan f.size (-1) f.set := by
  rw [← getd_at hk default] at hb hl
  refine h.low hk ⟨hb.1, by omega⟩ ?_
  unfold lastAt; rw [if_neg (by omega)]; exact hl.2
theorem bt1 {n a b : Int} (h : Ref.between n a b = true) : a ≤ n ∧ n ≤ b := by simpa [Ref.between] using h
theorem bt0 {n a b : Int} (h : Ref.between n a b = false) : ¬ (a ≤ n ∧ n ≤ b) := by
  intro q; rw [show Ref.between n a b = true by simp [Ref.between, q]] at h; cases h
theorem rg0 {f : DFilter} (h : Ref.between f.size 1 1024 = false ∨ Ref.between f.hashes 1 8 = false) : ((f.size < 1 ∨ 1024 < f.size) ∨ f.hashes < 1) ∨ 8 < f.hashes := by
  rcases h with h | h <;> have := bt0 h <;> omega
theorem rg1 {f : DFilter} (h : Ref.between f.size 1 1024 = true ∧ Ref.between f.hashes 1 8 = true) : ((1 ≤ f.size ∧ f.size ≤ 1024) ∧ 1 ≤ f.hashes) ∧ f.hashes ≤ 8 := by
  have h1 := bt1 h.1; have h2 := bt1 h.2; omega
/-! ### the law of the results -/
def both (a b : List Int) (size : Int) : List Int := upto size.toNat fun x => Ref.hasInt a x || Ref.hasInt b x
def half (f : DFilter) : List Int := upto (f.size.tdiv 2).toNat fun x => Ref.hasInt f.set (2 * x) || Ref.hasInt f.set (2 * x + 1)
theorem has {l : List Int} {n : Int} : Ref.hasInt l n = true ↔ n ∈ l := by simp [Ref.hasInt]
theorem both_eq {a b : List Int} {size : Int} (ha : ∀ x ∈ a, 0 ≤ x ∧ x < size) (hb : ∀ x ∈ b, 0 ≤ x ∧ x < size) : both a b size = once (a ++ b) := by
  refine up_eq (upto_up _ _) (once_up _) fun x => ?_
  rw [both, upto_mem, Bool.or_eq_true, has, has, once_mem, List.mem_append]
  refine ⟨fun q => q.2, fun q => ⟨?_, q⟩⟩
  rcases q with q | q
  · have := ha x q; omega
  · have := hb x q; omega
theorem half_eq {f : DFilter} (h : Ok f) (he : f.size.tmod 2 = 0) : half f = once (f.set.map fun x => x.tdiv 2) := by
  have h1 : f.size.tmod 2 = f.size % 2 := Int.tmod_eq_emod_of_nonneg (by have := h.size; omega)
  have h2 : f.size.tdiv 2 = f.size / 2 := Int.tdiv_eq_ediv_of_nonneg (by have := h.size; omega)
  refine up_eq (upto_up _ _) (once_up _) fun x => ?_
  rw [half, upto_mem, Bool.or_eq_true, has, has, once_mem, List.mem_map, h2]
  constructor
  · rintro ⟨h3, h4⟩
    rcases h4 with h4 | h4
    · exact ⟨_, h4, by rw [Int.tdiv_eq_ediv_of_nonneg (by omega)]; omega⟩
    · exact ⟨_, h4, by rw [Int.tdiv_eq_ediv_of_nonneg (by omega)]; omega⟩
  · rintro ⟨y, hy, rfl⟩
    have hb := h.bd y hy
    rw [Int.tdiv_eq_ediv_of_nonneg hb.1]
    refine ⟨by omega, ?_⟩
    rcases Int.emod_two_eq y with e | e
    · left; rw [show 2 * (y / 2) = y by omega]; exact hy
    · right; rw [show 2 * (y / 2) + 1 = y by omega]; exact hy
theorem may_same {f : DFilter} {s : ByteArray} (h : keyErr f s = 0) : Ref.sameInts (once (f.set ++ places f s)) f.set = may f s := by
  have ho := (key_ok h).1
  rw [may_ok h, Bool.eq_iff_iff]
  simp only [Ref.sameInts, decide_eq_true_eq, Bool.not_eq_true', List.any_eq_false, Bool.not_eq_true', decide_eq_false_iff_not, Classical.not_not]
  constructor
  · intro e x hx; rw [← e, once_mem]; simp [hx]
  · intro e
    refine up_eq (once_up _) ho.up fun x => ?_
    rw [once_mem, List.mem_append]
    exact ⟨fun q => q.elim id (e x), .inl⟩
theorem sA0 {a : DFilter} (s : ByteArray) (h : check a ≠ 0) : check a = keyErr a s ∧ [] = bits a s ∧ zero = add a s ∧ false = may a s := by
  have e := ke1 s h
  have e2 : keyErr a s ≠ 0 := by rw [← e]; exact h
  exact ⟨e, (bits_bad e2).symm, (add_bad e2).symm, (may_bad e2).symm⟩
theorem sA1 {a : DFilter} {s : ByteArray} (h : check a = 0) (hs : 40 < s.size) : 2 = keyErr a s ∧ [] = bits a s ∧ zero = add a s ∧ false = may a s := by
  have e : 2 = keyErr a s := (if_pos hs).symm.trans (ke2 (s := s) h)
  have e2 : keyErr a s ≠ 0 := by rw [← e]; decide
  exact ⟨e, (bits_bad e2).symm, (add_bad e2).symm, (may_bad e2).symm⟩
theorem sA2 {a : DFilter} {s : ByteArray} (h : check a = 0) (hs : s.size ≤ 40) : check a = keyErr a s ∧ places a s = bits a s ∧ (⟨a.size, a.hashes, both a.set (places a s) a.size⟩ : DFilter) = add a s ∧ Ref.sameInts (both a.set (places a s) a.size) a.set = may a s := by
  have ho := check_ok.1 h
  have e := key_of ho hs
  rw [both_eq ho.bd fun x hx => places_bd ho hx]
  exact ⟨h.trans e.symm, (bits_ok e).symm, (add_ok e).symm, may_same e⟩
theorem sB0 {a : DFilter} (b : DFilter) (h : check a ≠ 0) : check a = uniErr a b ∧ zero = uni a b := ⟨(ue1 h).2.symm, (ue1 h).1.symm⟩
theorem sB1 {a b : DFilter} (h : check a = 0) (h2 : check b ≠ 0) : check b = uniErr a b ∧ zero = uni a b := ⟨(ue2 h h2).2.symm, (ue2 h h2).1.symm⟩
theorem sB2 {a b : DFilter} (h : check a = 0) (h2 : check b = 0) (h3 : ¬ a.size = b.size ∨ ¬ a.hashes = b.hashes) : 7 = uniErr a b ∧ zero = uni a b := ⟨(ue3 h h2 h3).2.symm, (ue3 h h2 h3).1.symm⟩
theorem sB3 {a b : DFilter} (h : check a = 0) (h2 : check b = 0) (h3 : a.size = b.size ∧ a.hashes = b.hashes) : check b = uniErr a b ∧ (⟨a.size, a.hashes, both a.set b.set a.size⟩ : DFilter) = uni a b := by
  rw [both_eq (check_ok.1 h).bd fun x hx => by rw [h3.1]; exact (check_ok.1 h2).bd x hx]
  exact ⟨h2.trans (ue4 h h2 h3).2.symm, (ue4 h h2 h3).1.symm⟩
theorem sC0 {a : DFilter} (h : check a ≠ 0) : check a = foldErr a ∧ zero = fold a := ⟨(fe1 h).2.symm, (fe1 h).1.symm⟩
theorem sC1 {a : DFilter} (h : check a = 0) (h2 : a.size.tmod 2 = 1) : 4 = foldErr a ∧ zero = fold a := ⟨(fe2 h (by omega)).2.symm, (fe2 h (by omega)).1.symm⟩
theorem sC2 {a : DFilter} (h : check a = 0) (h2 : ¬ a.size.tmod 2 = 1) : check a = foldErr a ∧ (⟨a.size.tdiv 2, a.hashes, half a⟩ : DFilter) = fold a := by
  have ho := check_ok.1 h
  have h1 : a.size.tmod 2 = a.size % 2 := Int.tmod_eq_emod_of_nonneg (by have := ho.size; omega)
  have h3 : a.size.tmod 2 = 0 := by omega
  rw [half_eq ho h3]
  exact ⟨h.trans (fe3 h h3).2.symm, (fe3 h h3).1.symm⟩
end Go.Sx.Bl
