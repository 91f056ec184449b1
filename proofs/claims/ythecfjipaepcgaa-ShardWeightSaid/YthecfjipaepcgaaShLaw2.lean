/- Shards: the references' loops; removed shards and greater weights. -/
import Derived.Test.YthecfjipaepcgaaShLaw
namespace Go.Sx.Shd
/-! ### the reference's check -/
structure KI (l : List DShard) (i k : Nat) : Prop where
  le : k ≤ i
  no : ∀ j, j < k → (l.getD j default).name ≠ (l.getD i default).name
theorem KI.start (l : List DShard) (i : Nat) : KI l i 0 := ⟨Nat.zero_le _, fun _ h => absurd h (by omega)⟩
theorem KI.next {l : List DShard} {i k : Nat} (h : KI l i k) (hk : k < i) (hn : ¬ (l.getD k default).name = (l.getD i default).name) : KI l i (k + 1) :=
  ⟨hk, fun j hj => by rcases Nat.lt_or_ge j k with h2 | h2; exact h.no j h2; (have e : j = k := by omega); rw [e]; exact hn⟩
theorem mem_names {l : List DShard} {i : Nat} (hi : i ≤ l.length) {s : ByteArray} : s ∈ names (l.take i) ↔ ∃ j, j < i ∧ (l.getD j default).name = s := by
  unfold names
  rw [List.mem_map]
  constructor
  · rintro ⟨x, hx, rfl⟩
    obtain ⟨j, hj, rfl⟩ := List.getElem_of_mem hx
    rw [List.length_take] at hj
    exact ⟨j, by omega, by rw [List.getElem_take, ← getd_at (show j < l.length by omega) default]⟩
  · rintro ⟨j, hj, rfl⟩
    refine ⟨l.getD j default, ?_, rfl⟩
    rw [← getd_at (show j < l.length by omega) default]
    exact List.mem_iff_getElem.2 ⟨j, by rw [List.length_take]; omega, by rw [List.getElem_take]⟩
theorem CI.twice2 {l : List DShard} {i k : Nat} (h : CI l i) (hi : i < l.length) (hn : (l.length : Int) ≤ 20) (hb : one (l.getD i default) = 0) (hk : k < i) (ht : (l.getD k default).name = (l.getD i default).name) : 6 = check l := by
  rw [← getd_at hi default] at hb ht
  exact h.twice hi hn hb ((mem_names (by omega)).2 ⟨k, hk, ht⟩)
theorem CI.next2 {l : List DShard} {i k : Nat} (h : CI l i) (hi : i < l.length) (hb : one (l.getD i default) = 0) (hk : KI l i k) (hik : i ≤ k) : CI l (i + 1) := by
  rw [← getd_at hi default] at hb
  refine h.next hi hb fun hm => ?_
  obtain ⟨j, hj, e⟩ := (mem_names (by omega)).1 hm
  exact hk.no j (by omega) (by rw [e, getd_at hi default])
theorem CI.bad2 {l : List DShard} {i : Nat} (h : CI l i) (hi : i < l.length) (hn : (l.length : Int) ≤ 20) (hb : one (l.getD i default) ≠ 0) : one (l.getD i default) = check l := by
  rw [← getd_at hi default] at hb ⊢
  exact h.bad hi hn hb
theorem between1 {n a b : Int} (h : Ref.between n a b = true) : a ≤ n ∧ n ≤ b := by simpa [Ref.between] using h
theorem between0 {n a b : Int} (h : Ref.between n a b = false) : n < a ∨ b < n := by
  simp only [Ref.between, Bool.and_eq_false_iff, decide_eq_false_iff_not] at h; omega
/-! ### the reference's ranking -/
structure PI (l : List DShard) (n : UInt64) (out : List Int) (best : Int) (i : Nat) : Prop where
  le : i ≤ l.length
  lo : -1 ≤ best
  hi : best < i
  all : best < 0 → ∀ j : Nat, j < i → (j : Int) ∈ out
  top : 0 ≤ best → best ∉ out ∧ ∀ j : Nat, j < i → (j : Int) ∉ out → (j : Int) ≠ best → R l n best j
theorem PI.start (l : List DShard) (n : UInt64) (out : List Int) : PI l n out (-1) 0 := ⟨Nat.zero_le _, by omega, by omega, fun _ j h => absurd h (by omega), fun h => absurd h (by omega)⟩
theorem PI.take_ {l : List DShard} {n : UInt64} {out : List Int} {best : Int} {i : Nat} (h : PI l n out best i) (hi : i < l.length) (hno : Ref.hasInt out (i : Int) = false) (hb : best < 0 ∨ score (l.getD best.toNat default) n < score (l.getD i default) n) : PI l n out (i : Int) (i + 1) := by
  have hni : (i : Int) ∉ out := of_decide_eq_false hno
  refine ⟨by omega, by omega, by omega, fun h0 => absurd h0 (by omega), fun _ => ⟨hni, fun j hj hjo hne => ?_⟩⟩
  have hji : j < i := by omega
  rcases Int.lt_or_le best 0 with h0 | h0
  · exact absurd (h.all h0 j hji) hjo
  · have h1 : R l n i best := .inl (by simpa using hb.resolve_left (by omega))
    by_cases e : (j : Int) = best
    · rw [e]; exact h1
    · exact R_trans _ _ _ h1 ((h.top h0).2 j hji hjo e)
theorem PI.skip {l : List DShard} {n : UInt64} {out : List Int} {best : Int} {i : Nat} (h : PI l n out best i) (hi : i < l.length) (hs : Ref.hasInt out (i : Int) = true ∨ (0 ≤ best ∧ ¬ score (l.getD best.toNat default) n < score (l.getD i default) n)) : PI l n out best (i + 1) := by
  refine ⟨by omega, h.lo, by have := h.hi; omega, fun h0 j hj => ?_, fun h0 => ⟨(h.top h0).1, fun j hj hjo hne => ?_⟩⟩
  · rcases Nat.lt_or_ge j i with h1 | h1
    · exact h.all h0 j h1
    · obtain rfl : j = i := by omega
      rcases hs with hs | hs
      · exact of_decide_eq_true hs
      · omega
  · rcases Nat.lt_or_ge j i with h1 | h1
    · exact (h.top h0).2 j h1 hjo hne
    · obtain rfl : j = i := by omega
      rcases hs with hs | hs
      · exact absurd (of_decide_eq_true hs) hjo
      · have h2 := hs.2; have h3 := h.hi
        unfold R
        simp only [Int.toNat_natCast, UInt64.lt_iff_toNat_lt, ← UInt64.toNat_inj] at *
        omega
theorem ranked_nodup (l : List DShard) (key : ByteArray) : (ranked l key).Nodup := (ranked_sorted l key).imp fun {a b} h e => by subst e; exact R_irr _ h
/-- who stands at place k of the ranking -/
theorem ranked_at {l : List DShard} {key : ByteArray} {k : Nat} (hk : k < l.length) {b : Int} (h0 : 0 ≤ b) (hb : b < l.length) (hn : b ∉ (ranked l key).take k) (ht : ∀ j : Nat, j < l.length → (j : Int) ∉ (ranked l key).take k → (j : Int) ≠ b → R l (Hash.raw key) b j) : (ranked l key).getD k default = b := by
  have hl := ranked_len l key
  have hk' : k < (ranked l key).length := by omega
  rw [← getd_at hk' default]
  have hs := List.pairwise_iff_getElem.1 (ranked_sorted l key)
  have hm := ranked_mem.1 (List.getElem_mem hk')
  have hnot : (ranked l key)[k] ∉ (ranked l key).take k := fun h => by
    obtain ⟨j, hj, e⟩ := List.mem_iff_getElem.1 h
    rw [List.length_take] at hj
    rw [List.getElem_take] at e
    have := hs j k (by omega) hk' (by omega)
    rw [e] at this; exact R_irr _ this
  by_cases e : (ranked l key)[k] = b
  · exact e
  · exfalso
    have h1 := ht (ranked l key)[k].toNat (by omega) (by rw [show (((ranked l key)[k].toNat : Nat) : Int) = (ranked l key)[k] by omega]; exact hnot) (by omega)
    rw [show (((ranked l key)[k].toNat : Nat) : Int) = (ranked l key)[k] by omega] at h1
    obtain ⟨q, hq, e2⟩ := List.mem_iff_getElem.1 (ranked_mem.2 ⟨h0, hb⟩)
    have hqk : k < q := by
      rcases Nat.lt_trichotomy q k with h2 | h2 | h2
      · exact absurd (List.mem_iff_getElem.2 ⟨q, by rw [List.length_take]; omega, by rw [List.getElem_take]; exact e2⟩) hn
      · subst h2; exact absurd e2 e
      · exact h2
    have h2 := hs k q hk' hq hqk
    rw [e2] at h2
    exact R_irr _ (R_trans _ _ _ h1 h2)
structure SI (l : List DShard) (key : ByteArray) (many : Int) (out : List Int) : Prop where
  le : (out.length : Int) ≤ many
  eq : out = (ranked l key).take out.length
theorem SI.start {l : List DShard} {key : ByteArray} {many : Int} (h : 1 ≤ many) : SI l key many [] := ⟨by simp; omega, by simp⟩
theorem SI.next {l : List DShard} {key : ByteArray} {many : Int} {out : List Int} {best : Int} {i : Nat} (h : SI l key many out) (hl : (out.length : Int) < many) (hm : many ≤ (l.length : Int)) (hp : PI l (Hash.raw key) out best i) (hi : l.length ≤ i) : SI l key many (out ++ [best]) := by
  have hrl := ranked_len l key
  have h0 : 0 ≤ best := by
    rcases Int.lt_or_le best 0 with h1 | h1
    · exfalso
      have h2 := hp.all h1
      have h3 : ∀ x ∈ ranked l key, x ∈ (ranked l key).take out.length := fun x hx => by
        have := ranked_mem.1 hx
        have h4 := h2 x.toNat (by omega)
        rw [show ((x.toNat : Nat) : Int) = x by omega, h.eq] at h4
        simpa using h4
      have h4 := h3 _ (List.getElem_mem (show out.length < (ranked l key).length by omega))
      obtain ⟨j, hj, e⟩ := List.mem_iff_getElem.1 h4
      rw [List.length_take] at hj
      rw [List.getElem_take] at e
      have h5 := List.pairwise_iff_getElem.1 (ranked_nodup l key) j out.length (by omega) (by omega) (by omega)
      exact h5 e
    · exact h1
  have hb := hp.hi; have hle := hp.le
  have e := ranked_at (k := out.length) (key := key) (by omega) h0 (by omega) (by rw [← h.eq]; exact (hp.top h0).1) (fun j hj hjo hne => (hp.top h0).2 j (by omega) (by rw [h.eq]; exact hjo) hne)
  refine ⟨by simp; omega, ?_⟩
  rw [List.length_append, List.length_singleton, List.take_succ_eq_append_getElem (by omega), getd_at (show out.length < (ranked l key).length by omega) default, e, ← h.eq]
theorem SI.done {l : List DShard} {key : ByteArray} {many : Int} {out : List Int} (h : SI l key many out) (hl : many ≤ (out.length : Int)) : out = (ranked l key).take many.toNat := by
  have := h.le
  rw [show many.toNat = out.length by omega]; exact h.eq
/-! ### the law of all functions -/
theorem take1 {l : List DShard} {key : ByteArray} (h : 0 < l.length) : ((ranked l key).take (1 : Int).toNat).getD 0 default = (ranked l key).getD 0 default := by
  have := ranked_len l key
  rw [← getd_at (show 0 < ((ranked l key).take (1 : Int).toNat).length by rw [List.length_take]; omega) default, List.getElem_take, getd_at (show 0 < (ranked l key).length by omega) default]
theorem take_len {l : List DShard} {key : ByteArray} (h : 0 < l.length) : ((ranked l key).take (1 : Int).toNat).length = 1 := by
  rw [List.length_take, ranked_len]; omega
theorem sp_bad {l : List DShard} {key : ByteArray} {many : Int} (h : ownErr l key ≠ 0) : 0 = owner l key ∧ ownErr l key = ownsErr l key many ∧ [] = owners l key many := by
  refine ⟨(if_neg h).symm, ?_⟩
  rcases ow_cases l key many with ⟨_, b, c⟩ | ⟨a, _⟩ | ⟨a, _⟩
  · exact ⟨b.symm, c.symm⟩
  · exact absurd a h
  · exact absurd a h
theorem sp_range {l : List DShard} {key : ByteArray} {many : Int} (h : ownErr l key = 0) (h2 : many < 1 ∨ (l.length : Int) < many) : ((ranked l key).take (1 : Int).toNat).getD 0 default = owner l key ∧ 3 = ownsErr l key many ∧ [] = owners l key many := by
  refine ⟨(take1 (own_ok h).2.2).trans (owner_eq h).symm, ?_⟩
  rcases ow_cases l key many with ⟨a, _⟩ | ⟨_, _, b, c⟩ | ⟨_, a, _⟩
  · exact absurd h a
  · exact ⟨b.symm, c.symm⟩
  · omega
theorem sp_good {l : List DShard} {key : ByteArray} {many : Int} (h : ownErr l key = 0) (h2 : 1 ≤ many ∧ many ≤ (l.length : Int)) : ((ranked l key).take (1 : Int).toNat).getD 0 default = owner l key ∧ ownErr l key = ownsErr l key many ∧ (ranked l key).take many.toNat = owners l key many := by
  refine ⟨(take1 (own_ok h).2.2).trans (owner_eq h).symm, ?_⟩
  rcases ow_cases l key many with ⟨a, _⟩ | ⟨_, a, _⟩ | ⟨_, _, b, c⟩
  · exact absurd h a
  · omega
  · exact ⟨by rw [b]; exact h, c.symm⟩
theorem sc_hi {s : DShard} {key best : UInt64} {k : Nat} (h : best = scoreTo s key k) (hn : best < Hash.mix (key ^^^ Hash.mix (Hash.raw s.name ^^^ toU (k : Int)))) : Hash.mix (key ^^^ Hash.mix (Hash.raw s.name ^^^ toU (k : Int))) = scoreTo s key (k + 1) := by
  rw [scoreTo, ← h, mxU, if_pos hn]
theorem sc_lo {s : DShard} {key best : UInt64} {k : Nat} (h : best = scoreTo s key k) (hn : ¬ best < Hash.mix (key ^^^ Hash.mix (Hash.raw s.name ^^^ toU (k : Int)))) : best = scoreTo s key (k + 1) := by
  rw [scoreTo, ← h, mxU, if_neg hn]
theorem oe1b {l : List DShard} {key : ByteArray} (h : ¬ check l = 0) (h2 : (0 : Int) = 0) : check l = ownErr l key := oe1 key h
theorem oe5 {l : List DShard} {key : ByteArray} (h : ¬ check l = 0 ∨ (key.size : Int) ≤ 40) (h2 : ¬ check l = 0 ∨ ¬ (l.length : Int) = 0) : check l = ownErr l key := by
  by_cases hc : check l = 0
  · rw [hc]; exact oe4 hc (h.resolve_left (fun q => q hc)) (h2.resolve_left (fun q => q hc))
  · exact oe1 key hc
theorem skip_of {out : List Int} {i : Nat} {best : Int} {a b : UInt64} (h : Ref.hasInt out (i : Int) = true ∨ (0 ≤ best ∧ ¬ a < b)) : Ref.hasInt out (i : Int) = true ∨ (0 ≤ best ∧ ¬ a < b) := h
theorem take_bd {l : List DShard} {key : ByteArray} (h : ownErr l key = 0) : 0 ≤ ((ranked l key).take (1 : Int).toNat).getD 0 default ∧ ((ranked l key).take (1 : Int).toNat).getD 0 default < (l.length : Int) := by
  rw [take1 (own_ok h).2.2, ← owner_eq h]; exact owner_lt h
/-! ### the law of moves -/
inductive WI (l m : List DShard) (keys : List ByteArray) (mv : List Int) (w : Int) (i : Nat) : Prop where
  | go (h0 : w = 0) (hn : (keys.length : Int) ≤ 200) (h : MI l m keys mv i) : WI l m keys mv w i
  | bad (h0 : w ≠ 0) (h1 : movErr l m keys = w) (hl : mv.length ≤ i) (hi : i ≤ keys.length) : WI l m keys mv w i
theorem WI.start (l m : List DShard) {keys : List ByteArray} (h : (keys.length : Int) ≤ 200) : WI l m keys [] 0 0 := .go rfl h (MI.start l m keys)
theorem WI.many (l m : List DShard) {keys : List ByteArray} (h : 200 < (keys.length : Int)) : WI l m keys [] 2 0 := .bad (by decide) (mv1 l m h).2 (Nat.le_refl _) (Nat.zero_le _)
theorem WI.len {l m : List DShard} {keys : List ByteArray} {mv : List Int} {w : Int} {i : Nat} (h : WI l m keys mv w i) : mv.length ≤ i := by
  rcases h with ⟨_, _, h⟩ | ⟨_, _, h, _⟩
  · exact h.len
  · exact h
theorem WI.le {l m : List DShard} {keys : List ByteArray} {mv : List Int} {w : Int} {i : Nat} (h : WI l m keys mv w i) : i ≤ keys.length := by
  rcases h with ⟨_, _, h⟩ | ⟨_, _, _, h⟩
  · exact h.le
  · exact h
theorem WI.mi {l m : List DShard} {keys : List ByteArray} {mv : List Int} {w : Int} {i : Nat} (h : WI l m keys mv w i) (hw : w = 0) : MI l m keys mv i ∧ (keys.length : Int) ≤ 200 := by
  rcases h with ⟨_, a, h⟩ | ⟨h, _, _, _⟩
  · exact ⟨h, a⟩
  · exact absurd hw h
theorem take_own {l : List DShard} {key : ByteArray} (h : ownErr l key = 0) : ((ranked l key).take (1 : Int).toNat).getD 0 default = owner l key := (take1 (own_ok h).2.2).trans (owner_eq h).symm
theorem wadd {l m : List DShard} {keys : List ByteArray} {mv : List Int} {i : Nat} (h : MI l m keys mv i ∧ (keys.length : Int) ≤ 200) {w : Int} (hw : w = 0) (hi : i < keys.length) (hA : ownErr l (keys.getD i default) = 0) (hB : ownErr m (keys.getD i default) = 0)
    (hd : ¬ (l.getD (((ranked l (keys.getD i default)).take (1 : Int).toNat).getD 0 default).toNat default).name = (m.getD (((ranked m (keys.getD i default)).take (1 : Int).toNat).getD 0 default).toNat default).name) : WI l m keys (mv ++ [(i : Int)]) w (i + 1) := by
  rw [take_own hA, take_own hB] at hd
  exact .go hw h.2 (h.1.add hi hA hB hd)
theorem wskip {l m : List DShard} {keys : List ByteArray} {mv : List Int} {i : Nat} (h : MI l m keys mv i ∧ (keys.length : Int) ≤ 200) {w : Int} (hw : w = 0) (hi : i < keys.length) (hA : ownErr l (keys.getD i default) = 0) (hB : ownErr m (keys.getD i default) = 0)
    (hd : (l.getD (((ranked l (keys.getD i default)).take (1 : Int).toNat).getD 0 default).toNat default).name = (m.getD (((ranked m (keys.getD i default)).take (1 : Int).toNat).getD 0 default).toNat default).name) : WI l m keys mv w (i + 1) := by
  rw [take_own hA, take_own hB] at hd
  exact .go hw h.2 (h.1.skip hi hA hB hd)
theorem wbadl {l m : List DShard} {keys : List ByteArray} {mv : List Int} {i : Nat} (h : MI l m keys mv i ∧ (keys.length : Int) ≤ 200) (hi : i < keys.length) (hA : ownErr l (keys.getD i default) ≠ 0) : WI l m keys mv (ownErr l (keys.getD i default)) (i + 1) :=
  .bad hA (h.1.badl hi h.2 hA).2 (by have := h.1.len; omega) (by omega)
theorem wbadm {l m : List DShard} {keys : List ByteArray} {mv : List Int} {i : Nat} (h : MI l m keys mv i ∧ (keys.length : Int) ≤ 200) (hi : i < keys.length) (hA : ownErr l (keys.getD i default) = 0) (hB : ownErr m (keys.getD i default) ≠ 0) : WI l m keys mv (ownErr m (keys.getD i default)) (i + 1) :=
  .bad hB (h.1.badm hi h.2 hA hB).2 (by have := h.1.len; omega) (by omega)
theorem kerr_m {l m : List DShard} {key : ByteArray} (h : ownErr l key = 0) : ownErr m key = kerr l m key := (if_neg (fun q => q h)).symm
theorem kerr_l {l m : List DShard} {key : ByteArray} (h : ¬ ownErr l key = 0) : ownErr l key = kerr l m key := (if_pos h).symm
theorem wbad {l m : List DShard} {keys : List ByteArray} {mv : List Int} {i : Nat} (h : MI l m keys mv i ∧ (keys.length : Int) ≤ 200) (hi : i < keys.length) {w : Int} (e : w = kerr l m (keys.getD i default)) (hw : ¬ w = 0) : WI l m keys mv w (i + 1) := by
  by_cases h1 : ownErr l (keys.getD i default) = 0
  · rw [← kerr_m h1] at e; rw [e] at hw ⊢; exact wbadm h hi h1 hw
  · rw [← kerr_l h1] at e; rw [e] at hw ⊢; exact wbadl h hi h1
theorem kerr_ok {l m : List DShard} {key : ByteArray} {w : Int} (e : w = kerr l m key) (h : w = 0) : ownErr l key = 0 ∧ ownErr m key = 0 := kerr0.1 (e ▸ h)
theorem WI.fin_bad {l m : List DShard} {keys : List ByteArray} {mv : List Int} {w : Int} {i : Nat} (h : WI l m keys mv w i) (hw : w ≠ 0) : moved l m keys = [] ∧ movErr l m keys = w := by
  rcases h with ⟨h, _, _⟩ | ⟨_, h, _, _⟩
  · exact absurd h hw
  · exact ⟨by unfold moved; rw [if_neg (by rw [h]; exact hw)], h⟩
theorem WI.fin_ok {l m : List DShard} {keys : List ByteArray} {mv : List Int} {w : Int} {i : Nat} (h : WI l m keys mv w i) (hw : w = 0) (hi : keys.length ≤ i) : moved l m keys = mv ∧ movErr l m keys = 0 := by
  have h1 := h.mi hw
  exact h1.1.done hi h1.2
end Go.Sx.Shd
