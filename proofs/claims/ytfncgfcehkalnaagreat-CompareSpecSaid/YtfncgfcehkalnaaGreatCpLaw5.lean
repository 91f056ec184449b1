/- A comparison of policies: the law of all functions, loop by loop. -/
import Derived.Test.YtfncgfcehkalnaaGreatCpLaw3M2
namespace Go.Sx.Cmp
theorem cj3 {l : List Int} {room n w : Int} (hw : w = check l room) (h : w = 0 ∧ (n < 1 ∨ 5 < n)) : 7 = roomE l room n := re1 ⟨hw ▸ h.1, by
  cases e : okPol n
  · rfl
  · have := pol_ok e; omega⟩
theorem cj4 {l : List Int} {room n w : Int} (hw : w = check l room) (h : ¬ w = 0 ∨ (1 ≤ n ∧ n ≤ 5)) : w = roomE l room n := hw.trans (re2 (h.imp (fun q e => q (hw.trans e)) fun q => by simp [okPol]; exact q))
theorem hits_next {l out : List Int} {room k : Int} (h : out = (List.range (k - 1).toNat).map (fun i : Nat => by_ l room ((i : Int) + 1))) (hk : 1 ≤ k) : out ++ [by_ l room k] = (List.range (k + 1 - 1).toNat).map (fun i : Nat => by_ l room ((i : Int) + 1)) := by
  rw [h, show (k + 1 - 1).toNat = (k - 1).toNat + 1 by omega, List.range_succ, List.map_append]
  congr 1
  simp only [List.map_cons, List.map_nil]
  rw [show (((k - 1).toNat : Nat) : Int) + 1 = k by omega]
theorem hits_end {l out : List Int} {room k w : Int} (hw : w = check l room) (h1 : 1 ≤ k) (h2 : k ≤ 6) (h3 : w ≠ 0 → k = 1) (h4 : out = (List.range (k - 1).toNat).map (fun i : Nat => by_ l room ((i : Int) + 1))) (hst : 5 < k ∨ ¬ w = 0) : out = hits l room := by
  by_cases h : w = 0
  · rw [hits_ok (hw ▸ h), h4, show (k - 1).toNat = 5 by omega]
  · rw [hits_bad (hw ▸ h), h4, h3 h]; rfl
theorem chk_of {l q : List Int} {room : Int} (h : q = hits l room) (hl : 0 < q.length) : check l room = 0 := by
  by_cases e : check l room = 0
  · exact e
  · rw [h, hits_bad e] at hl; simp at hl
theorem len_le {l q : List Int} {room : Int} (h : q = hits l room) : q.length ≤ 5 := by
  by_cases e : check l room = 0
  · rw [h, hits_len e]; exact Nat.le_refl _
  · rw [h, hits_bad e]; exact Nat.zero_le _
theorem rank_mem {l : List Int} {room : Int} (h : check l room = 0) {x : Int} : x ∈ rank l room ↔ 1 ≤ x ∧ x ≤ 5 := by
  rw [rank_ok h, St.isort_mem, List.mem_map]
  constructor
  · rintro ⟨i, hi, rfl⟩
    have := List.mem_range.1 hi; omega
  · rintro ⟨h1, h2⟩
    exact ⟨(x - 1).toNat, List.mem_range.2 (by omega), by omega⟩
theorem R_irr {q : List Int} (a : Int) : ¬ R q a a := by unfold R; omega
theorem R_trans {q : List Int} {a b c : Int} (h1 : R q a b) (h2 : R q b c) : R q a c := by unfold R at *; omega
structure OrdI (l : List Int) (room : Int) (q order : List Int) : Prop where
  le : order.length ≤ q.length
  eq : order = (rank l room).take order.length
theorem OrdI.start (l : List Int) (room : Int) (q : List Int) : OrdI l room q [] := ⟨Nat.zero_le _, by simp⟩
structure PI (q order : List Int) (best k : Int) : Prop where
  lo : 1 ≤ k
  hi : k ≤ 6
  b0 : 0 ≤ best
  b1 : best < k
  all : best = 0 → ∀ j : Int, 1 ≤ j → j < k → j ∈ order
  top : best ≠ 0 → best ∉ order ∧ ∀ j : Int, 1 ≤ j → j < k → j ∉ order → j ≠ best → R q best j
theorem PI.start (q order : List Int) : PI q order 0 1 := ⟨Int.le_refl _, by decide, Int.le_refl _, by decide, fun _ j h1 h2 => absurd h1 (by omega), fun h => absurd rfl h⟩
theorem PI.take_ {q order : List Int} {best k : Int} (h : PI q order best k) (hk : k ≤ 5) (hno : Ref.hasInt order k = false) (hb : best = 0 ∨ q.getD (best - 1).toNat default < q.getD (k - 1).toNat default) : PI q order k (k + 1) := by
  have hni : k ∉ order := of_decide_eq_false hno
  have hlo := h.lo
  refine ⟨by omega, by omega, by omega, by omega, fun e => by omega, fun _ => ⟨hni, fun j h1 h2 hjo hne => ?_⟩⟩
  by_cases e : best = 0
  · exact absurd (h.all e j h1 (by omega)) hjo
  · have h3 : R q k best := .inl (hb.resolve_left e)
    by_cases ej : j = best
    · rw [ej]; exact h3
    · exact R_trans h3 ((h.top e).2 j h1 (by omega) hjo ej)
theorem PI.skip {q order : List Int} {best k : Int} (h : PI q order best k) (hk : k ≤ 5) (hs : Ref.hasInt order k = true ∨ (¬ best = 0 ∧ q.getD (k - 1).toNat default ≤ q.getD (best - 1).toNat default)) : PI q order best (k + 1) := by
  have hlo := h.lo; have hb1 := h.b1
  refine ⟨by omega, by omega, h.b0, by omega, fun e j h1 h2 => ?_, fun e => ⟨(h.top e).1, fun j h1 h2 hjo hne => ?_⟩⟩
  · by_cases ej : j = k
    · subst ej
      rcases hs with hs | hs
      · exact of_decide_eq_true hs
      · exact absurd e hs.1
    · exact h.all e j h1 (by omega)
  · by_cases ej : j = k
    · subst ej
      rcases hs with hs | hs
      · exact absurd (of_decide_eq_true hs) hjo
      · unfold R; omega
    · exact (h.top e).2 j h1 (by omega) hjo hne
theorem OrdI.next {l : List Int} {room : Int} {q order : List Int} {best k : Int} (h : OrdI l room q order) (hq : q = hits l room) (hl : order.length < q.length) (hp : PI q order best k) (hk : 5 < k) : OrdI l room q (order ++ [best]) := by
  have hck := chk_of hq (by omega)
  have hrl := rank_len hck
  have hl5 := len_le hq
  have hs := List.pairwise_iff_getElem.1 (rank_sorted hck)
  rw [← hq] at hs
  have hb0 := hp.b0; have hb1 := hp.b1; have hhi := hp.hi
  obtain ⟨n, hn⟩ : ∃ n, order.length = n := ⟨_, rfl⟩
  have heq := h.eq; rw [hn] at heq hl
  have hnn : n < (rank l room).length := by rw [hrl]; omega
  have hnot : (rank l room)[n]'hnn ∉ order := fun hm => by
    rw [heq] at hm
    obtain ⟨j, hj, e⟩ := List.mem_iff_getElem.1 hm
    rw [List.length_take] at hj
    rw [List.getElem_take] at e
    have := hs j n (by omega) (by omega) (by omega)
    rw [e] at this; exact R_irr _ this
  have hm := (rank_mem hck).1 (List.getElem_mem hnn)
  have hne : best ≠ 0 := fun e => hnot (hp.all e _ hm.1 (by omega))
  have ht := hp.top hne
  have e : (rank l room)[n]'hnn = best := by
    by_cases e : (rank l room)[n]'hnn = best
    · exact e
    · exfalso
      have h1 := ht.2 _ hm.1 (by omega) hnot e
      obtain ⟨p, hpl, e2⟩ := List.mem_iff_getElem.1 ((rank_mem hck (x := best)).2 ⟨by omega, by omega⟩)
      have hnp : n < p := by
        rcases Nat.lt_trichotomy p n with h2 | h2 | h2
        · exact absurd (heq ▸ List.mem_iff_getElem.2 ⟨p, by rw [List.length_take]; omega, by rw [List.getElem_take]; exact e2⟩) ht.1
        · subst h2; exact absurd e2 e
        · exact h2
      have h2 := hs n p (by omega) hpl hnp
      rw [e2] at h2
      exact R_irr _ (R_trans h1 h2)
  refine ⟨by simp; omega, ?_⟩
  rw [List.length_append, List.length_singleton, hn, List.take_succ_eq_append_getElem (by omega), e, ← heq]
theorem OrdI.done {l : List Int} {room : Int} {q order : List Int} (h : OrdI l room q order) (hq : q = hits l room) (hl : q.length ≤ order.length) : rank l room = order := by
  have hle := h.le
  by_cases e : check l room = 0
  · have h1 := rank_len e; have h2 : q.length = 5 := by rw [hq]; exact hits_len e
    rw [h.eq, List.take_of_length_le (by omega)]
  · have : q.length = 0 := by rw [hq, hits_bad e]; rfl
    rw [rank_bad e]; exact (List.length_eq_zero_iff.1 (by omega)).symm
structure LI (l : List Int) (n top v r least : Int) : Prop where
  lo : 2 ≤ r
  hi : r ≤ 41
  bad : v ≠ 0 → r = 2 ∧ least = 0
  none : least = 0 → ∀ j : Int, 2 ≤ j → j < r → by_ l j n < top
  some : least ≠ 0 → least = r - 1 ∧ 2 ≤ least ∧ top ≤ by_ l least n ∧ ∀ j : Int, 2 ≤ j → j < least → by_ l j n < top
theorem LI.start (l : List Int) (n top v : Int) : LI l n top v 2 0 := ⟨Int.le_refl _, by decide, fun _ => ⟨rfl, rfl⟩, fun _ j h1 h2 => absurd h1 (by omega), fun h => absurd rfl h⟩
theorem LI.take_ {l : List Int} {n top v r least : Int} (h : LI l n top v r least) (hr : r ≤ 40) (hv : v = 0) (h0 : least = 0) (hb : top ≤ by_ l r n) : LI l n top v (r + 1) r := by
  have := h.lo
  exact ⟨by omega, by omega, fun e => absurd hv e, fun e => by omega, fun _ => ⟨by omega, h.lo, hb, fun j h1 h2 => h.none h0 j h1 h2⟩⟩
theorem LI.skip {l : List Int} {n top v r least : Int} (h : LI l n top v r least) (hr : r ≤ 40) (hv : v = 0) (h0 : least = 0) (hb : by_ l r n < top) : LI l n top v (r + 1) least := by
  have := h.lo
  refine ⟨by omega, by omega, fun e => absurd hv e, fun _ j h1 h2 => ?_, fun e => absurd h0 e⟩
  by_cases ej : j = r
  · rw [ej]; exact hb
  · exact h.none h0 j h1 (by omega)
theorem room_fin {l : List Int} {room n v r least : Int} (hv : v = roomE l room n) (h : LI l n ((hits l room).getD 4 default) v r least) (hst : (40 < r ∨ ¬ v = 0) ∨ ¬ least = 0) :
    (v = 0 ∧ least = 0 → 5 = roomErr l room n) ∧ (¬ v = 0 ∨ ¬ least = 0 → v = roomErr l room n) ∧ Cmp.room l room n = least := by
  by_cases e : v = 0
  · have hE := re_ok.1 (hv ▸ e)
    have hce : curveErr l n = 0 := ce_ok.2 ⟨(chk_ok.1 hE.1).1, hE.2⟩
    have hcl := curve_len hce
    by_cases e0 : least = 0
    · have hr : r = 41 := by have := h.hi; omega
      have ha : roomAt l room n = -1 := by
        unfold roomAt
        refine (idxF_none fun j hj => ?_).symm
        rw [getd_at hj default, curve_at hce (by omega)]
        have := h.none e0 ((j : Int) + 2) (by omega) (by omega)
        exact decide_eq_false (by omega)
      have hrm := rm_cases l room n
      rcases hrm with ⟨a, _⟩ | ⟨_, _, b, c⟩ | ⟨_, a, _⟩
      · exact absurd (hv ▸ e) a
      · exact ⟨fun _ => b.symm, fun q => by omega, by rw [c, e0]⟩
      · omega
    · obtain ⟨s1, s2, s3, s4⟩ := h.some e0
      have hhi := h.hi
      have hk : (least - 2).toNat < (curve l n).length := by omega
      have ha : roomAt l room n = least - 2 := by
        have h1 : (((least - 2).toNat : Nat) : Int) = roomAt l room n := by
          unfold roomAt
          refine idxF_found hk ?_ fun j hj hlt => ?_
          · rw [getd_at hk default, curve_at hce (by omega), show (((least - 2).toNat : Nat) : Int) + 2 = least by omega]
            exact decide_eq_true s3
          · rw [getd_at hj default, curve_at hce (by omega)]
            have := s4 ((j : Int) + 2) (by omega) (by omega)
            exact decide_eq_false (by omega)
        omega
      rcases rm_cases l room n with ⟨a, _⟩ | ⟨_, a, _⟩ | ⟨_, _, b, c⟩
      · exact absurd (hv ▸ e) a
      · omega
      · exact ⟨fun q => absurd q.2 e0, fun _ => by rw [b, e], by rw [c, ha]; omega⟩
  · have hb := h.bad e
    rcases rm_cases l room n with ⟨_, b, c⟩ | ⟨a, _⟩ | ⟨a, _⟩
    · exact ⟨fun q => absurd q.1 e, fun _ => by rw [b, hv], by rw [c, hb.2]⟩
    · exact absurd (hv.trans a) e
    · exact absurd (hv.trans a) e
end Go.Sx.Cmp
