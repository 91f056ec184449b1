/- Rings of points: shares; the loops of the references; the laws. -/
import Derived.Test.YtgjdmnljnimamaaRgLaw
namespace Go.Sx.Rg
theorem shGo_append (s : Int) : ∀ (x y : List DPoint) (last : Int), shGo s last (x ++ y) = shGo s last x + shGo s ((x.getLast?.map (·.at_)).getD last) y
  | [], y, last => by simp [shGo]
  | p :: x, y, last => by
    rw [List.cons_append, shGo, shGo, shGo_append s x y]
    have : (((p :: x).getLast?.map (·.at_)).getD last) = ((x.getLast?.map (·.at_)).getD p.at_) := by
      cases x with
      | nil => rfl
      | cons z x => rw [List.getLast?_cons_cons]; simp [List.getLast?_cons]
    rw [this]; omega
theorem last_take {l : List DPoint} {k : Nat} (hk : k ≤ l.length) (d : Int) : (((l.take k).getLast?).map (·.at_)).getD d = if k = 0 then d else (l.getD (k - 1) default).at_ := by
  cases k with
  | zero => simp
  | succ k =>
    rw [if_neg (by omega), List.getLast?_eq_getElem?, List.length_take, Nat.min_eq_left hk, List.getElem?_take, if_pos (by omega), Nat.add_sub_cancel, List.getElem?_eq_getElem (by omega), List.getD_eq_getElem?_getD, List.getElem?_eq_getElem (by omega)]; rfl
/-- the place before place k of the ring -/
def bef (l : List DPoint) (k : Nat) : Int := if k = 0 then begun l else (l.getD (k - 1) default).at_
theorem shGo_next {l : List DPoint} {k : Nat} (s : Int) (hk : k < l.length) : shGo s (begun l) (l.take (k + 1)) = shGo s (begun l) (l.take k) + if l[k].shard = s then l[k].at_ - bef l k else 0 := by
  rw [List.take_succ_eq_append_getElem hk, shGo_append, last_take (by omega)]
  simp only [shGo, bef]; omega
/-- the program's loop -/
structure SInv (l : List DPoint) (out : List Int) (last : Int) (k : Nat) : Prop where
  le : k ≤ l.length
  out : out = (List.range 20).map fun s => shGo (s : Nat) (begun l) (l.take k)
  last : last = bef l k
theorem SInv.len {l : List DPoint} {out : List Int} {last : Int} {k : Nat} (h : SInv l out last k) : out.length = 20 := by rw [h.out]; simp
theorem zero20 (l : List DPoint) : (List.replicate 20 0 : List Int) = (List.range 20).map fun s => shGo (s : Nat) (begun l) (l.take 0) := by
  apply List.ext_getElem
  · simp
  · intro i h1 h2; rw [List.getElem_replicate]; simp [shGo]
theorem SInv.start {l : List DPoint} (hl : 0 < l.length) {last : Int} (h : last = (l.getD (l.length - 1) default).at_ - 65536) : SInv l (List.replicate 20 0) last 0 := ⟨Nat.zero_le _, zero20 l, by rw [h]; rfl⟩
theorem SInv.next {l : List DPoint} {out : List Int} {last : Int} {k : Nat} (h : SInv l out last k) (hk : k < l.length) (hp : 0 ≤ l[k].shard ∧ l[k].shard < 20) {i : Nat} (hi : (i : Int) = l[k].shard) {v : Int} (hx : i < out.length) (hv : v = out[i] + (l[k].at_ - last)) : SInv l (out.set i v) l[k].at_ (k + 1) := by
  refine ⟨by omega, ?_, by unfold bef; rw [if_neg (by omega), Nat.add_sub_cancel, ← getd_at hk default]⟩
  obtain ⟨h1, h2, h3⟩ := h
  subst h2
  apply List.ext_getElem
  · simp
  · intro j g1 g2
    simp only [List.length_map, List.length_range] at g2
    rw [List.getElem_set]
    simp only [List.getElem_map, List.getElem_range, shGo_next _ hk] at hv ⊢
    split
    · rename_i e; subst e; rw [if_pos (by omega), hv, h3]
    · rw [if_neg (by omega)]; omega
theorem SInv.done {l : List DPoint} {out : List Int} {last : Int} {k : Nat} (h : SInv l out last k) (hk : l.length ≤ k) : out = shares20 l := by rw [h.out, List.take_of_length_le hk]; rfl
theorem sh_bd (s : Int) : ∀ {l : List DPoint} {last : Int}, le_ l → (∀ p ∈ l, last < p.at_) → 0 ≤ shGo s last l ∧ shGo s last l ≤ ((l.getLast?.map (·.at_)).getD last) - last
  | [], last, _, _ => by simp [shGo]
  | p :: l, last, h, hl => by
    have h1 := List.pairwise_cons.1 h
    have h2 := sh_bd s h1.2 (last := p.at_) h1.1
    have h3 := hl p (by simp)
    have e : (((p :: l).getLast?.map (·.at_)).getD last) = ((l.getLast?.map (·.at_)).getD p.at_) := by
      cases l with
      | nil => rfl
      | cons z x => rw [List.getLast?_cons_cons]; simp [List.getLast?_cons]
    rw [e, shGo]; split <;> omega
theorem begun_lt {l : List DPoint} (h : Fine l) : ∀ p ∈ l, begun l < p.at_ := by
  intro p hp
  have h0 := List.length_pos_of_mem hp
  have h1 := (okPoint_iff.1 (h.point p hp)).2
  have h2 := (okPoint_iff.1 (h.point _ (List.getElem_mem (show l.length - 1 < l.length by omega)))).2
  unfold begun; rw [← getd_at (by omega) default]; omega
theorem last_is {l : List DPoint} (h0 : 0 < l.length) (d : Int) : ((l.getLast?.map (·.at_)).getD d) = begun l + 65536 := by
  have := last_take (Nat.le_refl l.length) d
  rw [List.take_length, if_neg (by omega)] at this
  rw [this]; unfold begun; omega
theorem take_bd {l : List DPoint} (h : Fine l) (s : Int) {k : Nat} (hk : k ≤ l.length) : 0 ≤ shGo s (begun l) (l.take k) ∧ shGo s (begun l) (l.take k) ≤ 65536 := by
  rcases Nat.eq_zero_or_pos l.length with h0 | h0
  · have : l = [] := List.length_eq_zero_iff.1 h0
    subst this; simp [shGo]
  · have h2 := sh_bd s (l := l.take k) (last := begun l) (List.Pairwise.sublist (List.take_sublist _ _) h.sorted) (fun p hp => begun_lt h p (List.mem_of_mem_take hp))
    refine ⟨h2.1, ?_⟩
    rw [last_take hk] at h2
    split at h2
    · omega
    · have h3 := (okPoint_iff.1 (h.point _ (List.getElem_mem (show k - 1 < l.length by omega)))).2
      have h4 := (okPoint_iff.1 (h.point _ (List.getElem_mem (show l.length - 1 < l.length by omega)))).2
      rw [← getd_at (by omega) default] at h2
      have h5 : begun l = l[l.length - 1].at_ - 65536 := by unfold begun; rw [← getd_at (by omega) default]
      have h6 : l[k - 1].at_ ≤ l[l.length - 1].at_ := by
        rcases Nat.eq_or_lt_of_le (show k - 1 ≤ l.length - 1 by omega) with e | e
        · have : l[k - 1] = l[l.length - 1] := by congr 1
          rw [this]; omega
        · have := sorted_at h.sorted (show k - 1 < l.length by omega) (show l.length - 1 < l.length by omega) e; omega
      omega
theorem share_bd {l : List DPoint} (h : Fine l) (s : Int) : 0 ≤ share l s ∧ share l s ≤ 65536 := by
  have := take_bd h s (Nat.le_refl l.length); rwa [List.take_length] at this
theorem SInv.bd {l : List DPoint} {out : List Int} {last : Int} {k : Nat} (h : SInv l out last k) (hf : Fine l) {j : Nat} (hj : j < out.length) : 0 ≤ out[j] ∧ out[j] ≤ 65536 := by
  have e : out[j] = shGo (j : Nat) (begun l) (l.take k) := by
    have := h.out; subst this; simp
  rw [e]; exact take_bd hf _ h.le
theorem bef_bd {l : List DPoint} (hf : Fine l) {k : Nat} (hk : k < l.length) : -65536 ≤ bef l k ∧ bef l k < l[k].at_ ∧ 0 ≤ l[k].at_ ∧ l[k].at_ < 65536 := by
  have h3 := (okPoint_iff.1 (hf.point _ (List.getElem_mem hk))).2
  unfold bef
  split
  · have h4 := begun_lt hf _ (List.getElem_mem hk)
    have h5 := (okPoint_iff.1 (hf.point _ (List.getElem_mem (show l.length - 1 < l.length by omega)))).2
    have h6 : begun l = l[l.length - 1].at_ - 65536 := by unfold begun; rw [← getd_at (by omega) default]
    omega
  · have h5 := (okPoint_iff.1 (hf.point _ (List.getElem_mem (show k - 1 < l.length by omega)))).2
    rw [← getd_at (show k - 1 < l.length by omega) default]
    have := sorted_at hf.sorted (show k - 1 < l.length by omega) hk (by omega)
    omega
theorem sh_cases (l : List DPoint) (n : Int) : (check l ≠ 0 ∧ shares l n = [] ∧ shErr l n = check l) ∨ (check l = 0 ∧ ¬ (1 ≤ n ∧ n ≤ 20) ∧ shares l n = [] ∧ shErr l n = 3) ∨ (check l = 0 ∧ (1 ≤ n ∧ n ≤ 20) ∧ l.length = 0 ∧ shares l n = [] ∧ shErr l n = 5) ∨ (check l = 0 ∧ (1 ≤ n ∧ n ≤ 20) ∧ 0 < l.length ∧ shares l n = (shares20 l).take n.toNat ∧ shErr l n = 0) := by
  unfold shares
  by_cases h1 : check l = 0
  · by_cases h2 : 1 ≤ n ∧ n ≤ 20
    · by_cases h3 : l.length = 0
      · have e : shErr l n = 5 := by unfold shErr; rw [if_pos h1, if_pos h2, if_pos h3]
        exact .inr (.inr (.inl ⟨h1, h2, h3, by rw [e]; rfl, e⟩))
      · have e : shErr l n = 0 := by unfold shErr; rw [if_pos h1, if_pos h2, if_neg h3]
        exact .inr (.inr (.inr ⟨h1, h2, by omega, by rw [if_pos e], e⟩))
    · have e : shErr l n = 3 := by unfold shErr; rw [if_pos h1, if_neg h2]
      exact .inr (.inl ⟨h1, h2, by rw [e]; rfl, e⟩)
  · have e : shErr l n = check l := if_neg h1
    exact .inl ⟨h1, by rw [e, if_neg h1], e⟩
theorem sh1 {l : List DPoint} {n : Int} (h : check l ≠ 0) : shares l n = [] ∧ shErr l n = check l := by rcases sh_cases l n with ⟨_, b⟩ | ⟨c, _⟩ | ⟨c, _⟩ | ⟨c, _⟩ <;> first | exact b | exact absurd c h
theorem sh2 {l : List DPoint} {n : Int} (h : check l = 0) (h2 : ¬ (1 ≤ n ∧ n ≤ 20)) : shares l n = [] ∧ shErr l n = 3 := by rcases sh_cases l n with ⟨c, b⟩ | ⟨_, _, b⟩ | ⟨_, c, _⟩ | ⟨_, c, _⟩ <;> first | exact b | exact absurd h c | exact absurd c h2
theorem sh3 {l : List DPoint} {n : Int} (h : check l = 0) (h2 : 1 ≤ n ∧ n ≤ 20) (h3 : l.length = 0) : shares l n = [] ∧ shErr l n = 5 := by rcases sh_cases l n with ⟨c, b⟩ | ⟨_, c, b⟩ | ⟨_, _, _, b⟩ | ⟨_, _, c, _⟩ <;> first | exact b | exact absurd h c | exact absurd h2 c | omega
theorem sh4 {l : List DPoint} {n : Int} (h : check l = 0) (h2 : 1 ≤ n ∧ n ≤ 20) (h3 : 0 < l.length) : shares l n = (shares20 l).take n.toNat ∧ shErr l n = 0 := by rcases sh_cases l n with ⟨c, b⟩ | ⟨_, c, b⟩ | ⟨_, _, c, b⟩ | ⟨_, _, _, b⟩ <;> first | exact b | exact absurd h c | exact absurd h2 c | omega
/-! ### the reference's loops -/
/-- RingOwner -/
def OInv (l : List DPoint) (a : Int) (i : Nat) : Prop := i ≤ l.length ∧ ∀ j (h : j < l.length), j < i → l[j].at_ < a
theorem OInv.start (l : List DPoint) (a : Int) : OInv l a 0 := ⟨Nat.zero_le _, fun j h h2 => by omega⟩
theorem OInv.next {l : List DPoint} {a : Int} {i : Nat} (h : OInv l a i) (hi : i < l.length) (hx : l[i].at_ < a) : OInv l a (i + 1) := ⟨by omega, fun j hj h2 => by
  by_cases e : j = i
  · subst e; exact hx
  · exact h.2 j hj (by omega)⟩
theorem OInv.found {l : List DPoint} {a : Int} {i : Nat} (h : OInv l a i) (hi : i < l.length) (hx : a ≤ l[i].at_) : l[i].shard = ownGo l a := by
  have e : low l a = i := lowF_eq (by omega) (fun k hk h2 => cmpI_neg.2 (h.2 k hk h2)) (fun hi => by
    rcases Int.lt_or_le (cmpI l[i].at_ a) 0 with h3 | h3
    · have := cmpI_neg.1 h3; omega
    · exact h3)
  unfold ownGo ownIx; rw [e, if_neg (by omega), ← getd_at hi default]
theorem OInv.none {l : List DPoint} {a : Int} {i : Nat} (h : OInv l a i) (hi : l.length ≤ i) (h0 : 0 < l.length) : (l[0]).shard = ownGo l a := by
  have e : low l a = l.length := lowF_eq (Nat.le_refl _) (fun k hk h2 => cmpI_neg.2 (h.2 k hk (by omega))) (fun hi => absurd hi (by omega))
  unfold ownGo ownIx; rw [if_pos e, ← getd_at h0 default]
/-- RingShare -/
def HInv (l : List DPoint) (s n : Int) (i : Nat) : Prop := i ≤ l.length ∧ n = shGo s (begun l) (l.take i)
theorem HInv.start (l : List DPoint) (s : Int) : HInv l s 0 0 := ⟨Nat.zero_le _, rfl⟩
theorem HInv.skip {l : List DPoint} {s n : Int} {i : Nat} (h : HInv l s n i) (hi : i < l.length) (hx : l[i].shard ≠ s) : HInv l s n (i + 1) := ⟨by omega, by rw [shGo_next s hi, if_neg hx, ← h.2]; omega⟩
theorem HInv.first {l : List DPoint} {s n : Int} {i : Nat} (h : HInv l s n i) (hi : i < l.length) (hx : l[i].shard = s) (h0 : i = 0) {v : Int} (hv : v = n + (l[i].at_ + 65536 - (l.getD (l.length - 1) default).at_)) : HInv l s v (i + 1) := ⟨by omega, by rw [shGo_next s hi, if_pos hx, ← h.2, hv]; unfold bef begun; rw [if_pos h0]; omega⟩
theorem HInv.then {l : List DPoint} {s n : Int} {i : Nat} (h : HInv l s n i) (hi : i < l.length) (hx : l[i].shard = s) (h0 : i ≠ 0) {v : Int} (hj : i - 1 < l.length) (hv : v = n + (l[i].at_ - l[i - 1].at_)) : HInv l s v (i + 1) := ⟨by omega, by rw [shGo_next s hi, if_pos hx, ← h.2, hv]; unfold bef; rw [if_neg h0, ← getd_at hj default]⟩
theorem HInv.done {l : List DPoint} {s n : Int} {i : Nat} (h : HInv l s n i) (hi : l.length ≤ i) : n = share l s := by rw [h.2, List.take_of_length_le hi]; rfl
/-- RingAdd: is something twice? -/
theorem right_of {s : Int} {ps : List Int} (h : okShard s = true) {i : Nat} (hi : ps.length ≤ i) (hI : ∀ j (hj : j < ps.length), j < i → okAt ps[j] = true) : rightAdd s ps = true := by
  simp only [rightAdd, h, Bool.true_and, Bool.not_eq_true', List.any_eq_false]
  intro a ha
  obtain ⟨j, hj, rfl⟩ := List.getElem_of_mem ha
  simp [hI j hj (by omega)]
theorem wrong_of {s : Int} {ps : List Int} {i : Nat} (hi : i < ps.length) (h : okAt ps[i] = false) : rightAdd s ps = false := by
  have : (ps.any fun a => !okAt a) = true := List.any_eq_true.2 ⟨_, List.getElem_mem hi, by simp [h]⟩
  simp [rightAdd, this]
theorem wrong_shard {s : Int} {ps : List Int} (h : okShard s = false) : rightAdd s ps = false := by simp [rightAdd, h]
def DInv (l : List DPoint) (ps : List Int) (i : Nat) : Prop := i ≤ ps.length ∧ ∀ j (h : j < ps.length), j < i → ps[j] ∉ ps.take j ∧ ps[j] ∉ l.map (·.at_)
theorem DInv.start (l : List DPoint) (ps : List Int) : DInv l ps 0 := ⟨Nat.zero_le _, fun j h h2 => by omega⟩
theorem DInv.next {l : List DPoint} {ps : List Int} {i : Nat} (h : DInv l ps i) (hi : i < ps.length) (h1 : ps[i] ∉ ps.take i) (h2 : ps[i] ∉ l.map (·.at_)) : DInv l ps (i + 1) := ⟨by omega, fun j hj h3 => by
  by_cases e : j = i
  · subst e; exact ⟨h1, h2⟩
  · exact h.2 j hj (by omega)⟩
theorem DInv.some {l : List DPoint} {s : Int} {ps : List Int} {i : Nat} (h : DInv l ps i) (hi : ps.length ≤ i) (hr : rightAdd s ps = true) (hl : Fine l) : ∃ o, addGo s l ps = some o := by
  cases e : addGo s l ps with
  | some o => exact ⟨o, rfl⟩
  | none =>
    obtain ⟨j, hj, hd⟩ := (none_iff (right_at hr).1 (right_at hr).2 hl).1 e
    have := h.2 j hj (by omega)
    rcases hd with hd | hd
    · exact absurd hd this.1
    · exact absurd hd this.2
theorem twice_p {l : List DPoint} {s : Int} {ps : List Int} {i k : Nat} (hr : rightAdd s ps = true) (hl : Fine l) (hi : i < ps.length) (hk : k < i) (h : ps[k] = ps[i]) : addGo s l ps = none :=
  (none_iff (right_at hr).1 (right_at hr).2 hl).2 ⟨i, hi, .inl (by rw [List.mem_take_iff_getElem]; exact ⟨k, by omega, h⟩)⟩
theorem twice_l {l : List DPoint} {s : Int} {ps : List Int} {i k : Nat} (hr : rightAdd s ps = true) (hl : Fine l) (hi : i < ps.length) (hk : k < l.length) (h : l[k].at_ = ps[i]) : addGo s l ps = none :=
  (none_iff (right_at hr).1 (right_at hr).2 hl).2 ⟨i, hi, .inr (List.mem_map.2 ⟨_, List.getElem_mem hk, h⟩)⟩
def EInv (ps : List Int) (i k : Nat) (h : i < ps.length) : Prop := k ≤ i ∧ ∀ j (hj : j < i), j < k → ps[j] ≠ ps[i]
theorem EInv.start {ps : List Int} {i : Nat} (h : i < ps.length) : EInv ps i 0 h := ⟨Nat.zero_le _, fun j hj h2 => by omega⟩
theorem EInv.next {ps : List Int} {i k : Nat} {h : i < ps.length} (hI : EInv ps i k h) (hk : k < i) (hx : ps[k] ≠ ps[i]) : EInv ps i (k + 1) h := ⟨by omega, fun j hj h2 => by
  by_cases e : j = k
  · subst e; exact hx
  · exact hI.2 j hj (by omega)⟩
theorem EInv.done {ps : List Int} {i k : Nat} {h : i < ps.length} (hI : EInv ps i k h) (hk : i ≤ k) : ps[i] ∉ ps.take i := by
  rw [List.mem_take_iff_getElem]; rintro ⟨j, hj, e⟩
  exact hI.2 j (by omega) (by omega) e
def GInv (l : List DPoint) (a : Int) (k : Nat) : Prop := k ≤ l.length ∧ ∀ j (h : j < l.length), j < k → l[j].at_ ≠ a
theorem GInv.start (l : List DPoint) (a : Int) : GInv l a 0 := ⟨Nat.zero_le _, fun j h h2 => by omega⟩
theorem GInv.next {l : List DPoint} {a : Int} {k : Nat} (h : GInv l a k) (hk : k < l.length) (hx : l[k].at_ ≠ a) : GInv l a (k + 1) := ⟨by omega, fun j hj h2 => by
  by_cases e : j = k
  · subst e; exact hx
  · exact h.2 j hj (by omega)⟩
theorem GInv.done {l : List DPoint} {a : Int} {k : Nat} (h : GInv l a k) (hk : l.length ≤ k) : a ∉ l.map (·.at_) := by
  rw [List.mem_map]; rintro ⟨x, hx, e⟩
  obtain ⟨j, hj, rfl⟩ := List.getElem_of_mem hx
  exact h.2 j hj (by omega) e
/-- all points, one behind the other -/
def allP (l : List DPoint) (s : Int) (ps : List Int) : List DPoint := l ++ ps.map fun a => ⟨a, s⟩
theorem allP_len (l : List DPoint) (s : Int) (ps : List Int) : (allP l s ps).length = l.length + ps.length := by simp [allP]
theorem allP_next {l : List DPoint} {s : Int} {ps : List Int} {i : Nat} (hi : i < ps.length) : l ++ (ps.take i).map (fun a => (⟨a, s⟩ : DPoint)) ++ [⟨ps[i], s⟩] = l ++ (ps.take (i + 1)).map fun a => (⟨a, s⟩ : DPoint) := by
  rw [List.take_succ_eq_append_getElem hi, List.map_append, List.append_assoc]; rfl
theorem allP_done {l : List DPoint} {s : Int} {ps : List Int} {i : Nat} (hi : ps.length ≤ i) : l ++ (ps.take i).map (fun a => (⟨a, s⟩ : DPoint)) = allP l s ps := by rw [List.take_of_length_le hi]; rfl
theorem mem_allP {l : List DPoint} {s : Int} {ps : List Int} {x : DPoint} : x ∈ allP l s ps ↔ x ∈ l ∨ (x.shard = s ∧ x.at_ ∈ ps) := by
  simp only [allP, List.mem_append, List.mem_map]
  constructor
  · rintro (h | ⟨a, ha, e⟩)
    · exact .inl h
    · subst e; exact .inr ⟨rfl, ha⟩
  · rintro (h | ⟨h, ha⟩)
    · exact .inl h
    · exact .inr ⟨_, ha, by cases x; simp_all⟩
/-- the sorted list, built from its begin -/
structure TInv (t all out : List DPoint) (last : Int) : Prop where
  le : out.length ≤ t.length
  pre : out = t.take out.length
  last : last = if out.length = 0 then -1 else (t.getD (out.length - 1) default).at_
structure MInv (all : List DPoint) (last best : Int) (i : Nat) : Prop where
  le : i ≤ all.length
  lo : -1 ≤ best ∧ best < i
  none : best < 0 → ∀ j (h : j < all.length), j < i → all[j].at_ ≤ last
  some : ∀ b : Nat, (b : Int) = best → ∃ h : b < all.length, last < all[b].at_ ∧ ∀ j (h2 : j < all.length), j < i → last < all[j].at_ → all[b].at_ ≤ all[j].at_
theorem TInv.start (t all : List DPoint) : TInv t all [] (-1) := ⟨Nat.zero_le _, by simp, rfl⟩
theorem MInv.start (all : List DPoint) (last : Int) : MInv all last (-1) 0 := ⟨Nat.zero_le _, ⟨Int.le_refl _, by omega⟩, fun _ j h h2 => by omega, fun b hb => by omega⟩
theorem MInv.skip {all : List DPoint} {last best : Int} {i : Nat} (h : MInv all last best i) (hi : i < all.length) (hx : all[i].at_ ≤ last ∨ (0 ≤ best ∧ ∃ h2 : best.toNat < all.length, all[best.toNat].at_ ≤ all[i].at_)) : MInv all last best (i + 1) := by
  refine ⟨by omega, ⟨h.lo.1, by have := h.lo.2; omega⟩, fun hb j hj h2 => ?_, fun b hb => ?_⟩
  · by_cases e : j = i
    · subst e; rcases hx with hx | hx; exact hx; omega
    · exact h.none hb j hj (by omega)
  · obtain ⟨h1, h2, h3⟩ := h.some b hb
    refine ⟨h1, h2, fun j hj hlt hl => ?_⟩
    by_cases e : j = i
    · subst e
      rcases hx with hx | ⟨_, h4, h5⟩
      · omega
      · have : best.toNat = b := by omega
        subst this; exact h5
    · exact h3 j hj (by omega) hl
theorem MInv.take_ {all : List DPoint} {last best : Int} {i : Nat} (h : MInv all last best i) (hi : i < all.length) (hl : last < all[i].at_) (hx : best < 0 ∨ ∃ h2 : best.toNat < all.length, all[i].at_ < all[best.toNat].at_) : MInv all last (i : Int) (i + 1) := by
  refine ⟨by omega, ⟨by omega, by omega⟩, fun hb => by omega, fun b hb => ?_⟩
  have : b = i := by omega
  subst this
  refine ⟨hi, hl, fun j hj hlt hlj => ?_⟩
  by_cases e : j = b
  · subst e; omega
  · rcases hx with hx | ⟨h4, h5⟩
    · have := h.none hx j hj (by omega); omega
    · obtain ⟨h6, h7, h8⟩ := h.some best.toNat (by
        rcases Int.lt_or_le best 0 with h9 | h9
        · have := h.none h9 j hj (by omega); omega
        · omega)
      have := h8 j hj (by omega) hlj; omega
theorem TInv.pick {t all out : List DPoint} {last best : Int} {i : Nat} (h : TInv t all out last) (ht : Fine t) (hm : ∀ x, x ∈ t ↔ x ∈ all) (hlt : out.length < t.length) (hI : MInv all last best i) (hi : all.length ≤ i) : 0 ≤ best ∧ ∃ hb : best.toNat < all.length, all[best.toNat] = t[out.length] := by
  have h1 : last < t[out.length].at_ := by
    rw [h.last]; split
    · have := (okPoint_iff.1 (ht.point _ (List.getElem_mem hlt))).2; omega
    · rw [← getd_at (show out.length - 1 < t.length by omega) default]; exact sorted_at ht.sorted _ hlt (by omega)
  obtain ⟨j, hj, e⟩ := List.getElem_of_mem ((hm _).1 (List.getElem_mem hlt))
  have hb : 0 ≤ best := by
    rcases Int.lt_or_le best 0 with h9 | h9
    · have := hI.none h9 j hj (by omega); rw [e] at this; omega
    · exact h9
  obtain ⟨g1, g2, g3⟩ := hI.some best.toNat (by omega)
  refine ⟨hb, g1, ?_⟩
  have g4 := g3 j hj (by omega) (by rw [e]; exact h1)
  rw [e] at g4
  obtain ⟨k, hk, e2⟩ := List.getElem_of_mem ((hm _).2 (List.getElem_mem g1))
  rw [← e2] at g2 g4 ⊢
  have hko : out.length ≤ k := by
    rcases Nat.lt_or_ge k out.length with h9 | h9
    · exfalso
      rw [h.last, if_neg (by omega), ← getd_at (show out.length - 1 < t.length by omega) default] at g2
      rcases Nat.eq_or_lt_of_le (show k ≤ out.length - 1 by omega) with e3 | e3
      · subst e3; omega
      · have := sorted_at ht.sorted hk (show out.length - 1 < t.length by omega) e3; omega
    · exact h9
  rcases Nat.eq_or_lt_of_le hko with e3 | e3
  · simp only [e3]
  · have := sorted_at ht.sorted hlt hk e3; omega
theorem TInv.next {t all out : List DPoint} {last : Int} (h : TInv t all out last) (hlt : out.length < t.length) {p : DPoint} (hp : p = t[out.length]) : TInv t all (out ++ [p]) p.at_ := by
  subst hp
  refine ⟨by simp; omega, ?_, ?_⟩
  · rw [List.length_append, List.length_singleton, List.take_succ_eq_append_getElem hlt, ← h.pre]
  · rw [List.length_append, List.length_singleton, if_neg (by omega), Nat.add_sub_cancel, ← getd_at hlt default]
theorem TInv.done {t all out : List DPoint} {last : Int} (h : TInv t all out last) (hlt : t.length ≤ out.length) : out = t := by
  rw [h.pre, List.take_of_length_le hlt]
end Go.Sx.Rg
