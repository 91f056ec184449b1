/- Rings of points: searching, adding, removing, shares; the loops of the program and of the reference. -/
import Derived.Test.YtgjdmnljnimamaaRgPure
namespace Go.Sx.Rg
theorem sorted_at {l : List DPoint} (h : le_ l) {i j : Nat} (hi : i < l.length) (hj : j < l.length) (hlt : i < j) : l[i].at_ < l[j].at_ := List.pairwise_iff_getElem.1 h i j hi hj hlt
theorem split_at {l : List DPoint} (h : le_ l) (a : Int) : Split (fun x : DPoint => cmpI x.at_ a) l := by
  intro i b hb hlt hn
  simp only [cmpI_neg] at hn ⊢
  have := sorted_at h (show i < l.length by omega) hb hlt; omega
theorem low_le (l : List DPoint) (a : Int) : low l a ≤ l.length := lowF_le _ _
theorem below {l : List DPoint} {a : Int} {k : Nat} (hk : k < l.length) (h : k < low l a) : l[k].at_ < a := cmpI_neg.1 ((low_spec (f := fun x : DPoint => cmpI x.at_ a)).1 k hk h)
theorem above {l : List DPoint} (hs : le_ l) {a : Int} {k : Nat} (hk : k < l.length) (h : low l a ≤ k) : a ≤ l[k].at_ := by
  have := low_above (split_at hs a) hk h
  rcases Int.lt_or_le l[k].at_ a with h2 | h2
  · have := cmpI_neg.2 h2; omega
  · exact h2
theorem hit_at {l : List DPoint} {a : Int} : hit l a = true ↔ ∃ h : low l a < l.length, l[low l a].at_ = a := by
  simp only [hit, hitF, Bool.and_eq_true, decide_eq_true_eq, beq_iff_eq, cmpI_zero]
  constructor
  · rintro ⟨h1, h2⟩
    have h3 : low l a < l.length := Int.ofNat_lt.1 h1
    exact ⟨h3, by rw [getd_at h3 default]; exact h2⟩
  · rintro ⟨h1, h2⟩
    exact ⟨Int.ofNat_lt.2 h1, by rw [← getd_at h1 default]; exact h2⟩
theorem hit_iff {l : List DPoint} (hs : le_ l) {a : Int} : hit l a = true ↔ a ∈ l.map (·.at_) := by
  rw [hit_at, List.mem_map]
  constructor
  · rintro ⟨h, e⟩; exact ⟨_, List.getElem_mem h, e⟩
  · rintro ⟨x, hx, e⟩
    obtain ⟨i, hi, rfl⟩ := List.getElem_of_mem hx
    have h2 : low l a ≤ i := by
      rcases Nat.lt_or_ge i (low l a) with h3 | h3
      · have := below hi h3; omega
      · exact h3
    have h3 := above hs (show low l a < l.length by omega) (Nat.le_refl _)
    refine ⟨by omega, ?_⟩
    rcases Nat.eq_or_lt_of_le h2 with h4 | h4
    · simp only [h4]; exact e
    · have := sorted_at hs (show low l a < l.length by omega) hi h4; omega
theorem mem_ins {l : List DPoint} {p x : DPoint} : x ∈ ins l p ↔ x = p ∨ x ∈ l := by
  unfold ins
  have e : x ∈ l ↔ x ∈ l.take (low l p.at_) ∨ x ∈ l.drop (low l p.at_) := by rw [← List.mem_append, List.take_append_drop]
  rw [e]; simp only [List.mem_append, List.mem_singleton]
  constructor
  · rintro ((h | h) | h) <;> simp [h]
  · rintro (h | h | h) <;> simp [h]
theorem ins_len (l : List DPoint) (p : DPoint) : (ins l p).length = l.length + 1 := by
  have := low_le l p.at_
  simp only [ins, List.length_append, List.length_take, List.length_drop, List.length_singleton]; omega
theorem ins_sorted {l : List DPoint} (hs : le_ l) {p : DPoint} (hn : p.at_ ∉ l.map (·.at_)) : le_ (ins l p) := by
  unfold ins le_
  rw [List.append_assoc, List.singleton_append, List.pairwise_append]
  refine ⟨List.Pairwise.sublist (List.take_sublist _ _) hs, List.pairwise_cons.2 ⟨fun y hy => ?_, List.Pairwise.sublist (List.drop_sublist _ _) hs⟩, fun x hx y hy => ?_⟩
  · obtain ⟨j, hj, rfl⟩ := List.getElem_of_mem hy
    rw [List.getElem_drop]
    rw [List.length_drop] at hj
    have h1 := above hs (k := low l p.at_ + j) (a := p.at_) (by omega) (by omega)
    have h2 : l[low l p.at_ + j].at_ ≠ p.at_ := fun e => hn (List.mem_map.2 ⟨_, List.getElem_mem (by omega), e⟩)
    omega
  · obtain ⟨i, hi, rfl⟩ := List.getElem_of_mem hx
    rw [List.length_take] at hi
    rw [List.getElem_take]
    have h1 := below (a := p.at_) (k := i) (l := l) (by omega) (by omega)
    rcases List.mem_cons.1 hy with rfl | hy
    · exact h1
    · obtain ⟨j, hj, rfl⟩ := List.getElem_of_mem hy
      rw [List.length_drop] at hj
      rw [List.getElem_drop]
      have h2 := above hs (k := low l p.at_ + j) (a := p.at_) (by omega) (by omega)
      omega
theorem Fine.ins {l : List DPoint} (h : Fine l) {p : DPoint} (hp : okPoint p = true) (hn : p.at_ ∉ l.map (·.at_)) : Fine (ins l p) :=
  ⟨fun x hx => by rcases mem_ins.1 hx with rfl | hx; exact hp; exact h.point x hx, ins_sorted h.sorted hn⟩
theorem at_ge {l : List DPoint} (h : Fine l) : ∀ (i : Nat) (hi : i < l.length), (i : Int) ≤ l[i].at_
  | 0, hi => by have := (okPoint_iff.1 (h.point _ (List.getElem_mem hi))).2; simpa using this.1
  | i + 1, hi => by
    have h1 := at_ge h i (by omega)
    have h2 := sorted_at h.sorted (show i < l.length by omega) hi (by omega)
    omega
theorem Fine.len {l : List DPoint} (h : Fine l) : l.length ≤ 65536 := by
  rcases Nat.eq_zero_or_pos l.length with h0 | h0
  · omega
  · have h1 := at_ge h (l.length - 1) (by omega)
    have h2 := (okPoint_iff.1 (h.point _ (List.getElem_mem (show l.length - 1 < l.length by omega)))).2
    omega
/-- two lists in order with the same points are one -/
theorem same_of_mem : ∀ {l m : List DPoint}, le_ l → le_ m → (∀ x, x ∈ l ↔ x ∈ m) → l = m
  | [], [], _, _, _ => rfl
  | [], y :: m, _, _, h => absurd ((h y).2 (by simp)) (by simp)
  | x :: l, [], _, _, h => absurd ((h x).1 (by simp)) (by simp)
  | x :: l, y :: m, hl, hm, h => by
    have h1 := List.pairwise_cons.1 hl
    have h2 := List.pairwise_cons.1 hm
    have e : x = y := by
      rcases List.mem_cons.1 ((h x).1 (by simp)) with e | e
      · exact e
      · rcases List.mem_cons.1 ((h y).2 (by simp)) with e2 | e2
        · exact e2.symm
        · have := h1.1 y e2; have := h2.1 x e; omega
    subst e
    congr 1
    refine same_of_mem h1.2 h2.2 fun z => ⟨fun hz => ?_, fun hz => ?_⟩
    · rcases List.mem_cons.1 ((h z).1 (by simp [hz])) with e | e
      · subst e; have := h1.1 z hz; omega
      · exact e
    · rcases List.mem_cons.1 ((h z).2 (by simp [hz])) with e | e
      · subst e; have := h2.1 z hz; omega
      · exact e
/-! ### Adding -/
structure Added (l : List DPoint) (s : Int) (ps : List Int) (o : List DPoint) : Prop where
  fine : Fine o
  mem : ∀ x, x ∈ o ↔ x ∈ l ∨ (x.shard = s ∧ x.at_ ∈ ps)
  len : o.length = l.length + ps.length
  less : dropS o s = dropS l s
theorem drop_ins (l : List DPoint) (a s : Int) : dropS (ins l ⟨a, s⟩) s = dropS l s := by
  unfold dropS ins
  simp only [List.filter_append]
  rw [show List.filter (fun p : DPoint => !(p.shard == s)) [⟨a, s⟩] = [] by simp, List.append_nil, ← List.filter_append, List.take_append_drop]
theorem added {s : Int} (h0 : okShard s = true) : ∀ {ps : List Int} {l o : List DPoint}, (∀ a ∈ ps, okAt a = true) → Fine l → addGo s l ps = some o → Added l s ps o
  | [], l, o, _, hl, e => by
    simp only [addGo, Option.some.injEq] at e; subst e
    exact ⟨hl, fun x => by simp, by simp, rfl⟩
  | a :: ps, l, o, hp, hl, e => by
    rw [addGo] at e
    split at e
    · cases e
    · rename_i hh
      have hn : a ∉ l.map (·.at_) := fun h => hh ((hit_iff hl.sorted).2 h)
      have ho : okPoint ⟨a, s⟩ = true := by simp only [okPoint, h0, hp a (by simp), Bool.and_self]
      have h2 := added h0 (fun b hb => hp b (by simp [hb])) (hl.ins ho hn) e
      refine ⟨h2.fine, fun x => ?_, by have := h2.len; rw [ins_len] at this; simp only [List.length_cons]; omega, h2.less.trans (drop_ins _ _ _)⟩
      rw [h2.mem, mem_ins]
      constructor
      · rintro ((h | h) | h)
        · subst h; exact .inr ⟨rfl, by simp⟩
        · exact .inl h
        · exact .inr ⟨h.1, by simp [h.2]⟩
      · rintro (h | ⟨h1, h2⟩)
        · exact .inl (.inr h)
        · rcases List.mem_cons.1 h2 with h | h
          · exact .inl (.inl (by cases x; simp_all))
          · exact .inr ⟨h1, h⟩
def dup (l : List DPoint) (ps : List Int) : Prop := ∃ i, ∃ h : i < ps.length, ps[i] ∈ ps.take i ∨ ps[i] ∈ l.map (·.at_)
theorem none_iff {s : Int} (h0 : okShard s = true) : ∀ {ps : List Int} {l : List DPoint}, (∀ a ∈ ps, okAt a = true) → Fine l → (addGo s l ps = none ↔ dup l ps)
  | [], l, _, _ => ⟨fun h => (by cases h), fun ⟨i, h, _⟩ => absurd h (by simp)⟩
  | a :: ps, l, hp, hl => by
    rw [addGo]
    split
    · rename_i hh
      exact ⟨fun _ => ⟨0, by simp, .inr ((hit_iff hl.sorted).1 hh)⟩, fun _ => rfl⟩
    · rename_i hh
      have hn : a ∉ l.map (·.at_) := fun h => hh ((hit_iff hl.sorted).2 h)
      have ho : okPoint ⟨a, s⟩ = true := by simp only [okPoint, h0, hp a (by simp), Bool.and_self]
      rw [none_iff h0 (fun b hb => hp b (by simp [hb])) (hl.ins ho hn)]
      have hm : ∀ b : Int, b ∈ (ins l ⟨a, s⟩).map (·.at_) ↔ b = a ∨ b ∈ l.map (·.at_) := fun b => by
        simp only [List.mem_map, mem_ins]
        constructor
        · rintro ⟨x, h | h, e⟩
          · subst h; exact .inl e.symm
          · exact .inr ⟨x, h, e⟩
        · rintro (h | ⟨x, h, e⟩)
          · exact ⟨_, .inl rfl, h.symm⟩
          · exact ⟨x, .inr h, e⟩
      constructor
      · rintro ⟨i, hi, h⟩
        refine ⟨i + 1, by simpa using hi, ?_⟩
        simp only [List.getElem_cons_succ, List.take_succ_cons, List.mem_cons]
        rcases h with h | h
        · exact .inl (.inr h)
        · rcases (hm _).1 h with h | h
          · exact .inl (.inl h)
          · exact .inr h
      · rintro ⟨i, hi, h⟩
        cases i with
        | zero => simp only [List.getElem_cons_zero, List.take_zero, List.not_mem_nil, false_or] at h; exact absurd h hn
        | succ i =>
          simp only [List.getElem_cons_succ, List.take_succ_cons, List.mem_cons] at h
          refine ⟨i, by simpa using hi, ?_⟩
          rcases h with (h | h) | h
          · exact .inr ((hm _).2 (.inl h))
          · exact .inl h
          · exact .inr ((hm _).2 (.inr h))
structure AInv (l : List DPoint) (s : Int) (ps : List Int) (out : List DPoint) (k : Nat) : Prop where
  go : addGo s out (ps.drop k) = addGo s l ps
  fine : Fine out
  le : k ≤ ps.length
theorem AInv.start {l : List DPoint} {s : Int} {ps : List Int} (h : Ok l) : AInv l s ps l 0 := ⟨rfl, h.fine, Nat.zero_le _⟩
theorem AInv.len {l out : List DPoint} {s : Int} {ps : List Int} {k : Nat} (h : AInv l s ps out k) : out.length ≤ 65536 := h.fine.len
theorem right_at {s : Int} {ps : List Int} (h : rightAdd s ps = true) : okShard s = true ∧ ∀ a ∈ ps, okAt a = true := by
  simp only [rightAdd, Bool.and_eq_true, Bool.not_eq_true', List.any_eq_false] at h
  exact ⟨h.1, fun a ha => by have := h.2 a ha; simpa using this⟩
theorem AInv.next {l out : List DPoint} {s : Int} {ps : List Int} {k : Nat} (h : AInv l s ps out k) (hk : k < ps.length) (hr : rightAdd s ps = true) (hh : hit out ps[k] = false) : AInv l s ps (out.take (low out ps[k]) ++ [⟨ps[k], s⟩] ++ out.drop (low out ps[k])) (k + 1) := by
  have h1 := right_at hr
  have hn : ps[k] ∉ out.map (·.at_) := fun h2 => by rw [(hit_iff h.fine.sorted).2 h2] at hh; cases hh
  refine ⟨?_, h.fine.ins (p := ⟨ps[k], s⟩) (by simp only [okPoint, h1.1, h1.2 _ (List.getElem_mem hk), Bool.and_self]) hn, by omega⟩
  rw [← h.go, List.drop_eq_getElem_cons hk, addGo, if_neg (by simp [hh])]; rfl
theorem AInv.twice {l out : List DPoint} {s : Int} {ps : List Int} {k : Nat} (h : AInv l s ps out k) (hk : k < ps.length) (hh : hit out ps[k] = true) : addGo s l ps = none := by
  rw [← h.go, List.drop_eq_getElem_cons hk, addGo, if_pos hh]
theorem AInv.done {l out : List DPoint} {s : Int} {ps : List Int} {k : Nat} (h : AInv l s ps out k) (hk : ps.length ≤ k) : addGo s l ps = some out := by
  rw [← h.go, List.drop_of_length_le hk]; rfl
theorem ad1 {l : List DPoint} {s : Int} {ps : List Int} (h : check l ≠ 0) : add l s ps = [] ∧ addErr l s ps = check l := by
  have e : addErr l s ps = check l := if_neg h
  exact ⟨by unfold add; rw [e, if_neg h], e⟩
theorem ad2 {l : List DPoint} {s : Int} {ps : List Int} (h : check l = 0) (h2 : rightAdd s ps = false) : add l s ps = [] ∧ addErr l s ps = 3 := by
  have e : addErr l s ps = 3 := by unfold addErr; rw [if_pos h, if_neg (by simp [h2])]
  exact ⟨by unfold add; rw [e]; rfl, e⟩
theorem ad3 {l : List DPoint} {s : Int} {ps : List Int} (h : check l = 0) (h2 : rightAdd s ps = true) (h3 : addGo s l ps = none) : add l s ps = [] ∧ addErr l s ps = 6 := by
  have e : addErr l s ps = 6 := by unfold addErr; rw [if_pos h, if_pos h2, h3]
  exact ⟨by unfold add; rw [e]; rfl, e⟩
theorem ad4 {l o : List DPoint} {s : Int} {ps : List Int} (h : check l = 0) (h2 : rightAdd s ps = true) (h3 : addGo s l ps = some o) (h4 : 60 < o.length) : add l s ps = [] ∧ addErr l s ps = 2 := by
  have e : addErr l s ps = 2 := by unfold addErr; rw [if_pos h, if_pos h2, h3]; exact if_pos h4
  exact ⟨by unfold add; rw [e]; rfl, e⟩
theorem ad5 {l o : List DPoint} {s : Int} {ps : List Int} (h : check l = 0) (h2 : rightAdd s ps = true) (h3 : addGo s l ps = some o) (h4 : o.length ≤ 60) : add l s ps = o ∧ addErr l s ps = 0 := by
  have e : addErr l s ps = 0 := by unfold addErr; rw [if_pos h, if_pos h2, h3]; exact if_neg (by omega)
  exact ⟨by unfold add; rw [if_pos e, h3]; rfl, e⟩
theorem add_ok {l : List DPoint} {s : Int} {ps : List Int} (h : addErr l s ps = 0) : check l = 0 ∧ rightAdd s ps = true ∧ addGo s l ps = some (add l s ps) ∧ (add l s ps).length ≤ 60 := by
  by_cases h1 : check l = 0
  · cases h2 : rightAdd s ps
    · have := (ad2 h1 h2).2; omega
    · cases h3 : addGo s l ps with
      | none => have := (ad3 h1 h2 h3).2; omega
      | some o =>
        by_cases h4 : 60 < o.length
        · have := (ad4 h1 h2 h3 h4).2; omega
        · have h5 := ad5 h1 h2 h3 (by omega)
          rw [h5.1]; exact ⟨h1, rfl, rfl, by omega⟩
  · have := (ad1 (s := s) (ps := ps) h1).2; omega
theorem add_added {l : List DPoint} {s : Int} {ps : List Int} (h : addErr l s ps = 0) : Added l s ps (add l s ps) ∧ Ok (add l s ps) ∧ Ok l := by
  obtain ⟨h1, h2, h3, h4⟩ := add_ok h
  have h5 := right_at h2
  have h6 := added h5.1 h5.2 (check_ok.1 h1).fine h3
  exact ⟨h6, ⟨h4, h6.fine⟩, check_ok.1 h1⟩
/-! ### check -/
def CkI (l : List DPoint) (last : Int) (k : Nat) : Prop := k ≤ l.length ∧ checkGo last (l.drop k) = checkGo (-1) l
theorem CkI.start (l : List DPoint) : CkI l (-1) 0 := ⟨Nat.zero_le _, rfl⟩
theorem CkI.step {l : List DPoint} {last : Int} {k : Nat} (h : CkI l last k) (hk : k < l.length) : checkGo (-1) l = if okPoint l[k] = false then 3 else if l[k].at_ ≤ last then 4 else checkGo l[k].at_ (l.drop (k + 1)) := by
  rw [← h.2, List.drop_eq_getElem_cons hk, checkGo]
theorem CkI.bad {l : List DPoint} {last : Int} {k : Nat} (h : CkI l last k) (hk : k < l.length) (hl : l.length ≤ 60) (hb : okPoint l[k] = false) : 3 = check l := by unfold check; rw [if_neg (by omega), h.step hk, if_pos hb]
theorem CkI.low {l : List DPoint} {last : Int} {k : Nat} (h : CkI l last k) (hk : k < l.length) (hl : l.length ≤ 60) (hb : okPoint l[k] = true) (hx : l[k].at_ ≤ last) : 4 = check l := by unfold check; rw [if_neg (by omega), h.step hk, if_neg (by simp [hb]), if_pos hx]
theorem CkI.next {l : List DPoint} {last : Int} {k : Nat} (h : CkI l last k) (hk : k < l.length) (hb : okPoint l[k] = true) (hx : last < l[k].at_) : CkI l l[k].at_ (k + 1) := ⟨by omega, by rw [h.step hk, if_neg (by simp [hb]), if_neg (by omega)]⟩
theorem CkI.done {l : List DPoint} {last : Int} {k : Nat} (h : CkI l last k) (hk : l.length ≤ k) (hl : l.length ≤ 60) : 0 = check l := by unfold check; rw [if_neg (by omega), ← h.2, List.drop_of_length_le hk]; rfl
theorem chk2 {l : List DPoint} (h : 60 < (l.length : Int)) : 2 = check l := by unfold check; rw [if_pos (by omega)]
/-- the same loop, with the one before in place of the last one -/
def lastOf (l : List DPoint) (k : Nat) : Int := if k = 0 then -1 else (l.getD (k - 1) default).at_
/-! ### the owner -/
theorem ow_cases (l : List DPoint) (a : Int) : (check l ≠ 0 ∧ owner l a = 0 ∧ ownErr l a = check l) ∨ (check l = 0 ∧ okAt a = false ∧ owner l a = 0 ∧ ownErr l a = 3) ∨ (check l = 0 ∧ okAt a = true ∧ l.length = 0 ∧ owner l a = 0 ∧ ownErr l a = 5) ∨ (check l = 0 ∧ okAt a = true ∧ 0 < l.length ∧ owner l a = ownGo l a ∧ ownErr l a = 0) := by
  unfold owner
  by_cases h1 : check l = 0
  · cases h2 : okAt a
    · have e : ownErr l a = 3 := by unfold ownErr; rw [if_pos h1, if_neg (by simp [h2])]
      exact .inr (.inl ⟨h1, rfl, by rw [e]; rfl, e⟩)
    · by_cases h3 : l.length = 0
      · have e : ownErr l a = 5 := by unfold ownErr; rw [if_pos h1, if_pos h2, if_pos h3]
        exact .inr (.inr (.inl ⟨h1, rfl, h3, by rw [e]; rfl, e⟩))
      · have e : ownErr l a = 0 := by unfold ownErr; rw [if_pos h1, if_pos h2, if_neg h3]
        exact .inr (.inr (.inr ⟨h1, rfl, by omega, by rw [if_pos e], e⟩))
  · have e : ownErr l a = check l := if_neg h1
    exact .inl ⟨h1, by rw [e, if_neg h1], e⟩
theorem ow1 {l : List DPoint} {a : Int} (h : check l ≠ 0) : owner l a = 0 ∧ ownErr l a = check l := by rcases ow_cases l a with ⟨_, b⟩ | ⟨c, _⟩ | ⟨c, _⟩ | ⟨c, _⟩ <;> first | exact b | exact absurd c h
theorem ow2 {l : List DPoint} {a : Int} (h : check l = 0) (h2 : okAt a = false) : owner l a = 0 ∧ ownErr l a = 3 := by rcases ow_cases l a with ⟨c, b⟩ | ⟨_, _, b⟩ | ⟨_, c, _⟩ | ⟨_, c, _⟩ <;> first | exact b | exact absurd h c | (rw [h2] at c; cases c)
theorem ow3 {l : List DPoint} {a : Int} (h : check l = 0) (h2 : okAt a = true) (h3 : l.length = 0) : owner l a = 0 ∧ ownErr l a = 5 := by rcases ow_cases l a with ⟨c, b⟩ | ⟨_, c, b⟩ | ⟨_, _, _, b⟩ | ⟨_, _, c, _⟩ <;> first | exact b | exact absurd h c | (rw [h2] at c; cases c) | omega
theorem ow4 {l : List DPoint} {a : Int} (h : check l = 0) (h2 : okAt a = true) (h3 : 0 < l.length) : owner l a = ownGo l a ∧ ownErr l a = 0 := by rcases ow_cases l a with ⟨c, b⟩ | ⟨_, c, b⟩ | ⟨_, _, c, b⟩ | ⟨_, _, _, b⟩ <;> first | exact b | exact absurd h c | (rw [h2] at c; cases c) | omega
theorem ix_lt {l : List DPoint} (h : 0 < l.length) (a : Int) : ownIx l a < l.length := by unfold ownIx; have := low_le l a; split <;> omega
theorem ix_mod {l : List DPoint} (h : 0 < l.length) (a : Int) : ((low l a : Nat) : Int).tmod (l.length : Int) = (ownIx l a : Int) := by
  have h1 := low_le l a
  unfold ownIx
  split
  · rename_i e; rw [e, Int.tmod_self]; rfl
  · rw [Int.tmod_eq_emod_of_nonneg (by omega), Int.emod_eq_of_lt (by omega) (by omega)]
/-- how far a point stands behind a place, once round -/
def far (a : Int) (p : DPoint) : Int := if a ≤ p.at_ then p.at_ - a else p.at_ + 65536 - a
theorem far_inj {a : Int} (ha : okAt a = true) {p q : DPoint} (hp : okPoint p = true) (hq : okPoint q = true) (h : far a p = far a q) : p.at_ = q.at_ := by
  have h1 := okPoint_iff.1 hp; have h2 := okPoint_iff.1 hq
  simp only [okAt, Bool.and_eq_true, decide_eq_true_eq] at ha
  unfold far at h; split at h <;> split at h <;> omega
theorem near {l : List DPoint} (h : Fine l) (h0 : 0 < l.length) {a : Int} (ha : okAt a = true) : ∃ p ∈ l, ownGo l a = p.shard ∧ ∀ q ∈ l, far a p ≤ far a q := by
  have hx := ix_lt h0 a
  refine ⟨l[ownIx l a], List.getElem_mem hx, by unfold ownGo; rw [← getd_at hx default], fun q hq => ?_⟩
  simp only [okAt, Bool.and_eq_true, decide_eq_true_eq] at ha
  obtain ⟨j, hj, rfl⟩ := List.getElem_of_mem hq
  have h1 := okPoint_iff.1 (h.point _ (List.getElem_mem hx)); have h2 := okPoint_iff.1 (h.point _ (List.getElem_mem hj))
  have hle := low_le l a
  by_cases e : low l a = l.length
  · have hx0 : ownIx l a = 0 := if_pos e
    have h3 := below (a := a) (show j < l.length by omega) (by omega)
    have h4 := below (a := a) (show ownIx l a < l.length by omega) (by omega)
    unfold far; rw [if_neg (by omega), if_neg (by omega)]
    rcases Nat.eq_zero_or_pos j with h5 | h5
    · subst h5; simp only [hx0]; omega
    · have := sorted_at h.sorted hx hj (by omega); omega
  · have hx0 : ownIx l a = low l a := if_neg e
    have h4 := above h.sorted (a := a) hx (by omega)
    unfold far; rw [if_pos h4]
    rcases Nat.lt_or_ge j (low l a) with h5 | h5
    · have := below (a := a) hj h5; rw [if_neg (by omega)]; omega
    · have h6 := above h.sorted (a := a) hj h5
      rw [if_pos h6]
      rcases Nat.eq_or_lt_of_le h5 with h7 | h7
      · have e3 : l[j] = l[ownIx l a] := by congr 1; omega
        rw [e3]; omega
      · have := sorted_at h.sorted hx hj (by omega); omega
theorem same_pt {l : List DPoint} (h : Fine l) {p q : DPoint} (hp : p ∈ l) (hq : q ∈ l) (e : p.at_ = q.at_) : p = q := by
  obtain ⟨i, hi, rfl⟩ := List.getElem_of_mem hp
  obtain ⟨j, hj, rfl⟩ := List.getElem_of_mem hq
  rcases Nat.lt_trichotomy i j with h1 | h1 | h1
  · have := sorted_at h.sorted hi hj h1; omega
  · subst h1; rfl
  · have := sorted_at h.sorted hj hi h1; omega
/-- in a part of the points the nearest one is the nearest of all, or of another kind -/
theorem near_part {l m : List DPoint} (hl : Fine l) (hm : Fine m) (h0 : 0 < l.length) (hlm : ∀ p ∈ l, p ∈ m) {s a : Int} (ha : okAt a = true) (hs : ∀ p ∈ m, p ∉ l → p.shard = s) : ownGo l a = ownGo m a ∨ ownGo m a = s := by
  have hm0 : 0 < m.length := List.length_pos_of_mem (hlm _ (List.getElem_mem h0))
  obtain ⟨p, hp, e1, h1⟩ := near hl h0 ha
  obtain ⟨q, hq, e2, h2⟩ := near hm hm0 ha
  by_cases hql : q ∈ l
  · have h3 := h1 q hql; have h4 := h2 p (hlm p hp)
    have := same_pt hl hp hql (far_inj ha (hl.point p hp) (hl.point q hql) (by omega))
    subst this; exact .inl (by rw [e1, e2])
  · exact .inr (by rw [e2, hs q hq hql])
theorem own_in {l : List DPoint} (h : Fine l) (h0 : 0 < l.length) {a : Int} (ha : okAt a = true) : ∃ p ∈ l, ownGo l a = p.shard := by
  obtain ⟨p, hp, e, _⟩ := near h h0 ha; exact ⟨p, hp, e⟩
/-! ### removing -/
theorem mem_drop {l : List DPoint} {s : Int} {p : DPoint} : p ∈ dropS l s ↔ p ∈ l ∧ p.shard ≠ s := by simp [dropS]
theorem drop_fine {l : List DPoint} (h : Fine l) (s : Int) : Fine (dropS l s) := ⟨fun p hp => h.point p (mem_drop.1 hp).1, List.Pairwise.filter _ h.sorted⟩
theorem drop_len (l : List DPoint) (s : Int) : (dropS l s).length ≤ l.length := List.length_filter_le _ _
theorem re_cases (l : List DPoint) (s : Int) : (check l ≠ 0 ∧ rem l s = [] ∧ remErr l s = check l) ∨ (check l = 0 ∧ (dropS l s).length = l.length ∧ rem l s = [] ∧ remErr l s = 5) ∨ (check l = 0 ∧ (dropS l s).length ≠ l.length ∧ rem l s = dropS l s ∧ remErr l s = 0) := by
  unfold rem
  by_cases h1 : check l = 0
  · by_cases h2 : (dropS l s).length = l.length
    · have e : remErr l s = 5 := by unfold remErr; rw [if_pos h1, if_pos h2]
      exact .inr (.inl ⟨h1, h2, by rw [e]; rfl, e⟩)
    · have e : remErr l s = 0 := by unfold remErr; rw [if_pos h1, if_neg h2]
      exact .inr (.inr ⟨h1, h2, by rw [if_pos e], e⟩)
  · have e : remErr l s = check l := if_neg h1
    exact .inl ⟨h1, by rw [e, if_neg h1], e⟩
theorem re1 {l : List DPoint} {s : Int} (h : check l ≠ 0) : rem l s = [] ∧ remErr l s = check l := by rcases re_cases l s with ⟨_, b⟩ | ⟨c, _⟩ | ⟨c, _⟩ <;> first | exact b | exact absurd c h
theorem re2 {l : List DPoint} {s : Int} (h : check l = 0) (h2 : (dropS l s).length = l.length) : rem l s = [] ∧ remErr l s = 5 := by rcases re_cases l s with ⟨c, b⟩ | ⟨_, _, b⟩ | ⟨_, c, _⟩ <;> first | exact b | exact absurd h c | exact absurd h2 c
theorem re3 {l : List DPoint} {s : Int} (h : check l = 0) (h2 : (dropS l s).length ≠ l.length) : rem l s = dropS l s ∧ remErr l s = 0 := by rcases re_cases l s with ⟨c, b⟩ | ⟨_, c, b⟩ | ⟨_, _, b⟩ <;> first | exact b | exact absurd h c | exact absurd c h2
end Go.Sx.Rg
