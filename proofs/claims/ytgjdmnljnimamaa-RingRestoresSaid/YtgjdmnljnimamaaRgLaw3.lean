/- Rings of points: what the laws say. -/
import Derived.Test.YtgjdmnljnimamaaRgLaw2
import Derived.Test.YtgjdmnljnimamaaSx21
namespace Go.Sx.Rg
theorem own_ok {l : List DPoint} {a : Int} (h : ownErr l a = 0) : Ok l ∧ okAt a = true ∧ 0 < l.length ∧ owner l a = ownGo l a := by
  rcases ow_cases l a with ⟨c, _, e⟩ | ⟨_, _, _, e⟩ | ⟨_, _, _, _, e⟩ | ⟨c, d, f, g, _⟩
  · omega
  · omega
  · omega
  · exact ⟨check_ok.1 c, d, f, g⟩
theorem moves1 {l : List DPoint} {s a : Int} {ps : List Int} (h : addErr l s ps = 0) (h2 : ownErr l a = 0) : ownErr (add l s ps) a = 0 ∧ (owner l a = owner (add l s ps) a ∨ owner (add l s ps) a = s) := by
  obtain ⟨h3, h4, h5⟩ := add_added h
  obtain ⟨h6, h7, h8, h9⟩ := own_ok h2
  have h10 : 0 < (add l s ps).length := by have := h3.len; omega
  obtain ⟨e1, e2⟩ := ow4 (check_ok.2 h4) h7 h10
  refine ⟨e2, ?_⟩
  rw [h9, e1]
  exact near_part h6.fine h4.fine h8 (fun p hp => (h3.mem p).2 (.inl hp)) h7 (fun p hp hn => ((h3.mem p).1 hp).elim (fun h => absurd h hn) (·.1))
theorem moves2 {l : List DPoint} {s a : Int} (h : remErr l s = 0) (h2 : ownErr l a = 0) (h0 : 0 < (rem l s).length) : ownErr (rem l s) a = 0 ∧ (owner l a = owner (rem l s) a ∨ owner l a = s) ∧ owner (rem l s) a ≠ s := by
  obtain ⟨h6, h7, h8, h9⟩ := own_ok h2
  have hr : rem l s = dropS l s := by
    rcases re_cases l s with ⟨_, _, e⟩ | ⟨_, _, _, e⟩ | ⟨_, _, e, _⟩
    · have := check_ok.2 h6; omega
    · omega
    · exact e
  rw [hr] at h0 ⊢
  have h4 : Ok (dropS l s) := ⟨by have := drop_len l s; have := h6.len; omega, drop_fine h6.fine s⟩
  obtain ⟨e1, e2⟩ := ow4 (check_ok.2 h4) h7 h0
  refine ⟨e2, ?_, ?_⟩
  · rw [h9, e1]
    rcases near_part (s := s) h4.fine h6.fine h0 (fun p hp => (mem_drop.1 hp).1) h7 (fun p hp hn => by
      by_cases e : p.shard = s
      · exact e
      · exact absurd (mem_drop.2 ⟨hp, e⟩) hn) with h | h
    · exact .inl h.symm
    · exact .inr h
  · rw [e1]
    obtain ⟨p, hp, e⟩ := own_in h4.fine h0 h7
    rw [e]; exact (mem_drop.1 hp).2
theorem restores {l : List DPoint} {s : Int} {ps : List Int} (h : addErr l s ps = 0) (h2 : remErr l s = 5) (h0 : ps ≠ []) : remErr (add l s ps) s = 0 ∧ rem (add l s ps) s = l := by
  obtain ⟨h3, h4, h5⟩ := add_added h
  have h0' := List.length_pos_iff.2 h0
  have hd : dropS l s = l := by
    rcases re_cases l s with ⟨c, _, e⟩ | ⟨_, c, _, _⟩ | ⟨_, _, _, e⟩
    · exact absurd (check_ok.2 h5) c
    · exact List.filter_sublist.eq_of_length c
    · omega
  have hl : (dropS (add l s ps) s).length ≠ (add l s ps).length := by rw [h3.less, hd, h3.len]; omega
  obtain ⟨e1, e2⟩ := re3 (check_ok.2 h4) hl
  exact ⟨e2, by rw [e1, h3.less, hd]⟩
/-! ### shares -/
theorem sum_add (f g : Nat → Int) : ∀ n : Nat, ((List.range n).map fun s => f s + g s).sum = ((List.range n).map f).sum + ((List.range n).map g).sum
  | 0 => rfl
  | n + 1 => by
    simp only [List.range_succ, List.map_append, List.sum_append, sum_add f g n, List.map_cons, List.map_nil, List.sum_cons, List.sum_nil]; omega
theorem sum_one (x c : Int) : ∀ n : Nat, ((List.range n).map fun s : Nat => if x = (s : Int) then c else 0).sum = if 0 ≤ x ∧ x < n then c else 0
  | 0 => by simp; omega
  | n + 1 => by
    simp only [List.range_succ, List.map_append, List.sum_append, sum_one x c n, List.map_cons, List.map_nil, List.sum_cons, List.sum_nil]
    split <;> split <;> split <;> omega
theorem sum_zero : ∀ n : Nat, ((List.range n).map fun _ : Nat => (0 : Int)).sum = 0
  | 0 => rfl
  | n + 1 => by simp [List.range_succ, sum_zero n]
theorem sum_go : ∀ (l : List DPoint) (last : Int), (∀ p ∈ l, okPoint p = true) → ((List.range 20).map fun s : Nat => shGo (s : Int) last l).sum = ((l.getLast?.map (·.at_)).getD last) - last
  | [], last, _ => by simp only [shGo]; rw [sum_zero]; simp
  | p :: l, last, h => by
    have e : (((p :: l).getLast?.map (·.at_)).getD last) = ((l.getLast?.map (·.at_)).getD p.at_) := by
      cases l with
      | nil => rfl
      | cons z x => rw [List.getLast?_cons_cons]; simp [List.getLast?_cons]
    simp only [shGo]
    rw [sum_add (fun s : Nat => if p.shard = (s : Int) then p.at_ - last else 0), sum_one, sum_go l p.at_ (fun q hq => h q (by simp [hq])), e]
    have := (okPoint_iff.1 (h p (by simp))).1
    rw [if_pos (by omega)]; omega
theorem sum20 {l : List DPoint} (h : Fine l) (h0 : 0 < l.length) : (shares20 l).sum = 65536 := by
  unfold shares20 share
  rw [sum_go l _ h.point, last_is h0]; omega
theorem shares_ok {l : List DPoint} (h : shErr l 20 = 0) : shares l 20 = shares20 l ∧ Ok l ∧ 0 < l.length := by
  rcases sh_cases l 20 with ⟨c, _, e⟩ | ⟨_, _, _, e⟩ | ⟨_, _, _, _, e⟩ | ⟨c, _, d, e, _⟩
  · omega
  · omega
  · omega
  · refine ⟨?_, check_ok.1 c, d⟩
    rw [e, List.take_of_length_le]; simp [shares20]
theorem shares_len {l : List DPoint} (h : shErr l 20 = 0) : (shares l 20).length = 20 := by rw [(shares_ok h).1]; simp [shares20]
theorem shares_bd {l : List DPoint} (h : shErr l 20 = 0) {j : Nat} (hj : j < (shares l 20).length) : 0 ≤ (shares l 20)[j] ∧ (shares l 20)[j] ≤ 65536 := by
  obtain ⟨h1, h2, h3⟩ := shares_ok h
  have e : (shares l 20)[j] = share l (j : Nat) := by simp only [h1, shares20, List.getElem_map, List.getElem_range]
  rw [e]; exact share_bd h2.fine _
theorem shares_bad {l : List DPoint} {n : Int} (h : shErr l n ≠ 0) : shares l n = [] := by unfold shares; rw [if_neg h]
/-- the sum of the first ones -/
def UInv (x : List Int) (all : Int) (i : Nat) : Prop := i ≤ x.length ∧ all = (x.take i).sum
theorem UInv.start (x : List Int) : UInv x 0 0 := ⟨Nat.zero_le _, by simp⟩
theorem UInv.next {x : List Int} {all : Int} {i : Nat} (h : UInv x all i) (hi : i < x.length) : UInv x (all + x[i]) (i + 1) := ⟨by omega, by rw [List.take_succ_eq_append_getElem hi, List.sum_append, h.2]; simp⟩
theorem sum_le {x : List Int} (h : ∀ j (hj : j < x.length), 0 ≤ x[j] ∧ x[j] ≤ 65536) : ∀ (i : Nat), i ≤ x.length → 0 ≤ (x.take i).sum ∧ (x.take i).sum ≤ 65536 * (i : Int)
  | 0, _ => by simp
  | i + 1, hi => by
    have h1 := sum_le h i (by omega)
    have h2 := h i (by omega)
    rw [List.take_succ_eq_append_getElem (by omega), List.sum_append]
    simp only [List.sum_cons, List.sum_nil]; omega
theorem UInv.bd {l : List DPoint} {all : Int} {i : Nat} (h : UInv (shares l 20) all i) (h2 : shErr l 20 = 0) : 0 ≤ all ∧ all ≤ 1310720 := by
  have h3 := sum_le (fun j hj => shares_bd h2 hj) i h.1
  rw [← h.2] at h3
  have := h.1; rw [shares_len h2] at this; omega
theorem UInv.done {l : List DPoint} {all : Int} {i : Nat} (h : UInv (shares l 20) all i) (h2 : shErr l 20 = 0) (hi : (shares l 20).length ≤ i) : all = 65536 := by
  rw [h.2, List.take_of_length_le hi, (shares_ok h2).1]; exact sum20 (shares_ok h2).2.1.fine (shares_ok h2).2.2
theorem sh_same {s : Int} : ∀ (x : List DPoint) {a b : Int}, x ≠ [] → shGo s a x - shGo s b x = if (x.head?.map (·.shard)) = some s then b - a else 0
  | [], _, _, h => absurd rfl h
  | p :: x, a, b, _ => by
    simp only [shGo, List.head?_cons, Option.map_some, Option.some.injEq]
    split <;> omega
theorem share_ins {l : List DPoint} (h : Fine l) (h0 : 0 < l.length) {p : DPoint} (hp : okPoint p = true) (hn : p.at_ ∉ l.map (·.at_)) (s : Int) : (s ≠ p.shard → share (ins l p) s ≤ share l s) ∧ (s = p.shard → share l s ≤ share (ins l p) s) := by
  have hle := low_le l p.at_
  have hlp := (okPoint_iff.1 hp).2
  rcases Nat.eq_or_lt_of_le hle with e | e
  · -- behind all others
    have hi : ins l p = l ++ [p] := by unfold ins; rw [e]; simp
    have hb1 : begun (l ++ [p]) = p.at_ - 65536 := by unfold begun; simp
    have hla : ((l.getLast?.map (·.at_)).getD (p.at_ - 65536)) = begun l + 65536 := last_is h0 _
    have hlt : begun l + 65536 < p.at_ := by
      have := below (a := p.at_) (k := l.length - 1) (l := l) (by omega) (by omega)
      unfold begun; rw [← getd_at (by omega) default]; omega
    have hs := sh_same (s := s) l (a := p.at_ - 65536) (b := begun l) (List.length_pos_iff.1 h0)
    rw [hi]; unfold share; rw [hb1, shGo_append, hla]
    simp only [shGo]
    constructor
    · intro hs2; rw [if_neg (fun h => hs2 h.symm)]; split at hs <;> omega
    · intro hs2; rw [if_pos hs2.symm]; split at hs <;> omega
  · -- ahead of another
    have hd : l.drop (low l p.at_) = l[low l p.at_] :: l.drop (low l p.at_ + 1) := List.drop_eq_getElem_cons e
    have hi : ins l p = l.take (low l p.at_) ++ (p :: l[low l p.at_] :: l.drop (low l p.at_ + 1)) := by unfold ins; rw [hd]; simp
    have hl : l = l.take (low l p.at_) ++ (l[low l p.at_] :: l.drop (low l p.at_ + 1)) := by rw [← hd, List.take_append_drop]
    have hb : begun (ins l p) = begun l := by
      have e9 : low l p.at_ + (l.length - (l.take (low l p.at_) ++ [p]).length) = l.length - 1 := by simp only [List.length_append, List.length_take, List.length_singleton]; omega
      unfold begun
      rw [ins_len, Nat.add_sub_cancel, List.getD_eq_getElem?_getD, List.getD_eq_getElem?_getD]
      unfold ins
      rw [List.getElem?_append_right (by simp only [List.length_append, List.length_take, List.length_singleton]; omega), List.getElem?_drop, e9]
    have h1 := above h.sorted (a := p.at_) e (Nat.le_refl _)
    have h2 : l[low l p.at_].at_ ≠ p.at_ := fun e2 => hn (List.mem_map.2 ⟨_, List.getElem_mem e, e2⟩)
    have h3 : (((l.take (low l p.at_)).getLast?.map (·.at_)).getD (begun l)) < p.at_ := by
      rw [last_take hle]; split
      · rename_i h4
        have h5 := begun_lt h _ (List.getElem_mem e)
        have h6 := (okPoint_iff.1 (h.point _ (List.getElem_mem (show l.length - 1 < l.length by omega)))).2
        have h7 : begun l = l[l.length - 1].at_ - 65536 := by unfold begun; rw [← getd_at (by omega) default]
        omega
      · rw [← getd_at (by omega) default]; exact below (by omega) (by omega)
    have e1 : share l s = shGo s (begun l) (l.take (low l p.at_)) + ((if l[low l p.at_].shard = s then l[low l p.at_].at_ - (((l.take (low l p.at_)).getLast?.map (·.at_)).getD (begun l)) else 0) + shGo s l[low l p.at_].at_ (l.drop (low l p.at_ + 1))) := by
      unfold share
      conv => lhs; arg 3; rw [hl]
      rw [shGo_append]; rfl
    have e2 : share (ins l p) s = shGo s (begun l) (l.take (low l p.at_)) + ((if p.shard = s then p.at_ - (((l.take (low l p.at_)).getLast?.map (·.at_)).getD (begun l)) else 0) + ((if l[low l p.at_].shard = s then l[low l p.at_].at_ - p.at_ else 0) + shGo s l[low l p.at_].at_ (l.drop (low l p.at_ + 1)))) := by
      unfold share
      rw [hb, hi, shGo_append]; rfl
    rw [e1, e2]
    constructor
    · intro hs2; rw [if_neg (fun h => hs2 h.symm)]; split <;> omega
    · intro hs2; rw [if_pos hs2.symm]; split <;> omega
theorem share_add {s : Int} (h0 : okShard s = true) : ∀ {ps : List Int} {l o : List DPoint}, (∀ a ∈ ps, okAt a = true) → Fine l → 0 < l.length → addGo s l ps = some o → ∀ i : Int, (i ≠ s → share o i ≤ share l i) ∧ (i = s → share l i ≤ share o i)
  | [], l, o, _, _, _, e, i => by simp only [addGo, Option.some.injEq] at e; subst e; exact ⟨fun _ => Int.le_refl _, fun _ => Int.le_refl _⟩
  | a :: ps, l, o, hp, hl, hl0, e, i => by
    rw [addGo] at e
    split at e
    · cases e
    · rename_i hh
      have hn : a ∉ l.map (·.at_) := fun h => hh ((hit_iff hl.sorted).2 h)
      have ho : okPoint ⟨a, s⟩ = true := by simp only [okPoint, h0, hp a (by simp), Bool.and_self]
      have h1 := share_ins hl hl0 ho hn i
      have h2 := share_add h0 (fun b hb => hp b (by simp [hb])) (hl.ins ho hn) (by rw [ins_len]; omega) e i
      exact ⟨fun h => Int.le_trans (h2.1 h) (h1.1 h), fun h => Int.le_trans (h1.2 h) (h2.2 h)⟩
theorem shares_add {l : List DPoint} {s : Int} {ps : List Int} (h : shErr l 20 = 0) (h2 : addErr l s ps = 0) : shErr (add l s ps) 20 = 0 ∧ (shares (add l s ps) 20).length = 20 ∧ ∀ (i : Nat) (hi : i < (shares l 20).length) (hj : i < (shares (add l s ps) 20).length), ((i : Int) ≠ s → (shares (add l s ps) 20)[i] ≤ (shares l 20)[i]) ∧ ((i : Int) = s → (shares l 20)[i] ≤ (shares (add l s ps) 20)[i]) := by
  obtain ⟨h3, h4, h5⟩ := shares_ok h
  obtain ⟨g1, g2, _⟩ := add_added h2
  have g3 : shErr (add l s ps) 20 = 0 := (sh4 (check_ok.2 g2) (by decide) (by have := g1.len; omega)).2
  obtain ⟨h6, _, _⟩ := shares_ok g3
  refine ⟨g3, shares_len g3, fun i hi hj => ?_⟩
  have hi' := hi; rw [shares_len h] at hi'
  have e1 : (shares l 20)[i] = share l (i : Nat) := by simp only [h3, shares20, List.getElem_map, List.getElem_range]
  have e2 : (shares (add l s ps) 20)[i] = share (add l s ps) (i : Nat) := by simp only [h6, shares20, List.getElem_map, List.getElem_range]
  rw [e1, e2]
  obtain ⟨k1, k2, k3, _⟩ := add_ok h2
  exact share_add (right_at k2).1 (right_at k2).2 h4.fine h5 k3 _
end Go.Sx.Rg
namespace Go.Sx.Rg
/-! ### what the walks need -/
theorem between_at (n : Int) : Ref.between n 0 65535 = okAt n := by simp only [Ref.between, okAt]; congr 1; exact decide_eq_decide.2 (by omega)
theorem between_sh (n : Int) : Ref.between n 0 19 = okShard n := by simp only [Ref.between, okShard]; congr 1; exact decide_eq_decide.2 (by omega)
theorem bad_of {l : List DPoint} {i : Nat} (hi : i < l.length) (h : Ref.between l[i].shard 0 19 = false ∨ Ref.between l[i].at_ 0 65535 = false) : okPoint l[i] = false := by
  rw [between_sh, between_at] at h; unfold okPoint; rcases h with h | h <;> simp [h]
theorem fine_of {l : List DPoint} {i : Nat} (hi : i < l.length) (h : Ref.between l[i].shard 0 19 = true ∧ Ref.between l[i].at_ 0 65535 = true) : okPoint l[i] = true := by
  rw [between_sh, between_at] at h; unfold okPoint; simp [h]
theorem bad_p {l : List DPoint} {i : Nat} (hi : i < l.length) (h : okShard l[i].shard = false ∨ okAt l[i].at_ = false) : okPoint l[i] = false := by
  unfold okPoint; rcases h with h | h <;> simp [h]
theorem fine_p {l : List DPoint} {i : Nat} (hi : i < l.length) (h : okShard l[i].shard = true ∧ okAt l[i].at_ = true) : okPoint l[i] = true := by
  unfold okPoint; simp [h]
/-- RingCheck: the one before in place of the last one -/
def RkI (l : List DPoint) (i : Nat) : Prop := CkI l (lastOf l i) i
theorem RkI.start (l : List DPoint) : RkI l 0 := CkI.start l
theorem RkI.bad {l : List DPoint} {i : Nat} (h : RkI l i) (hi : i < l.length) (hl : l.length ≤ 60) (hb : okPoint l[i] = false) : 3 = check l := CkI.bad h hi hl hb
theorem RkI.low {l : List DPoint} {i : Nat} (h : RkI l i) (hi : i < l.length) (hl : l.length ≤ 60) (hb : okPoint l[i] = true) (h0 : 0 < i) {j : Nat} (ej : j = i - 1) (hj : j < l.length) (hx : l[i].at_ ≤ l[j].at_) : 4 = check l := by
  subst ej
  exact CkI.low h hi hl hb (by unfold lastOf; rw [if_neg (by omega), ← getd_at hj default]; exact hx)
theorem RkI.next {l : List DPoint} {i : Nat} (h : RkI l i) (hi : i < l.length) (hb : okPoint l[i] = true) (hx : i ≤ 0 ∨ ∃ j, ∃ hj : j < l.length, j = i - 1 ∧ l[j].at_ < l[i].at_) : RkI l (i + 1) := by
  have e : lastOf l (i + 1) = l[i].at_ := by unfold lastOf; rw [if_neg (by omega), Nat.add_sub_cancel, ← getd_at hi default]
  unfold RkI; rw [e]
  refine CkI.next h hi hb ?_
  unfold lastOf
  split
  · have := (okPoint_iff.1 hb).2; omega
  · rcases hx with hx | ⟨j, hj, rfl, hx⟩
    · omega
    · rw [← getd_at hj default]; exact hx
theorem RkI.done {l : List DPoint} {i : Nat} (h : RkI l i) (hi : l.length ≤ i) (hl : l.length ≤ 60) : 0 = check l := CkI.done h hi hl
theorem RkI.le {l : List DPoint} {i : Nat} (h : RkI l i) : i ≤ l.length := h.1
/-- places that are right, so far -/
def PlI (ps : List Int) (i : Nat) : Prop := i ≤ ps.length ∧ ∀ j (h : j < ps.length), j < i → okAt ps[j] = true
theorem PlI.start (ps : List Int) : PlI ps 0 := ⟨Nat.zero_le _, fun j h h2 => by omega⟩
theorem PlI.next {ps : List Int} {i : Nat} (h : PlI ps i) (hi : i < ps.length) (hx : Ref.between ps[i] 0 65535 = true) : PlI ps (i + 1) := ⟨by omega, fun j hj h2 => by
  by_cases e : j = i
  · subst e; rw [← between_at]; exact hx
  · exact h.2 j hj (by omega)⟩
theorem PlI.bad {s : Int} {ps : List Int} {i : Nat} (hi : i < ps.length) (hx : Ref.between ps[i] 0 65535 = false) : rightAdd s ps = false := wrong_of hi (by rw [← between_at]; exact hx)
/-- what RingAdd gives, of points that are right -/
theorem ref_done {l t all out : List DPoint} {s last : Int} {ps : List Int} (hck : check l = 0) (hr : rightAdd s ps = true) (ht : addGo s l ps = some t) (hall : all = allP l s ps) (hlen : (l.length : Int) + ps.length ≤ 60) (h : TInv t all out last) (ho : all.length ≤ out.length) : add l s ps = out ∧ addErr l s ps = 0 := by
  have h1 := added (right_at hr).1 (right_at hr).2 (check_ok.1 hck).fine ht
  have h2 : t.length = all.length := by rw [hall, allP_len]; exact h1.len
  have h3 := h.done (by omega)
  subst h3
  exact ad5 hck hr ht (by have := h1.len; omega)
theorem ref_many {l t : List DPoint} {s : Int} {ps : List Int} (hck : check l = 0) (hr : rightAdd s ps = true) (ht : addGo s l ps = some t) (hlen : 60 < (l.length : Int) + ps.length) : add l s ps = [] ∧ addErr l s ps = 2 := by
  have h1 := added (right_at hr).1 (right_at hr).2 (check_ok.1 hck).fine ht
  exact ad4 hck hr ht (by have := h1.len; omega)
theorem ref_t {l t all : List DPoint} {s : Int} {ps : List Int} (hck : Ok l) (hr : rightAdd s ps = true) (ht : addGo s l ps = some t) (hall : all = allP l s ps) : Fine t ∧ (∀ x, x ∈ t ↔ x ∈ all) ∧ t.length = all.length := by
  have h1 := added (right_at hr).1 (right_at hr).2 hck.fine ht
  exact ⟨h1.fine, fun x => by rw [hall, mem_allP]; exact h1.mem x, by rw [hall, allP_len]; exact h1.len⟩
/-- RingSpec -/
theorem jw1 {l : List DPoint} {a : Int} (hc : check l = 0) (h : a < 0 ∨ 65535 < a) : (3 : Int) = ownErr l a ∧ (0 : Int) = owner l a := by
  have := ow2 (a := a) hc (by unfold okAt; rcases h with h | h <;> simp <;> omega); exact ⟨this.2.symm, this.1.symm⟩
theorem jw2 {l : List DPoint} {a : Int} (hc : check l = 0) (h : 0 ≤ a ∧ a ≤ 65535) (h3 : (l.length : Int) = 0) : (5 : Int) = ownErr l a ∧ (0 : Int) = owner l a := by
  have := ow3 (a := a) hc (by simp only [okAt, Bool.and_eq_true, decide_eq_true_eq]; omega) (by omega); exact ⟨this.2.symm, this.1.symm⟩
theorem jw3 {l : List DPoint} {a : Int} (hc : check l = 0) (h : 0 ≤ a ∧ a ≤ 65535) (h3 : (l.length : Int) ≠ 0) : check l = ownErr l a ∧ ownGo l a = owner l a := by
  have := ow4 (a := a) hc (by simp only [okAt, Bool.and_eq_true, decide_eq_true_eq]; omega) (by omega); exact ⟨by rw [this.2, hc], this.1.symm⟩
def RmI (l : List DPoint) (s : Int) (d : List DPoint) (i : Nat) : Prop := i ≤ l.length ∧ d = dropS (l.take i) s
theorem RmI.start (l : List DPoint) (s : Int) : RmI l s [] 0 := ⟨Nat.zero_le _, rfl⟩
theorem RmI.add {l d : List DPoint} {s : Int} {i : Nat} (h : RmI l s d i) (hi : i < l.length) (hx : l[i].shard ≠ s) : RmI l s (d ++ [l[i]]) (i + 1) := ⟨by omega, by
  rw [List.take_succ_eq_append_getElem hi, dropS, List.filter_append, h.2]; simp [dropS, hx]⟩
theorem RmI.skip {l d : List DPoint} {s : Int} {i : Nat} (h : RmI l s d i) (hi : i < l.length) (hx : l[i].shard = s) : RmI l s d (i + 1) := ⟨by omega, by
  rw [List.take_succ_eq_append_getElem hi, dropS, List.filter_append, h.2]; simp [dropS, hx]⟩
theorem RmI.len {l d : List DPoint} {s : Int} {i : Nat} (h : RmI l s d i) : d.length ≤ i := by rw [h.2]; have := drop_len (l.take i) s; simp only [List.length_take] at this; omega
theorem RmI.done {l d : List DPoint} {s : Int} {i : Nat} (h : RmI l s d i) (hi : l.length ≤ i) : d = dropS l s := by rw [h.2, List.take_of_length_le hi]
theorem ju1 {l d : List DPoint} {s : Int} (hc : check l = 0) (hd : d = dropS l s) (h : (d.length : Int) = l.length) : ([] : List DPoint) = rem l s ∧ (5 : Int) = remErr l s := by
  subst hd; have := re2 hc (by omega : (dropS l s).length = l.length); exact ⟨this.1.symm, this.2.symm⟩
theorem ju2 {l d : List DPoint} {s : Int} (hc : check l = 0) (hd : d = dropS l s) (h : (d.length : Int) ≠ l.length) : d = rem l s ∧ check l = remErr l s := by
  subst hd; have := re3 hc (by omega : (dropS l s).length ≠ l.length); exact ⟨this.1.symm, by rw [this.2, hc]⟩
theorem jo1 {l : List DPoint} {n : Int} (hc : check l = 0) (h : n < 1 ∨ 20 < n) : (3 : Int) = shErr l n := (sh2 hc (by omega)).2.symm
theorem jo2 {l : List DPoint} {n : Int} (hc : check l = 0) (h : 1 ≤ n ∧ n ≤ 20) (h3 : (l.length : Int) = 0) : (5 : Int) = shErr l n := (sh3 hc h (by omega)).2.symm
theorem jo3 {l : List DPoint} {n : Int} (hc : check l = 0) (h : 1 ≤ n ∧ n ≤ 20) (h3 : (l.length : Int) ≠ 0) : check l = shErr l n := by rw [(sh4 hc h (by omega)).2, hc]
structure VInv (l : List DPoint) (n : Int) (x : List Int) (i : Nat) : Prop where
  is : x = (shares20 l).take i
  le : i ≤ 20
  no : shErr l n ≠ 0 → i = 0
  yes : shErr l n = 0 → (i : Int) ≤ n
theorem sh_n {l : List DPoint} {n : Int} (h : shErr l n = 0) : (1 ≤ n ∧ n ≤ 20) ∧ shares l n = (shares20 l).take n.toNat := by
  rcases sh_cases l n with ⟨c, _, e⟩ | ⟨_, _, _, e⟩ | ⟨_, _, _, _, e⟩ | ⟨_, d, _, e, _⟩
  · omega
  · omega
  · omega
  · exact ⟨d, e⟩
theorem VInv.start (l : List DPoint) (n : Int) : VInv l n [] 0 := ⟨by simp, by omega, fun _ => rfl, fun h => by have := (sh_n h).1; omega⟩
theorem VInv.next {l : List DPoint} {n : Int} {x : List Int} {i : Nat} (h : VInv l n x i) (hi : (i : Int) < n ∧ shErr l n = 0) : VInv l n (x ++ [share l (i : Int)]) (i + 1) := by
  have h1 := (sh_n hi.2).1
  have h2 : i < (shares20 l).length := by simp [shares20]; omega
  refine ⟨?_, by omega, fun h => absurd hi.2 h, fun _ => by omega⟩
  rw [List.take_succ_eq_append_getElem h2, ← h.is]; simp [shares20]
theorem VInv.done {l : List DPoint} {n : Int} {x : List Int} {i : Nat} (h : VInv l n x i) (hi : n ≤ (i : Int) ∨ shErr l n ≠ 0) : x = shares l n := by
  by_cases e : shErr l n = 0
  · have h1 := h.yes e; have h2 := sh_n e
    rw [h2.2, h.is, show i = n.toNat by omega]
  · rw [shares_bad e, h.is, h.no e]; rfl
theorem VInv.len {l : List DPoint} {n : Int} {x : List Int} {i : Nat} (h : VInv l n x i) : x.length ≤ 20 := by rw [h.is]; have := h.le; simp only [List.length_take]; omega
end Go.Sx.Rg
namespace Go.Sx.Rg
theorem keep_all {l : List DPoint} {s : Int} (h : idxF (fun x : DPoint => (x.shard == s)) l = -1) : dropS l s = l := by
  rcases idxF_cases (fun x : DPoint => (x.shard == s)) l with ⟨k, _, e, _⟩ | ⟨_, h1⟩
  · omega
  · exact List.filter_eq_self.2 fun x hx => by have := h1 x hx; simpa using this
theorem HInv.first0 {l : List DPoint} {s n : Int} {i : Nat} (h : HInv l s n i) (hi : i < l.length) (hx : l[i].shard = s) (h0 : (i : Int) = 0) {v : Int} (hv : v = n + (l[0].at_ + 1 + 65535 - l[l.length - 1].at_)) : HInv l s v (i + 1) := by
  obtain rfl : i = 0 := by omega
  exact h.first hi hx rfl (by rw [hv, ← getd_at (show l.length - 1 < l.length by omega) default]; omega)
theorem HInv.then0 {l : List DPoint} {s n : Int} {i : Nat} (h : HInv l s n i) (hi : i < l.length) (hx : l[i].shard = s) (h0 : (i : Int) ≠ 0) {v : Int} (hj : ((i : Int) - 1).toNat < l.length) (hv : v = n + (l[i].at_ - l[((i : Int) - 1).toNat].at_)) : HInv l s v (i + 1) := by
  have e : ((i : Int) - 1).toNat = i - 1 := by omega
  simp only [e] at hv
  exact h.then hi hx (by omega) (by omega) hv
theorem same_no {a b : List DPoint} (h : (a.length : Int) ≠ b.length) : false = decide (a = b) := by
  symm; rw [decide_eq_false_iff_not]; rintro rfl; exact h rfl
theorem same_no2 {a b : List DPoint} {i : Nat} (h1 : i < a.length) (h2 : i < b.length) (h : ¬ (a[i].at_ = b[i].at_ ∧ a[i].shard = b[i].shard)) : false = decide (a = b) := by
  symm; rw [decide_eq_false_iff_not]; rintro rfl; exact h ⟨rfl, rfl⟩
theorem same_yes {a b : List DPoint} (h : (a.length : Int) = b.length) (h2 : ∀ j (h1 : j < a.length) (h2 : j < b.length), a[j] = b[j]) : true = decide (a = b) := by
  symm; rw [decide_eq_true_iff]; exact List.ext_getElem (by omega) h2
theorem point_eq {a b : DPoint} (h : a.at_ = b.at_ ∧ a.shard = b.shard) : a = b := by
  cases a; cases b; obtain ⟨h1, h2⟩ := h; simp only at h1 h2; rw [h1, h2]
end Go.Sx.Rg
