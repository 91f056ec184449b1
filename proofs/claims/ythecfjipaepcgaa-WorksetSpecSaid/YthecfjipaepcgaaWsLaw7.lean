/- Working sets: the reference's faults and phases. -/
import Derived.Test.YthecfjipaepcgaaWsLaw6
namespace Go.Sx.Ws
theorem has_prev {l : List Int} {w : Int} (h1 : 1 ≤ w) {i : Nat} (hi : i < l.length) (h0 : 0 < i) : Ref.hasInt (set l w ((i : Int) - 1).toNat) l[i] = decide (l[i] ∈ win l w i) := by
  have e : ((i : Int) - 1).toNat = i - 1 := by omega
  rw [Ref.hasInt, e]
  refine decide_eq_decide.2 ?_
  rw [set_mem h1 (by omega), show i - 1 + 1 = i by omega]
theorem wf_next {l : List Int} {w n : Int} (h1 : 1 ≤ w) {i : Nat} (hi : i < l.length) (h : n = fc l w i) (hc : (i : Int) = 0 ∨ Ref.hasInt (set l w ((i : Int) - 1).toNat) l[i] = false) : n + 1 = fc l w (i + 1) := by
  rw [fc, getD_at hi, h]
  by_cases h0 : i = 0
  · subst h0; simp [win]
  · rw [has_prev h1 hi (by omega)] at hc
    rw [if_neg (by rcases hc with h | h; omega; simpa using h)]
theorem wf_skip {l : List Int} {w n : Int} (h1 : 1 ≤ w) {i : Nat} (hi : i < l.length) (h : n = fc l w i) (hc : (i : Int) ≠ 0 ∧ Ref.hasInt (set l w ((i : Int) - 1).toNat) l[i] = true) : n = fc l w (i + 1) := by
  rw [has_prev h1 hi (by omega)] at hc
  rw [fc, getD_at hi, if_pos (by simpa using hc.2), h, Int.add_zero]
/-! ### Phases -/
structure PR (l : List Int) (w least : Int) (out : List Int) (i : Nat) : Prop where
  le : i ≤ l.length
  eq : out = (ph l w least i).1
  pos : 0 < i → 0 < out.length ∧ ∀ h : out.length - 1 < out.length, out[out.length - 1] = (ph l w least i).2.1
  last : 0 < i → 0 ≤ (ph l w least i).2.1 ∧ (ph l w least i).2.1 < i ∧ (ph l w least i).2.2 = mapAt l w ((ph l w least i).2.1.toNat + 1)
  len : out.length ≤ i
theorem PR.start (l : List Int) (w least : Int) : PR l w least [] 0 := ⟨Nat.zero_le _, rfl, fun h => by omega, fun h => by omega, Nat.le_refl _⟩
theorem PR.add {l : List Int} {w least : Int} {out : List Int} {i : Nat} (h : PR l w least out i) (hi : i < l.length) (hc : i = 0 ∨ ((ph l w least i).2.1 + w ≤ (i : Int) ∧ common (ph l w least i).2.2 (mapAt l w (i + 1)) < least)) : PR l w least (out ++ [(i : Int)]) (i + 1) := by
  have e : ph l w least (i + 1) = ((ph l w least i).1 ++ [(i : Int)], (i : Int), mapAt l w (i + 1)) := by rw [ph, if_pos hc]
  refine ⟨hi, by rw [e, h.eq], fun _ => ⟨by simp, fun hl => ?_⟩, fun _ => ?_, by have := h.len; simp; omega⟩
  · rw [e]; simp
  · rw [e]; simp; omega
theorem PR.skip {l : List Int} {w least : Int} {out : List Int} {i : Nat} (h : PR l w least out i) (hi : i < l.length) (h0 : i ≠ 0) (hc : (i : Int) < (ph l w least i).2.1 + w ∨ least ≤ common (ph l w least i).2.2 (mapAt l w (i + 1))) : PR l w least out (i + 1) := by
  have e : ph l w least (i + 1) = ph l w least i := by rw [ph, if_neg (by rintro (h | h); exact h0 h; omega)]
  have h3 := h.last (by omega)
  exact ⟨hi, by rw [e]; exact h.eq, fun _ => by rw [e]; exact h.pos (by omega), fun _ => by rw [e]; exact ⟨h3.1, by omega, h3.2.2⟩, by have := h.len; omega⟩
theorem common_sort (a b : M) : common a b = ((sortK a).countP (fun x => decide (x ∈ sortK b)) : Int) := by
  have hp : (sortK a).Perm (a.map (·.1)) := by unfold sortK; exact List.mergeSort_perm _ _
  rw [hp.countP_eq, List.countP_map, common]
  congr 2
  funext p
  rw [Bool.eq_iff_iff]
  simp only [Function.comp, decide_eq_true_eq]
  rw [AL.get_isSome, sortK_mem]
theorem cnt_hit {a : List Int} {b : List Int} {n : Int} {k : Nat} (hk : k < a.length) (h : n = ((a.take k).countP (fun x => decide (x ∈ b)) : Int)) (hc : Ref.hasInt b a[k] = true) : n + 1 = ((a.take (k + 1)).countP (fun x => decide (x ∈ b)) : Int) := by
  rw [List.take_succ_eq_append_getElem hk, List.countP_append, h]
  have : decide (a[k] ∈ b) = true := hc
  simp [List.countP_cons, this] at *
theorem cnt_miss {a : List Int} {b : List Int} {n : Int} {k : Nat} (hk : k < a.length) (h : n = ((a.take k).countP (fun x => decide (x ∈ b)) : Int)) (hc : Ref.hasInt b a[k] = false) : n = ((a.take (k + 1)).countP (fun x => decide (x ∈ b)) : Int) := by
  rw [List.take_succ_eq_append_getElem hk, List.countP_append, h]
  have : decide (a[k] ∈ b) = false := hc
  simp at this; simp [this]
theorem cnt_end {l : List Int} {w n : Int} {i j k : Nat} (h : n = (((set l w j).take k).countP (fun x => decide (x ∈ set l w i)) : Int)) (hk : (set l w j).length ≤ k) : n = common (mapAt l w (j + 1)) (mapAt l w (i + 1)) := by
  rw [common_sort, h, List.take_of_length_le hk]; rfl
theorem getd_last {out : List Int} (h : out.length - 1 < out.length) : out[out.length - 1] = out.getD (out.length - 1) default := by simp [List.getD, h]
theorem PR.add0 {l : List Int} {w least : Int} {out : List Int} {i : Nat} (h : PR l w least out i) (hi : i < l.length) (h0 : (i : Int) = 0) : PR l w least (out ++ [0]) (i + 1) := by
  have e : i = 0 := by omega
  subst e; exact h.add hi (.inl rfl)
theorem PR.near {l : List Int} {w least : Int} {out : List Int} {i : Nat} {v : Int} (h : PR l w least out i) (hi : i < l.length) (h0 : i ≠ 0) (hp : v = (ph l w least i).2.1) (hn : (i : Int) - v < w) : PR l w least out (i + 1) :=
  h.skip hi h0 (.inl (by rw [← hp]; omega))
theorem cnt_fin {l : List Int} {w least n v : Int} {out : List Int} {i k : Nat} (h : PR l w least out i) (h0 : i ≠ 0) (hp : v = (ph l w least i).2.1) (hn : n = (((set l w v.toNat).take k).countP (fun x => decide (x ∈ set l w (i : Int).toNat)) : Int)) (hk : (set l w v.toNat).length ≤ k) : n = common (ph l w least i).2.2 (mapAt l w (i + 1)) := by
  obtain ⟨_, _, h3⟩ := h.last (by omega)
  rw [h3, ← hp]; exact cnt_end (by simpa using hn) hk
theorem PR.take2 {l : List Int} {w least n v : Int} {out : List Int} {i k : Nat} (h : PR l w least out i) (hi : i < l.length) (h0 : i ≠ 0) (hp : v = (ph l w least i).2.1) (hf : w ≤ (i : Int) - v) (hn : n = (((set l w v.toNat).take k).countP (fun x => decide (x ∈ set l w (i : Int).toNat)) : Int)) (hk : (set l w v.toNat).length ≤ k) (hl : n < least) : PR l w least (out ++ [(i : Int)]) (i + 1) :=
  h.add hi (.inr ⟨by rw [← hp]; omega, by rw [← cnt_fin h h0 hp hn hk]; exact hl⟩)
theorem PR.skip2 {l : List Int} {w least n v : Int} {out : List Int} {i k : Nat} (h : PR l w least out i) (hi : i < l.length) (h0 : i ≠ 0) (hp : v = (ph l w least i).2.1) (hn : n = (((set l w v.toNat).take k).countP (fun x => decide (x ∈ set l w (i : Int).toNat)) : Int)) (hk : (set l w v.toNat).length ≤ k) (hl : least ≤ n) : PR l w least out (i + 1) :=
  h.skip hi h0 (.inr (by rw [← cnt_fin h h0 hp hn hk]; exact hl))
theorem cnt_hit2 {a b : List Int} {n : Int} {k : Nat} (hk : k < a.length) (h : n = ((a.take k).countP (fun x => decide (x ∈ b)) : Int)) (hc : Ref.hasInt b (a.getD k default) = true) : n + 1 = ((a.take (k + 1)).countP (fun x => decide (x ∈ b)) : Int) := by
  have e : a.getD k default = a[k] := getD_at hk
  rw [e] at hc; exact cnt_hit hk h hc
theorem cnt_miss2 {a b : List Int} {n : Int} {k : Nat} (hk : k < a.length) (h : n = ((a.take k).countP (fun x => decide (x ∈ b)) : Int)) (hc : Ref.hasInt b (a.getD k default) = false) : n = ((a.take (k + 1)).countP (fun x => decide (x ∈ b)) : Int) := by
  have e : a.getD k default = a[k] := getD_at hk
  rw [e] at hc; exact cnt_miss hk h hc
end Go.Sx.Ws
namespace Go.Sx.Ws
theorem set_bad {l : List Int} {i w : Int} (h : check l w = 0 ∧ (i < 0 ∨ (l.length : Int) ≤ i)) : setErr l i w = 3 ∧ setR l i w = [] :=
  set2 (chk_ok h.1).1 (by rintro ⟨h1, h2, _⟩; have := h.2; omega)
theorem set_good {l : List Int} {i w : Int} (h : check l w = 0) (h2 : ¬ check l w = 0 ∨ (0 ≤ i ∧ i < (l.length : Int))) : setErr l i w = 0 ∧ setR l i w = set l w i.toNat :=
  set3 (chk_ok h).1 ⟨(h2.resolve_left fun q => q h).1, (h2.resolve_left fun q => q h).2, (chk_ok h).2.1⟩
theorem sz_next2 {l out : List Int} {w : Int} {k : Nat} (h : out = (List.range k).map (size l w)) : out ++ [((set l w (k : Int).toNat).length : Int)] = (List.range (k + 1)).map (size l w) := by
  rw [← sz_next h, set, sortK_len]; simp
end Go.Sx.Ws
namespace Go.Sx.Ws
theorem okWin_no {n : Int} (h : n < 1 ∨ 200 < n) : okWin n = false := by unfold okWin; rcases h with h | h <;> simp <;> omega
theorem okWin_yes {n : Int} (h : 1 ≤ n ∧ n ≤ 200) : okWin n = true := by simpa [okWin] using h
theorem spec_bad {l : List Int} {w : Int} (h : check l w ≠ 0) (i least : Int) : setErr l i w = check l w ∧ setR l i w = [] ∧ sizes l w = [] ∧ faults l w = 0 ∧ phErr l w least = check l w ∧ phases l w least = [] := by
  have hp := ph1 (least := least) h
  refine ⟨?_, ?_, by rw [sizes, if_neg h], by rw [faults, if_neg h], hp.1, hp.2⟩
  all_goals
    rcases chk_cases l w with ⟨h1, h2⟩ | ⟨h1, h2, h3⟩ | ⟨h1, h2, h3⟩
    · first | (rw [(set1 h1).1, h2]; done) | exact (set1 h1).2
    · have q := set2 (i := i) h1 (by rintro ⟨_, _, q⟩; rw [h2] at q; cases q)
      first | (rw [q.1, h3]; done) | exact q.2
    · exact absurd h3 h
end Go.Sx.Ws
