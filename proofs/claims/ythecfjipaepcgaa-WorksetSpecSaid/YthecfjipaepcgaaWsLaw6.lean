/- Working sets: from one index to the next; a window as long as the trace. -/
import Derived.Test.YthecfjipaepcgaaWsLaw5
namespace Go.Sx.Ws
theorem set_length (m : M) (k x : Int) : (AL.set m k x).length = if k ∈ m.map (·.1) then m.length else m.length + 1 := by
  have := congrArg List.length (AL.set_keys m k x)
  rw [List.length_map] at this
  rw [this]; split <;> simp
theorem del_length {m : M} {k : Int} (h : k ∈ m.map (·.1)) : (AL.del m k).length + 1 = m.length := by
  have := congrArg List.length (AL.del_keys m k)
  rw [List.length_map, List.length_erase_of_mem h, List.length_map] at this
  have h0 : 0 < m.length := by cases m with | nil => cases h | cons a m => simp
  omega
theorem step_len {l : List Int} {w : Int} (h1 : 1 ≤ w) {k : Nat} (hk : k < l.length) : (mapAt l w (k + 1)).length ≤ (mapAt l w k).length + 1 ∧ (mapAt l w k).length ≤ (mapAt l w (k + 1)).length + 1 := by
  have hup : (up (mapAt l w k) l[k]).length = if l[k] ∈ (mapAt l w k).map (·.1) then (mapAt l w k).length else (mapAt l w k).length + 1 := set_length _ _ _
  by_cases hw : w ≤ (k : Int)
  · have hj : ((k : Int) - w).toNat < l.length := by omega
    have hc := (mapAt_cnt (l := l) h1 k (by omega)).up l[k]
    rw [← win_slide hk h1 hw hj] at hc
    have hm : l[((k : Int) - w).toNat] ∈ (up (mapAt l w k) l[k]).map (·.1) := (hc.mem _).2 (by simp)
    have hdn : (down (up (mapAt l w k) l[k]) l[((k : Int) - w).toNat]).length = (up (mapAt l w k) l[k]).length := by rw [down, set_length, if_pos hm]
    by_cases hz : (AL.get (down (up (mapAt l w k) l[k]) l[((k : Int) - w).toNat]) l[((k : Int) - w).toNat]).getD 0 = 0
    · rw [← at2 rfl hk hw hj hz]
      have hm2 : l[((k : Int) - w).toNat] ∈ (down (up (mapAt l w k) l[k]) l[((k : Int) - w).toNat]).map (·.1) := by rw [down, AL.set_keys, if_pos hm]; exact hm
      have := del_length hm2
      split at hup <;> omega
    · rw [← at3 rfl hk hw hj hz, hdn, hup]; split <;> omega
  · rw [← at1 rfl hk (by omega), hup]; split <;> omega
theorem sz_at {l : List Int} {w : Int} (h : check l w = 0) {i : Nat} (hi : i < l.length) : (sizes l w).getD i default = size l w i := by
  rw [sizes, if_pos h]; simp [List.getD, hi]
theorem sz_len {l : List Int} {w : Int} (h : check l w = 0) : (sizes l w).length = l.length := by rw [sizes, if_pos h]; simp
theorem sz_bd {l : List Int} (h : l.length ≤ 200) (w : Int) (j : Nat) : 0 ≤ (sizes l w).getD j default ∧ (sizes l w).getD j default ≤ 200 := by
  by_cases hc : check l w = 0
  · by_cases hj : j < l.length
    · rw [sz_at hc hj, size]
      have := mapAt_len (okWin_bd (chk_ok hc).2.1).1 (l := l) (k := j + 1) (by omega)
      have := win_len l w (j + 1)
      omega
    · have e : (sizes l w).getD j default = default := by rw [List.getD_eq_getElem?_getD, List.getElem?_eq_none (by rw [sz_len hc]; omega)]; rfl
      rw [e]; decide
  · rw [sizes, if_neg hc]; simp
theorem steps_law {l : List Int} {w : Int} (h : check l w = 0) {i : Nat} (hi : i < l.length) :
    ((sizes l w).length : Int) = l.length ∧ 1 ≤ (sizes l w).getD i default ∧ (0 < i → (sizes l w).getD i default - (sizes l w).getD ((i : Int) - 1).toNat default ≤ 1 ∧ (sizes l w).getD ((i : Int) - 1).toNat default - (sizes l w).getD i default ≤ 1) := by
  have hw := okWin_bd (chk_ok h).2.1
  refine ⟨by rw [sz_len h], ?_, fun h0 => ?_⟩
  · rw [sz_at h hi, size]
    have h2 := set_has hw.1 hi
    have h3 := List.length_pos_of_mem h2
    rw [set, sortK_len] at h3; omega
  · have e : ((i : Int) - 1).toNat = i - 1 := by omega
    rw [e, sz_at h hi, sz_at h (by omega), size, size]
    have := step_len hw.1 (l := l) (k := i) hi
    rw [show i - 1 + 1 = i by omega]; omega
theorem sz_no {l : List Int} {w : Int} {i : Nat} (hi : i < l.length) (h : check l w = 0 ∧ ((((sizes l w).length : Int) ≠ l.length ∨ (sizes l w).getD i default < 1) ∨ (0 < (i : Int) ∧ (1 < (sizes l w).getD i default - (sizes l w).getD ((i : Int) - 1).toNat default ∨ 1 < (sizes l w).getD ((i : Int) - 1).toNat default - (sizes l w).getD i default)))) : False := by
  obtain ⟨a, b, c⟩ := steps_law h.1 hi
  rcases h.2 with (h | h) | ⟨h0, h⟩
  · exact h a
  · omega
  · have := c (by omega); omega
/-! ### Different keys -/
structure UI (l unlike : List Int) (i : Nat) : Prop where
  le : i ≤ l.length
  mem : ∀ x, x ∈ unlike ↔ x ∈ l.take i
  cnt : (unlike.length : Int) = fc l 200 i
theorem UI.start (l : List Int) : UI l [] 0 := ⟨Nat.zero_le _, fun x => by simp, rfl⟩
theorem win_all {l : List Int} (h : l.length ≤ 200) {i : Nat} (hi : i ≤ l.length) : win l 200 i = l.take i := by rw [win, show i - (200 : Int).toNat = 0 by simp; omega, List.drop_zero]
theorem UI.add {l unlike : List Int} {i : Nat} (h : UI l unlike i) (hl : l.length ≤ 200) (hi : i < l.length) (hc : Ref.hasInt unlike l[i] = false) : UI l (unlike ++ [l[i]]) (i + 1) := by
  have hn : l[i] ∉ l.take i := fun hm => by have := (h.mem _).2 hm; simp [Ref.hasInt, this] at hc
  refine ⟨hi, fun x => ?_, ?_⟩
  · rw [List.take_succ_eq_append_getElem hi, List.mem_append, List.mem_append, h.mem]
  · rw [fc, getD_at hi, win_all hl (by omega), if_neg hn, ← h.cnt]; simp
theorem UI.skip {l unlike : List Int} {i : Nat} (h : UI l unlike i) (hl : l.length ≤ 200) (hi : i < l.length) (hc : Ref.hasInt unlike l[i] = true) : UI l unlike (i + 1) := by
  have hm : l[i] ∈ l.take i := (h.mem _).1 (by simpa [Ref.hasInt] using hc)
  refine ⟨hi, fun x => ?_, ?_⟩
  · rw [List.take_succ_eq_append_getElem hi, List.mem_append, h.mem]
    exact ⟨.inl, fun q => q.elim id (fun q => by rw [List.mem_singleton.1 q]; exact hm)⟩
  · rw [fc, getD_at hi, win_all hl (by omega), if_pos hm, ← h.cnt]; simp
theorem UI.add2 {l unlike : List Int} {i : Nat} (h : UI l unlike i) (hl : l.length ≤ 200) (hi : i < l.length) (hc : Ref.hasInt unlike (l.getD i default) = false) : UI l (unlike ++ [l.getD i default]) (i + 1) := by
  have e : l.getD i default = l[i] := getD_at hi
  rw [e] at hc ⊢; exact h.add hl hi hc
theorem UI.skip2 {l unlike : List Int} {i : Nat} (h : UI l unlike i) (hl : l.length ≤ 200) (hi : i < l.length) (hc : Ref.hasInt unlike (l.getD i default) = true) : UI l unlike (i + 1) := by
  have e : l.getD i default = l[i] := getD_at hi
  rw [e] at hc; exact h.skip hl hi hc
theorem UI.done {l unlike : List Int} {i : Nat} (h : UI l unlike i) (hi : l.length ≤ i) (hc : check l 200 = 0) : faults l 200 = (unlike.length : Int) := by
  have := h.le
  rw [faults, if_pos hc, h.cnt, show i = l.length by omega]
theorem bad200 {l : List Int} (h : check l 200 ≠ 0) (w : Int) : (check l w != 0 && faults l 200 == 0) = true := by
  have ht : Lru.trace l ≠ 0 := fun h0 => h (chk_of h0 (by decide))
  have e : check l w = Lru.trace l := by rw [check, if_neg ht]
  rw [faults, if_neg h, e]; simp [ht]
end Go.Sx.Ws
