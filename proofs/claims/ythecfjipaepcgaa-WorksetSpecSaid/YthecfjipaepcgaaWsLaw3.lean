/- Working sets: what Set answers. -/
import Derived.Test.YthecfjipaepcgaaWsLaw2
namespace Go.Sx.Ws
theorem mapAt_len {l : List Int} {w : Int} (h1 : 1 ≤ w) {k : Nat} (hk : k ≤ l.length) : (mapAt l w k).length ≤ (win l w k).length := by
  have h := mapAt_cnt h1 k hk
  have := Belady.nodup_le (l := (mapAt l w k).map (·.1)) (m := win l w k) h.nd (fun x hx => (h.mem x).1 hx)
  simpa using this
theorem map_srt {l : List Int} {w : Int} (h1 : 1 ≤ w) {k : Nat} (hk : k ≤ l.length) (ht : Lru.trace l = 0) : ((mapAt l w k).map (·.1)).Nodup ∧ (∀ p ∈ mapAt l w k, (Lit.int .i64 p.1).wf = true) ∧ (mapAt l w k).length ≤ 1000000 := by
  have h := mapAt_cnt h1 k hk
  obtain ⟨h200, hk0⟩ := Lru.trace_ok.1 ht
  refine ⟨h.nd, fun p hp => ?_, by have := mapAt_len h1 hk; have := win_len l w k; omega⟩
  have h2 := (h.mem p.1).1 (List.mem_map_of_mem hp)
  obtain ⟨j, hj, _, _, _, e⟩ := (win_mem hk).1 h2
  have h3 := Lru.key_ok (hk0 _ (List.getElem_mem hj))
  rw [e] at h3
  have e1 : IntKind.i64.min = -9223372036854775808 := by decide
  have e2 : IntKind.i64.max = 9223372036854775807 := by decide
  simp only [Lit.wf, Bool.and_eq_true, decide_eq_true_eq, e1, e2]
  omega
def setErr (l : List Int) (i w : Int) : Int := if Lru.trace l = 0 then (if 0 ≤ i ∧ i < (l.length : Int) ∧ okWin w = true then 0 else 3) else Lru.trace l
def setR (l : List Int) (i w : Int) : List Int := if setErr l i w = 0 then set l w i.toNat else []
theorem set1 {l : List Int} {i w : Int} (h : Lru.trace l ≠ 0) : setErr l i w = Lru.trace l ∧ setR l i w = [] := by
  have e : setErr l i w = Lru.trace l := by rw [setErr, if_neg h]
  exact ⟨e, by rw [setR, e, if_neg h]⟩
theorem set2 {l : List Int} {i w : Int} (h : Lru.trace l = 0) (h2 : ¬ (0 ≤ i ∧ i < (l.length : Int) ∧ okWin w = true)) : setErr l i w = 3 ∧ setR l i w = [] := by
  have e : setErr l i w = 3 := by rw [setErr, if_pos h, if_neg h2]
  exact ⟨e, by rw [setR, e, if_neg (by decide)]⟩
theorem set3 {l : List Int} {i w : Int} (h : Lru.trace l = 0) (h2 : 0 ≤ i ∧ i < (l.length : Int) ∧ okWin w = true) : setErr l i w = 0 ∧ setR l i w = set l w i.toNat := by
  have e : setErr l i w = 0 := by rw [setErr, if_pos h, if_pos h2]
  exact ⟨e, by rw [setR, if_pos e]⟩
theorem set2b {l : List Int} {i w : Int} (h : Lru.trace l = 0 ∧ ((i < 0 ∨ (l.length : Int) ≤ i) ∨ okWin w = false)) : setErr l i w = 3 ∧ setR l i w = [] := by
  refine set2 h.1 ?_
  rintro ⟨h1, h2, h3⟩
  rcases h.2 with (h4 | h4) | h4
  · omega
  · omega
  · rw [h3] at h4; cases h4
theorem set_len {l : List Int} {w : Int} (h1 : 1 ≤ w) {i : Nat} (hi : i < l.length) : (set l w i).length ≤ l.length := by
  rw [set, sortK_len]; have := mapAt_len h1 (l := l) (k := i + 1) (by omega); have := win_len l w (i + 1); omega
/-! ### Sizes -/
def size (l : List Int) (w : Int) (i : Nat) : Int := ((mapAt l w (i + 1)).length : Int)
def sizes (l : List Int) (w : Int) : List Int := if check l w = 0 then (List.range l.length).map (size l w) else []
theorem sz_start (l : List Int) (w : Int) : ([] : List Int) = (List.range 0).map (size l w) := rfl
theorem sz_next {l out : List Int} {w : Int} {k : Nat} (h : out = (List.range k).map (size l w)) : out ++ [((mapAt l w (k + 1)).length : Int)] = (List.range (k + 1)).map (size l w) := by
  rw [List.range_succ, List.map_append, h]; rfl
theorem sz_end {l out : List Int} {w : Int} (h : out = (List.range l.length).map (size l w)) (hc : check l w = 0) : out = sizes l w := by rw [sizes, if_pos hc, h]
theorem sz_bad {l : List Int} {w : Int} (hc : check l w ≠ 0) : [] = sizes l w := by rw [sizes, if_neg hc]
end Go.Sx.Ws
