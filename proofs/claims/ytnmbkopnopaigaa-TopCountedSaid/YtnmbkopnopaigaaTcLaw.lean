/- How often keys are counted, and what a sketch of their names says. -/
import Derived.Test.YtnmbkopnopaigaaHaPureM12
import Derived.Test.YtnmbkopnopaigaaSx31M2
namespace Go.Sx.Tc
open Go.Sx.Sk
def nm (k : Int) : ByteArray := bytesOf [IntKind.u8.wrap k, IntKind.u8.wrap (k / 2 ^ 8), IntKind.u8.wrap (k / 2 ^ 16)]
theorem nm_size (k : Int) : (nm k).size = 3 := by simp [nm, bytesOf, ByteArray.size_push]
def wd (wide : Int) : Nat := (max 0 (min wide 64)).toNat
def start (wide : Int) (i : Nat) : DSketch := ⟨wide, List.replicate i (List.replicate (max 0 (min wide 64)).toNat 0)⟩
theorem start_next (wide : Int) (i : Nat) : (⟨(start wide i).wide, (start wide i).counts ++ [List.replicate (max 0 (min wide 64)).toNat 0]⟩ : DSketch) = start wide (i + 1) := by
  unfold start; rw [rep_next]
theorem start_row {wide : Int} {i r : Nat} (h : r < i) : (start wide i).counts.getD r [] = List.replicate (max 0 (min wide 64)).toNat 0 := by
  unfold start; rw [getD_of (by simpa using h)]; simp
structure EC (s0 : DSketch) (l : List Int) (s : DSketch) (k : Nat) : Prop where
  le : k ≤ l.length
  st : k = 0 → s = s0
  ok : 0 < k → Sk.Ok s
  tot : 0 < k → total s = k
  lo : 0 < k → ∀ (x : Int) r, r < s.counts.length → ((l.take k).count x : Int) ≤ vl s.counts r (place (nm x) r s.wide).toNat
theorem EC.start (s0 : DSketch) (l : List Int) : EC s0 l s0 0 := ⟨Nat.zero_le _, fun _ => rfl, fun h => absurd h (Nat.lt_irrefl 0), fun h => absurd h (Nat.lt_irrefl 0), fun h => absurd h (Nat.lt_irrefl 0)⟩
theorem count_next {l : List Int} {k : Nat} (h : k < l.length) (x : Int) : ((l.take (k + 1)).count x : Int) = ((l.take k).count x : Int) + if l.getD k default = x then 1 else 0 := by
  rw [List.take_succ_eq_append_getElem h, List.count_append, getD_of h]
  simp only [List.count_cons, List.count_nil, beq_iff_eq]
  split <;> simp
theorem pl_lt {s : DSketch} (h : Sk.Ok s) (key : ByteArray) {r : Nat} (hr : r < s.counts.length) : (place key r s.wide).toNat < (s.counts.getD r []).length := by
  have h1 := place_bd key r (wide := s.wide) ⟨h.w1, h.w2⟩
  have h2 := h.row_len hr
  omega
theorem EC.next {wide : Int} {i : Nat} {l : List Int} {s : DSketch} {k : Nat} (h : EC (Tc.start wide i) l s k) (hk : k < l.length) (he : addErr s (nm (l.getD k default)) 1 = 0) : EC (Tc.start wide i) l (add s (nm (l.getD k default)) 1) (k + 1) := by
  have hA := addErr_iff.1 he
  have h0 : total s = k := by
    rcases Nat.eq_zero_or_pos k with e | e
    · have hs := h.st e
      subst e
      have hp := hA.ok.pos
      rw [total, if_pos (check_ok.2 hA.ok)]
      subst hs
      rw [start_row (by simp [Tc.start] at hp; omega), sum_rep]; rfl
    · exact h.tot e
  have h1 : ∀ (x : Int) r, r < s.counts.length → ((l.take k).count x : Int) ≤ vl s.counts r (place (nm x) r s.wide).toNat := fun x r hr => by
    rcases Nat.eq_zero_or_pos k with e | e
    · subst e
      rw [List.take_zero, List.count_nil]
      exact (hA.ok.vl hr (pl_lt hA.ok _ hr)).1
    · exact h.lo e x r hr
  refine ⟨hk, fun e => absurd e (Nat.succ_ne_zero k), fun _ => hA.after, fun _ => by rw [hA.total, h0]; rfl, fun _ x r hr => ?_⟩
  rw [hA.len] at hr
  rw [hA.wide, hA.vl hr (pl_lt hA.ok _ hr), count_next hk]
  have h2 := h1 x r hr
  by_cases c : l.getD k default = x
  · have hb := (place_bd (nm x) r (wide := s.wide) ⟨hA.ok.w1, hA.ok.w2⟩).1
    rw [if_pos c, c, if_pos (Int.toNat_of_nonneg hb)]
    exact Int.add_le_add_right h2 1
  · rw [if_neg c, Int.add_zero]
    split
    · exact Int.le_trans h2 (Int.le_of_lt (Int.lt_add_one_iff.2 (Int.le_refl _)))
    · exact h2
theorem EC.est {s0 : DSketch} {l : List Int} {s : DSketch} {k : Nat} (h : EC s0 l s k) (hk : l.length ≤ k) (h0 : 0 < l.length) (x : Int) : keyErr s (nm x) = 0 ∧ (l.count x : Int) ≤ Sk.est s (nm x) := by
  have hle := h.le
  have hok := h.ok (by omega)
  have hke : keyErr s (nm x) = 0 := by rw [keyErr, if_neg (by simpa using check_ok.2 hok)]; exact sumErr_iff.2 (by rw [nm_size]; decide)
  have hlo := h.lo (by omega) x
  rw [List.take_of_length_le (by omega)] at hlo
  have key : ∀ n, n ≤ s.counts.length → (l.count x : Int) ≤ leastTo s (nm x) n := by
    intro n
    induction n with
    | zero => intro _; have := hok.pos; exact hlo 0 (by omega)
    | succ n ih =>
      intro hn
      exact Int.le_min.2 ⟨ih (by omega), hlo n (by omega)⟩
  rw [Sk.est, if_pos hke]
  exact ⟨hke, key _ (Nat.le_refl _)⟩
theorem EC.done {s0 : DSketch} {l : List Int} {s : DSketch} {k : Nat} (h : EC s0 l s k) (hk : l.length ≤ k) (h0 : 0 < l.length) : check s = 0 ∧ total s = (l.length : Int) := by
  have hle := h.le
  exact ⟨check_ok.2 (h.ok (by omega)), by rw [h.tot (by omega)]; omega⟩
/-! ### what the cache counts -/
def CB (p : List Int) (u : DUses) : Prop := ∀ y ∈ u.list, y.count ≤ (p.count y.key : Int)
theorem CB.touch {p : List Int} {u : DUses} (h : CB p u) (key : Int) : CB (p ++ [key]) (Lfu.touch u key).1 := by
  have hm : ∀ y ∈ u.list, y.count ≤ ((p ++ [key]).count y.key : Int) := fun y hy => by
    have := h y hy
    rw [List.count_append]; omega
  have h1 : (1 : Int) ≤ ((p ++ [key]).count key : Int) := by
    rw [List.count_append]; simp; omega
  unfold Lfu.touch
  by_cases c : 0 ≤ Lfu.at_ u.list key
  · rw [if_pos c]
    obtain ⟨hl, hk⟩ := Lfu.at_pos c
    intro y hy
    rcases List.mem_cons.1 hy with rfl | hy
    · have h2 := h _ (List.getElem_mem hl)
      rw [getD_of hl]
      simp only
      rw [hk] at h2 ⊢
      rw [List.count_append]
      have h3 : ([key] : List Int).count key = 1 := by simp
      rw [h3]
      unfold Lfu.cap
      omega
    · exact hm y (List.mem_of_mem_eraseIdx hy)
  · rw [if_neg c]
    split
    · intro y hy
      rcases List.mem_cons.1 hy with rfl | hy
      · exact h1
      · exact hm y (List.mem_of_mem_eraseIdx hy)
    · intro y hy
      rcases List.mem_cons.1 hy with rfl | hy
      · exact h1
      · exact hm y hy
theorem CB.run {l : List Int} : ∀ {p : List Int} {u : DUses} {n : Int}, CB p u → CB (p ++ l) (Lfu.runGo u n l).1 := by
  induction l with
  | nil => intro p u n h; rw [List.append_nil]; exact h
  | cons k l ih =>
    intro p u n h
    have := ih (n := if (Lfu.touch u k).2.1 then n + 1 else n) (h.touch k)
    rw [List.append_assoc] at this
    exact this
theorem counted {room : Int} {l : List Int} (h : Lfu.runErr ⟨room, []⟩ l = 0) : ∀ y ∈ (Lfu.run ⟨room, []⟩ l).1.list, y.count ≤ (l.count y.key : Int) ∧ 0 < l.length := by
  obtain ⟨_, _, h3⟩ := Lfu.run_ok h
  rw [h3]
  intro y hy
  have h4 : CB ([] ++ l) (Lfu.runGo ⟨room, []⟩ 0 l).1 := CB.run (fun y hy => by cases hy)
  refine ⟨h4 y hy, ?_⟩
  cases l with
  | nil => cases hy
  | cons k l => simp
end Go.Sx.Tc
