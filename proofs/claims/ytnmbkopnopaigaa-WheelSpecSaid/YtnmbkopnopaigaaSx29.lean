/- Lists of numbers sorted and cleared of doublets in place: the kit's contracts over the entries here. -/
import Derived.Test.YtnmbkopnopaigaaSx12M17
import Derived.Sort.Row
import Derived.Sort.Grow
import Derived.Lib.SlicesCompact
namespace Go.Sx
open Go.RowKit Go.Sort
def sortL (l : List Int) : List Int := l.mergeSort (fun x y => decide (x ≤ y))
theorem sortL_len (l : List Int) : (sortL l).length = l.length := by simp [sortL]
theorem sortL_perm (l : List Int) : (sortL l).Perm l := List.mergeSort_perm l _
section
variable {w0 w : World} {H : List Ent} {S : Nat → Prop} {cap i blk off : Nat} {L : List Int}
theorem own_holds (hw : HeapIs w0 H w) (hi : H[i]? = some (own tInt S (some ⟨blk, off, none⟩) cap L)) : Holds (Value.int .i64) w blk off L.toArray ∧ blk < w.heap.size ∧ L.length ≤ cap ∧ L.length ≤ 140737488355328 := by
  obtain ⟨h1, h2, h3, h4, ⟨c, ty, h5, h6⟩, h7⟩ := (hw.at hi).here
  refine ⟨fun j hj => ?_, (Array.getElem?_eq_some_iff.1 h5).1, h1, h2⟩
  have hj' : j < L.length := by simpa using hj
  have hc := h7 j hj' 0 (by decide)
  have e : off + j * tInt.k + 0 = off + j := by show off + j * 1 + 0 = _; omega
  constructor
  · have hc' : w.cell? ⟨blk, off + j, none⟩ = (tInt.enc L[j])[0]? := by rw [← e]; exact hc
    rw [hc']
    show some (Value.int .i64 L[j]) = some (Value.int .i64 (L.toArray[j]!))
    rw [getElem!_pos L.toArray j (by simpa using hj)]; simp
  · simp [World.frozen?, h5]
theorem own_put (hw : HeapIs w0 H w) (hi : H[i]? = some (own tInt S (some ⟨blk, off, none⟩) cap L)) {M : List Int} (hM : M.length = L.length) {k : Nat} (hk : k ≤ M.length) (q : Nat) (os : Array Obj) :
    HeapIs w0 (H.set i (own tInt S (some ⟨blk, off, none⟩) cap (M.take k))) (grow (putRow (Value.int .i64) (Sort.ahead w q) blk off M.toArray) os) := by
  obtain ⟨h1, h2, h3, h4, ⟨c, ty, h5, h6⟩, h7⟩ := (hw.at hi).here
  have hlt : blk < w.heap.size := (Array.getElem?_eq_some_iff.1 h5).1
  have hheap : (grow (putRow (Value.int .i64) (Sort.ahead w q) blk off M.toArray) os).heap = w.heap.modify blk (onCells (putCells (Value.int .i64) off M.toArray)) ++ os := rfl
  have hother : ∀ b, b < w.heap.size → b ≠ blk → (grow (putRow (Value.int .i64) (Sort.ahead w q) blk off M.toArray) os).heap[b]? = w.heap[b]? := fun b hb hne => by
    rw [hheap, Array.getElem?_append_left (by simpa using hb), Array.getElem?_modify, if_neg (fun e => hne e.symm)]
  have hblk : (grow (putRow (Value.int .i64) (Sort.ahead w q) blk off M.toArray) os).heap[blk]? = some (.cells (putCells (Value.int .i64) off M.toArray c) ty (0, 0)) := by
    rw [hheap, Array.getElem?_append_left (by simpa using hlt), Array.getElem?_modify, if_pos rfl, h5]; rfl
  refine hw.change hi ⟨rfl, rfl, rfl⟩ (by rw [hheap]; simp) (fun b hb => .inl hb) (fun b hb hS => hother b hb (fun e => hS (e ▸ h4))) (fun w1 w2 ha hA => by have hA' : SlO tInt S w1 (some ⟨blk, off, none⟩) cap (M.take k) := hA; exact SlO.agree (T := tInt) (S := S) ha hA') ?_
  have hsz : off + cap * 1 ≤ c.size := h6
  refine ⟨by rw [List.length_take]; omega, by rw [List.length_take]; omega, h3, h4, ⟨_, ty, hblk, ?_⟩, ?_⟩
  · show off + cap * 1 ≤ _
    simp only [putCells, Array.size_mapIdx]; exact hsz
  · intro j hj a ha
    have ha0 : a = 0 := by have : a < 1 := ha; omega
    subst ha0
    have hjM : j < M.length := by rw [List.length_take] at hj; omega
    have e : off + j * tInt.k + 0 = off + j := by show off + j * 1 + 0 = _; omega
    rw [e]
    have hb : off + j < c.size := by omega
    have hc : (putCells (Value.int .i64) off M.toArray c)[off + j]? = some (Value.int .i64 M[j]) := by
      simp only [putCells, Array.getElem?_mapIdx, Array.getElem?_eq_getElem hb, Option.map_some]
      rw [if_pos ⟨by omega, by simp; omega⟩, show off + j - off = j by omega, getElem!_pos M.toArray j (by simpa using hjM)]; simp
    show World.cell? _ _ = some (Value.int .i64 (M.take k)[j])
    rw [List.getElem_take]
    simp only [World.cell?, hblk, hc]
    rfl
end
section
variable {P : Program} {f : FuncId} {S : Nat → Prop} {a : Option Addr} {cap : Nat} {l : List Int}
theorem fnX_sort (hS : ∀ (blk off cap : Nat) (zs : List Int) (w : World), Holds (Value.int .i64) w blk off zs.toArray → blk < w.heap.size → zs.length < 4611686018427387904 → Calls P f #[.slice (some ⟨blk, off, none⟩) zs.length cap] w fun e w' => e = .returned (.tuple #[]) ∧ ∃ n os, w' = grow (putRow (Value.int .i64) (Sort.ahead w n) blk off (zs.mergeSort fun x y => decide (x ≤ y)).toArray) os)
    (hN : ∀ (p : Option Addr) (cap : Nat) (w : World), Calls P f #[.slice p 0 cap] w fun e w' => e = .returned (.tuple #[]) ∧ w' = w) :
    FnX P f [.slice a l.length cap] [own tInt S a cap l] (fun _ => True) Unit (fun _ => .tuple #[]) (fun _ => [own tInt S a cap (sortL l)]) := by
  intro w hw _
  match a with
  | none =>
    obtain ⟨h1, h2, h3⟩ := (hw.at (i := 1) rfl).here
    have hl : l = [] := List.length_eq_zero_iff.1 (by have h3' : cap = 0 := h3; omega)
    subst hl
    have e0 : sortL [] = [] := by simp [sortL]
    refine (hN none cap w).mono ?_
    rintro e w' ⟨rfl, rfl⟩
    refine ⟨(), rfl, ?_⟩
    simp only [e0]; exact hw
  | some ⟨blk, off, sp⟩ =>
    obtain rfl : sp = none := (hw.at (i := 1) rfl).here.2.2.1
    obtain ⟨g1, g2, g3, g4⟩ := own_holds (i := 1) hw rfl
    refine (hS blk off cap l w g1 g2 (by omega)).mono ?_
    rintro e w' ⟨rfl, n, os, rfl⟩
    have h := own_put (i := 1) hw rfl (M := sortL l) (sortL_len l) (k := (sortL l).length) (Nat.le_refl _) n os
    rw [List.take_length] at h
    exact ⟨(), rfl, h⟩
def compactL (l : List Int) : List Int := Go.Lib.compact l
theorem fnX_compact (hlen : (compactL l).length ≤ l.length) (hC : ∀ (blk off cap : Nat) (zs : List Int) (w : World), Holds (Value.int .i64) w blk off zs.toArray → zs.length ≤ 9223372036854775807 → zs.length ≤ cap → Calls P f #[.slice (some ⟨blk, off, none⟩) zs.length cap] w fun e w' => e = .returned (.slice (some ⟨blk, off, none⟩) (Go.Lib.compact zs).length cap) ∧ ∃ q, w' = putRow (Value.int .i64) (Sort.ahead w q) blk off (Go.Lib.compact zs ++ List.replicate (zs.length - (Go.Lib.compact zs).length) 0).toArray)
    (hN : ∀ (p : Option Addr) (cap : Nat) (w : World), Calls P f #[.slice p 0 cap] w fun e w' => e = .returned (.slice p 0 cap) ∧ w' = w) :
    FnX P f [.slice a l.length cap] [own tInt S a cap l] (fun _ => True) ((Option Addr) × (Nat) × (Nat → Prop)) (fun p => .slice p.1 (compactL l).length p.2.1) (fun p => [own tInt p.2.2 p.1 p.2.1 (compactL l)]) := by
  intro w hw _
  match a with
  | none =>
    obtain ⟨h1, h2, h3⟩ := (hw.at (i := 1) rfl).here
    have hl : l = [] := List.length_eq_zero_iff.1 (by have h3' : cap = 0 := h3; omega)
    subst hl
    have e0 : compactL [] = [] := by simp [compactL, Go.Lib.compact, Go.Lib.compactUpTo]
    refine (hN none cap w).mono ?_
    rintro e w' ⟨rfl, rfl⟩
    refine ⟨(none, cap, S), by simp only [e0]; rfl, ?_⟩
    simp only [e0]; exact hw
  | some ⟨blk, off, sp⟩ =>
    obtain rfl : sp = none := (hw.at (i := 1) rfl).here.2.2.1
    obtain ⟨g1, g2, g3, g4⟩ := own_holds (i := 1) hw rfl
    refine (hC blk off cap l w g1 (by omega) g3).mono ?_
    rintro e w' ⟨rfl, q, rfl⟩
    have h := own_put (i := 1) hw rfl (M := compactL l ++ List.replicate (l.length - (compactL l).length) 0) (by simp; omega) (k := (compactL l).length) (by simp) q #[]
    rw [List.take_left] at h
    have e2 : grow (putRow (Value.int .i64) (Sort.ahead w q) blk off (compactL l ++ List.replicate (l.length - (compactL l).length) 0).toArray) #[] = putRow (Value.int .i64) (Sort.ahead w q) blk off (compactL l ++ List.replicate (l.length - (compactL l).length) 0).toArray := by
      unfold grow; simp only [Array.append_empty]
    rw [e2] at h
    exact ⟨(some ⟨blk, off, none⟩, cap, S), rfl, h⟩
end
end Go.Sx
namespace Go.Sx
theorem compactL_len (l : List Int) : (compactL l).length ≤ l.length := by
  unfold compactL Go.Lib.compact Go.Lib.compactUpTo
  rw [List.length_map]
  exact Nat.le_trans (List.length_filter_le _ _) (by simp)
end Go.Sx
