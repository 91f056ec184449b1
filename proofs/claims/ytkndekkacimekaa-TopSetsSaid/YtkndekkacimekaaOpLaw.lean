/- The optimal policy: no choice of evictions has fewer misses. -/
import Derived.Test.YtkndekkacimekaaOpPure
namespace Go.Sx.Opt
open Belady (Run)
def few (room top : Int) : List Int → List Int → Int
  | _, [] => 0
  | C, k :: t => if k ∈ C then few room top C t else if (C.length : Int) < room then 1 + few room top (C ++ [k]) t else (List.range C.length).foldl (fun b j => if 1 + few room top (C.set j k) t < b then 1 + few room top (C.set j k) t else b) top
def fold (f : Nat → Int) (top : Int) (n : Nat) : Int := (List.range n).foldl (fun b j => if f j < b then f j else b) top
theorem fold_succ (f : Nat → Int) (top : Int) (n : Nat) : fold f top (n + 1) = if f n < fold f top n then f n else fold f top n := by
  unfold fold; rw [List.range_succ, List.foldl_append]; rfl
theorem fold_spec (f : Nat → Int) (top : Int) : ∀ n, (∀ j, j < n → fold f top n ≤ f j) ∧ fold f top n ≤ top ∧ (fold f top n = top ∨ ∃ j, j < n ∧ fold f top n = f j)
  | 0 => ⟨fun j h => absurd h (by omega), Int.le_refl _, .inl rfl⟩
  | n + 1 => by
    obtain ⟨a, b, c⟩ := fold_spec f top n
    rw [fold_succ]
    split
    · refine ⟨fun j hj => ?_, by omega, .inr ⟨n, by omega, rfl⟩⟩
      by_cases e : j = n
      · subst e; exact Int.le_refl _
      · have := a j (by omega); omega
    · refine ⟨fun j hj => ?_, b, ?_⟩
      · by_cases e : j = n
        · subst e; omega
        · exact a j (by omega)
      · rcases c with c | ⟨j, hj, c⟩
        · exact .inl c
        · exact .inr ⟨j, by omega, c⟩
theorem few_cons (room top : Int) (C : List Int) (k : Int) (t : List Int) : few room top C (k :: t) = if k ∈ C then few room top C t else if (C.length : Int) < room then 1 + few room top (C ++ [k]) t else fold (fun j => 1 + few room top (C.set j k) t) top C.length := by
  rw [few]; rfl
theorem few_le {room top : Int} (hr : 1 ≤ room) : ∀ {t C D : List Int} {m : Nat}, C.Nodup → D.Nodup → (∀ x, x ∈ D ↔ x ∈ C) → Belady.Opt room.toNat D t m → few room top C t ≤ m := by
  intro t
  induction t with
  | nil => intro C D m _ _ _ h; cases h; simp [few]
  | cons k t ih =>
    intro C D m hC hD hs h
    have hl := Belady.len_eq hC hD hs
    rw [few_cons]
    cases h with
    | hit a b c d => rw [if_pos ((hs k).1 a)]; exact ih hC b (fun x => (c x).trans (hs x)) d
    | add a b c d e =>
      have hk : k ∉ C := fun h => a ((hs k).2 h)
      rw [if_neg hk, if_pos (by omega)]
      have := ih (C := C ++ [k]) (by rw [List.nodup_append]; exact ⟨hC, by simp, fun x hx y hy e => hk (by simp at hy; subst hy; exact e ▸ hx)⟩) c (fun x => by rw [d x, hs x]; simp [or_comm]) e
      omega
    | @evict _ C' _ f _ m' a b g far c d e =>
      have hk : k ∉ C := fun h => a ((hs k).2 h)
      rw [if_neg hk, if_neg (by omega)]
      obtain ⟨j, hj, hf⟩ := List.getElem_of_mem ((hs f).1 g)
      have h1 := (fold_spec (fun j => 1 + few room top (C.set j k) t) top C.length).1 j hj
      have h2 := ih (C := C.set j k) (nodup_set hC hk hj) c (fun x => by rw [d x, mem_set' hC hj x, hs x, hf]) e
      omega
theorem few_run {room top : Int} (hr : 1 ≤ room) : ∀ {t C : List Int}, C.Nodup → (C.length : Int) ≤ room → (t.length : Int) + 1 ≤ top → ∃ n : Nat, few room top C t = n ∧ n ≤ t.length ∧ Run room.toNat C t n := by
  intro t
  induction t with
  | nil => intro C _ _ _; exact ⟨0, rfl, Nat.zero_le _, .nil C⟩
  | cons k t ih =>
    intro C hC hl ht
    simp only [List.length_cons] at ht ⊢
    rw [few_cons]
    by_cases hk : k ∈ C
    · rw [if_pos hk]
      obtain ⟨n, h1, h2, h3⟩ := ih hC hl (by omega)
      exact ⟨n, h1, by omega, .hit hk hC (by omega) hk (fun x hx => hx) h3⟩
    · rw [if_neg hk]
      by_cases hlt : (C.length : Int) < room
      · rw [if_pos hlt]
        have hC2 : (C ++ [k]).Nodup := by rw [List.nodup_append]; exact ⟨hC, by simp, fun x hx y hy e => hk (by simp at hy; subst hy; exact e ▸ hx)⟩
        obtain ⟨n, h1, h2, h3⟩ := ih hC2 (by simp only [List.length_append, List.length_singleton]; omega) (by omega)
        exact ⟨n + 1, by rw [h1]; omega, by omega, .miss hk hC2 (by simp only [List.length_append, List.length_singleton]; omega) (by simp) (fun x hx => by simpa [or_comm] using hx) h3⟩
      · rw [if_neg hlt]
        have each : ∀ j, j < C.length → ∃ n : Nat, few room top (C.set j k) t = n ∧ n ≤ t.length ∧ Run room.toNat (C.set j k) t n := fun j hj => ih (nodup_set hC hk hj) (by simpa using hl) (by omega)
        obtain ⟨a, b, c⟩ := fold_spec (fun j => 1 + few room top (C.set j k) t) top C.length
        rcases c with c | ⟨j, hj, c⟩
        · exfalso
          have h0 := a 0 (by omega)
          obtain ⟨n, h1, h2, _⟩ := each 0 (by omega)
          omega
        · obtain ⟨n, h1, h2, h3⟩ := each j hj
          refine ⟨n + 1, by rw [c]; omega, by omega, .miss hk (nodup_set hC hk hj) (by simp; omega) ((mem_set' hC hj k).2 (.inl rfl)) (fun x hx => ((mem_set' hC hj x).1 hx).imp id (·.1)) h3⟩
theorem fewest {l : List Int} {room top : Int} (hr : 1 ≤ room) (ht : (l.length : Int) + 1 ≤ top) : (go l room l.length).2.2 = few room top [] l := by
  have h1 := go_opt (l := l) hr
  have h2 := few_le (top := top) hr List.nodup_nil List.nodup_nil (fun x => Iff.rfl) h1
  obtain ⟨n, h3, h4, h5⟩ := few_run (t := l) (C := []) hr List.nodup_nil (by simp; omega) ht
  have h6 := Belady.belady h1 h5
  have h7 := (GInv.all (l := l) hr l.length (Nat.le_refl _)).n0
  omega
end Go.Sx.Opt
