/- Working sets: what the functions compute, and what the window's map counts. -/
import Derived.Test.YthecfjipaepcgaaSx23
import Derived.Test.YthecfjipaepcgaaLrLaw2
namespace Go.Sx.Ws
abbrev M := List (Int × Int)
def up (m : M) (k : Int) : M := AL.set m k ((AL.get m k).getD 0 + 1)
def down (m : M) (k : Int) : M := AL.set m k ((AL.get m k).getD 0 - 1)
def step (l : List Int) (w : Int) (m : M) (i : Nat) : M :=
  if w ≤ (i : Int) then
    (if (AL.get (down (up m (l.getD i 0)) (l.getD ((i : Int) - w).toNat 0)) (l.getD ((i : Int) - w).toNat 0)).getD 0 = 0 then AL.del (down (up m (l.getD i 0)) (l.getD ((i : Int) - w).toNat 0)) (l.getD ((i : Int) - w).toNat 0)
      else down (up m (l.getD i 0)) (l.getD ((i : Int) - w).toNat 0))
  else up m (l.getD i 0)
def mapAt (l : List Int) (w : Int) : Nat → M
  | 0 => []
  | k + 1 => step l w (mapAt l w k) k
/-- the last w of the first k accesses -/
def win (l : List Int) (w : Int) (k : Nat) : List Int := (l.take k).drop (k - w.toNat)
def okWin (n : Int) : Bool := decide (1 ≤ n) && decide (n ≤ 200)
theorem okWin_bd {n : Int} (h : okWin n = true) : 1 ≤ n ∧ n ≤ 200 := by simpa [okWin] using h
def check (l : List Int) (w : Int) : Int := if Lru.trace l = 0 then (if okWin w then 0 else 3) else Lru.trace l
theorem chk_cases (l : List Int) (w : Int) : (Lru.trace l ≠ 0 ∧ check l w = Lru.trace l) ∨ (Lru.trace l = 0 ∧ okWin w = false ∧ check l w = 3) ∨ (Lru.trace l = 0 ∧ okWin w = true ∧ check l w = 0) := by
  unfold check
  by_cases h : Lru.trace l = 0
  · by_cases h2 : okWin w = true
    · exact .inr (.inr ⟨h, h2, by rw [if_pos h, if_pos h2]⟩)
    · exact .inr (.inl ⟨h, by simpa using h2, by rw [if_pos h, if_neg h2]⟩)
  · exact .inl ⟨h, by rw [if_neg h]⟩
theorem chk_ok {l : List Int} {w : Int} (h : check l w = 0) : Lru.trace l = 0 ∧ okWin w = true ∧ l.length ≤ 200 := by
  rcases chk_cases l w with ⟨h1, h2⟩ | ⟨h1, h2, h3⟩ | ⟨h1, h2, h3⟩
  · omega
  · omega
  · exact ⟨h1, h2, (Lru.trace_ok.1 h1).1⟩
theorem chk_of {l : List Int} {w : Int} (h : Lru.trace l = 0) (h2 : okWin w = true) : check l w = 0 := by rw [check, if_pos h, if_pos h2]
/-! ### The texts of the code -/
theorem getD_at {l : List Int} {k : Nat} (h : k < l.length) : l.getD k 0 = l[k] := by simp [List.getD, h]
theorem at1 {l : List Int} {w : Int} {m : M} {k : Nat} (h : m = mapAt l w k) (hk : k < l.length) (hw : (k : Int) < w) : up m l[k] = mapAt l w (k + 1) := by
  rw [mapAt, step, if_neg (by omega), getD_at hk, h]
theorem at2 {l : List Int} {w : Int} {m : M} {k : Nat} (h : m = mapAt l w k) (hk : k < l.length) (hw : w ≤ (k : Int)) (hj : ((k : Int) - w).toNat < l.length) (hz : (AL.get (down (up m l[k]) l[((k : Int) - w).toNat]) l[((k : Int) - w).toNat]).getD 0 = 0) :
    AL.del (down (up m l[k]) l[((k : Int) - w).toNat]) l[((k : Int) - w).toNat] = mapAt l w (k + 1) := by
  rw [mapAt, step, if_pos hw, getD_at hk, getD_at hj, ← h, if_pos hz]
theorem at3 {l : List Int} {w : Int} {m : M} {k : Nat} (h : m = mapAt l w k) (hk : k < l.length) (hw : w ≤ (k : Int)) (hj : ((k : Int) - w).toNat < l.length) (hz : (AL.get (down (up m l[k]) l[((k : Int) - w).toNat]) l[((k : Int) - w).toNat]).getD 0 ≠ 0) :
    down (up m l[k]) l[((k : Int) - w).toNat] = mapAt l w (k + 1) := by
  rw [mapAt, step, if_pos hw, getD_at hk, getD_at hj, ← h, if_neg hz]
theorem cast {κ ν : Type} [DecidableEq κ] {K : KTy κ} {ve : ν → Value} {B : Nat} {m m' : List (κ × ν)} (e : m = m') {w0 W : World} {a b : Ent} (h : HeapIs w0 [a, b, mapE K ve B m] W) : HeapIs w0 [a, b, mapE K ve B m'] W := e ▸ h
/-! ### What it counts -/
structure Cnt (m : M) (s : List Int) : Prop where
  nd : (m.map (·.1)).Nodup
  get : ∀ x, AL.get m x = if s.count x = 0 then none else some (s.count x : Int)
theorem set_nd {m : M} (h : (m.map (·.1)).Nodup) (k x : Int) : ((AL.set m k x).map (·.1)).Nodup := by
  rw [AL.set_keys]; split
  · exact h
  · rename_i hk
    refine List.nodup_append.2 ⟨h, by simp, fun a ha b hb => ?_⟩
    rw [List.mem_singleton.1 hb]; exact fun e => hk (e ▸ ha)
theorem Cnt.val {m : M} {s : List Int} (h : Cnt m s) (x : Int) : (AL.get m x).getD 0 = (s.count x : Int) := by
  rw [h.get]; split <;> simp [*]
theorem Cnt.up {m : M} {s : List Int} (h : Cnt m s) (k : Int) : Cnt (up m k) (s ++ [k]) := by
  refine ⟨set_nd h.nd _ _, fun x => ?_⟩
  rw [Ws.up, AL.get_set, h.val, List.count_append, List.count_singleton]
  by_cases e : x = k
  · subst e; simp
  · have e2 : ¬ k = x := fun q => e q.symm
    rw [if_neg e, h.get]; simp [e2]
theorem Cnt.down0 {m : M} {s : List Int} {k : Int} (h : Cnt m (k :: s)) : (AL.get (down m k) k).getD 0 = (s.count k : Int) := by
  rw [down, AL.get_set, if_pos rfl, h.val, List.count_cons_self]; simp
theorem Cnt.down {m : M} {s : List Int} {k : Int} (h : Cnt m (k :: s)) : Cnt (if (AL.get (down m k) k).getD 0 = 0 then AL.del (down m k) k else down m k) s := by
  rw [h.down0]
  have hnd := set_nd h.nd k ((AL.get m k).getD 0 - 1)
  have hg : ∀ x, AL.get (Ws.down m k) x = if x = k then some (s.count k : Int) else (if s.count x = 0 then none else some (s.count x : Int)) := fun x => by
    rw [Ws.down, AL.get_set, h.val, List.count_cons_self]
    by_cases e : x = k
    · subst e; simp
    · rw [if_neg e, if_neg e, h.get, List.count_cons_of_ne (fun h => e h.symm)]
  split
  · rename_i hz
    have hz : s.count k = 0 := by omega
    refine ⟨by rw [AL.del_keys]; exact hnd.sublist List.erase_sublist, fun x => ?_⟩
    rw [Ws.down] at hg ⊢
    rw [AL.get_del hnd, hg]
    by_cases e : x = k
    · subst e; simp [hz]
    · rw [if_neg e, if_neg e]
  · rename_i hz
    refine ⟨hnd, fun x => ?_⟩
    rw [hg]
    by_cases e : x = k
    · subst e; rw [if_pos rfl, if_neg (by omega)]
    · rw [if_neg e]
theorem win_grow {l : List Int} {w : Int} {k : Nat} (hk : k < l.length) (hw : (k : Int) < w) : win l w (k + 1) = win l w k ++ [l[k]] := by
  rw [win, win, show k + 1 - w.toNat = 0 by omega, show k - w.toNat = 0 by omega, List.drop_zero, List.drop_zero, List.take_succ_eq_append_getElem hk]
theorem win_slide {l : List Int} {w : Int} {k : Nat} (hk : k < l.length) (h1 : 1 ≤ w) (hw : w ≤ (k : Int)) (hj : ((k : Int) - w).toNat < l.length) : l[((k : Int) - w).toNat] :: win l w (k + 1) = win l w k ++ [l[k]] := by
  have e : ((k : Int) - w).toNat = k - w.toNat := by omega
  rw [win, win, List.take_succ_eq_append_getElem hk]
  have hlt : k - w.toNat < (l.take k ++ [l[k]]).length := by simp; omega
  have h2 := List.drop_eq_getElem_cons hlt
  rw [show k + 1 - w.toNat = k - w.toNat + 1 by omega]
  have h3 : (l.take k ++ [l[k]]).drop (k - w.toNat) = (l.take k).drop (k - w.toNat) ++ [l[k]] := by
    rw [List.drop_append_of_le_length (by simp; omega)]
  rw [← h3, h2]
  simp only [e]
  rw [List.getElem_append_left (by simp; omega), List.getElem_take]
theorem mapAt_cnt {l : List Int} {w : Int} (h1 : 1 ≤ w) : ∀ k, k ≤ l.length → Cnt (mapAt l w k) (win l w k)
  | 0, _ => ⟨List.nodup_nil, fun x => by simp [win, mapAt, AL.get]⟩
  | k + 1, hk => by
    have ih := (mapAt_cnt (l := l) h1 k (by omega)).up l[k]
    rw [mapAt, step, getD_at (l := l) (k := k) (by omega)]
    by_cases hw : w ≤ (k : Int)
    · have hj : ((k : Int) - w).toNat < l.length := by omega
      rw [← win_slide (l := l) (k := k) (by omega) h1 hw hj] at ih
      rw [if_pos hw, getD_at hj]
      exact ih.down
    · rw [if_neg hw, win_grow (l := l) (k := k) (by omega) (by omega)]; exact ih
theorem mapAt_val {l : List Int} {w : Int} (h1 : 1 ≤ w) {k : Nat} (hk : k ≤ l.length) (x : Int) : (AL.get (mapAt l w k) x).getD 0 = ((win l w k).count x : Int) := (mapAt_cnt h1 k hk).val x
theorem win_len (l : List Int) (w : Int) (k : Nat) : (win l w k).length ≤ l.length := by simp [win]; omega
theorem win_len2 (l : List Int) (w : Int) (k : Nat) : (win l w k).length ≤ w.toNat := by simp [win]; omega
theorem val_bd {l : List Int} {w : Int} {m : M} (h1 : 1 ≤ w) {k : Nat} (h : m = mapAt l w k) (hk : k ≤ l.length) (x : Int) : 0 ≤ (AL.get m x).getD 0 ∧ (AL.get m x).getD 0 ≤ l.length := by
  rw [h, mapAt_val h1 hk]
  have := List.count_le_length (a := x) (l := win l w k)
  have := win_len l w k
  omega
theorem up_bd {l : List Int} {w : Int} {m : M} (h1 : 1 ≤ w) {k : Nat} (h : m = mapAt l w k) (hk : k ≤ l.length) (y x : Int) : 0 ≤ (AL.get (up m y) x).getD 0 ∧ (AL.get (up m y) x).getD 0 ≤ l.length + 1 := by
  have h2 := ((mapAt_cnt h1 k hk).up y).val x
  rw [← h] at h2
  rw [h2]
  have := List.count_le_length (a := x) (l := win l w k ++ [y])
  have := win_len l w k
  simp only [List.length_append, List.length_cons, List.length_nil] at *
  omega
/-! ### Faults -/
def fc (l : List Int) (w : Int) : Nat → Int
  | 0 => 0
  | k + 1 => fc l w k + (if l.getD k 0 ∈ win l w k then 0 else 1)
theorem fc_bd (l : List Int) (w : Int) : ∀ k, 0 ≤ fc l w k ∧ fc l w k ≤ k
  | 0 => by simp [fc]
  | k + 1 => by have := fc_bd l w k; rw [fc]; split <;> omega
def faults (l : List Int) (w : Int) : Int := if check l w = 0 then fc l w l.length else 0
theorem fl_bad {l : List Int} {w : Int} (h : check l w ≠ 0) : 0 = faults l w := by rw [faults, if_neg h]
theorem fl_start (l : List Int) (w : Int) : min 1 (l.length : Int) = fc l w (min l.length (0 + 1)) := by
  cases l with
  | nil => rfl
  | cons a l => rw [show min (a :: l).length (0 + 1) = 0 + 1 by simp]; simp [fc, win]; omega
theorem fl_hit {l : List Int} {w n : Int} {k : Nat} (h1 : 1 ≤ w) (h : n = fc l w (min l.length (k + 1))) (hk : k + 1 < l.length) (hz : (AL.get (mapAt l w (k + 1)) l[k + 1]).getD 0 = 0) : n + 1 = fc l w (min l.length (k + 1 + 1)) := by
  rw [mapAt_val h1 (by omega)] at hz
  rw [show min l.length (k + 1 + 1) = k + 1 + 1 by omega, fc, getD_at hk, if_neg (by rw [← List.count_pos_iff]; omega), h, show min l.length (k + 1) = k + 1 by omega]
theorem fl_miss {l : List Int} {w n : Int} {k : Nat} (h1 : 1 ≤ w) (h : n = fc l w (min l.length (k + 1))) (hk : k + 1 < l.length) (hz : (AL.get (mapAt l w (k + 1)) l[k + 1]).getD 0 ≠ 0) : n = fc l w (min l.length (k + 1 + 1)) := by
  rw [mapAt_val h1 (by omega)] at hz
  rw [show min l.length (k + 1 + 1) = k + 1 + 1 by omega, fc, getD_at hk, if_pos (by rw [← List.count_pos_iff]; omega), h, show min l.length (k + 1) = k + 1 by omega, Int.add_zero]
theorem fl_hit2 {l : List Int} {w n : Int} {k : Nat} (h1 : 1 ≤ w) (h : n = fc l w (min l.length (k + 1))) (hk : k + 1 < l.length) (hz : (AL.get (mapAt l w (k + 1)) (l.getD ((k : Int) + 1).toNat default)).getD 0 = 0) : n + 1 = fc l w (min l.length (k + 1 + 1)) :=
  fl_hit h1 h hk (by rw [← getD_at hk]; exact hz)
theorem fl_miss2 {l : List Int} {w n : Int} {k : Nat} (h1 : 1 ≤ w) (h : n = fc l w (min l.length (k + 1))) (hk : k + 1 < l.length) (hz : (AL.get (mapAt l w (k + 1)) (l.getD ((k : Int) + 1).toNat default)).getD 0 ≠ 0) : n = fc l w (min l.length (k + 1 + 1)) :=
  fl_miss h1 h hk (by rw [← getD_at hk]; exact hz)
theorem fl_last {l : List Int} {w n : Int} {k : Nat} (h : n = fc l w (min l.length (k + 1))) (hk : l.length ≤ k + 1) : n = fc l w (min l.length (k + 1 + 1)) := by
  rw [h, show min l.length (k + 1) = min l.length (k + 1 + 1) by omega]
theorem fl_end {l : List Int} {w n : Int} {k : Nat} (h : n = fc l w (min l.length (k + 1))) (hk : l.length ≤ k) (hc : check l w = 0) : n = faults l w := by
  rw [faults, if_pos hc, h, show min l.length (k + 1) = l.length by omega]
end Go.Sx.Ws
