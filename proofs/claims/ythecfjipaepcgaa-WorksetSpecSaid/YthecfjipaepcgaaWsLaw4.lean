/- Working sets: phases. -/
import Derived.Test.YthecfjipaepcgaaWsLaw3
namespace Go.Sx.Ws
def common (a b : M) : Int := (a.countP (fun p => (AL.get b p.1).isSome) : Int)
structure CI (a b lf : M) (n : Int) : Prop where
  eq : n + (lf.countP (fun p => (AL.get b p.1).isSome) : Int) = common a b
  lo : 0 ≤ n
theorem CI.start (a b : M) : CI a b a 0 := ⟨by simp [common], Int.le_refl _⟩
theorem CI.bd {a b lf : M} {n : Int} (h : CI a b lf n) : 0 ≤ n ∧ n ≤ a.length := by
  have := h.eq; have := h.lo
  have : common a b ≤ a.length := by unfold common; have := List.countP_le_length (p := fun p : Int × Int => (AL.get b p.1).isSome) (l := a); omega
  omega
theorem CI.take_ {a b lf xA xC : M} {xe : Int × Int} {n : Int} (h : CI a b lf n) (hx : lf = xA ++ xe :: xC) (hc : (AL.get b xe.1).isSome = true) : CI a b (xA ++ xC) (n + 1) := by
  have := h.eq; have := h.lo
  rw [hx, List.countP_append, List.countP_cons, if_pos hc] at *
  refine ⟨?_, by omega⟩
  rw [List.countP_append]; push_cast at *; omega
theorem CI.skip {a b lf xA xC : M} {xe : Int × Int} {n : Int} (h : CI a b lf n) (hx : lf = xA ++ xe :: xC) (hc : (AL.get b xe.1).isSome = false) : CI a b (xA ++ xC) n := by
  have h2 := h.eq; have := h.lo
  rw [hx, List.countP_append, List.countP_cons, if_neg (by simp [hc])] at h2
  refine ⟨?_, by omega⟩
  rw [List.countP_append]; push_cast at *; omega
theorem CI.done {a b lf : M} {n : Int} (h : CI a b lf n) (hl : lf = []) : n = common a b := by
  have := h.eq; rw [hl] at this; simpa using this
def ph (l : List Int) (w least : Int) : Nat → List Int × Int × M
  | 0 => ([], 0, [])
  | k + 1 => if k = 0 ∨ ((ph l w least k).2.1 + w ≤ (k : Int) ∧ common (ph l w least k).2.2 (mapAt l w (k + 1)) < least) then ((ph l w least k).1 ++ [(k : Int)], (k : Int), mapAt l w (k + 1)) else ph l w least k
def phErr (l : List Int) (w least : Int) : Int := if check l w = 0 then (if okWin least then 0 else 3) else check l w
def phases (l : List Int) (w least : Int) : List Int := if phErr l w least = 0 then (ph l w least l.length).1 else []
theorem ph1 {l : List Int} {w least : Int} (h : check l w ≠ 0) : phErr l w least = check l w ∧ phases l w least = [] := by
  have e : phErr l w least = check l w := by rw [phErr, if_neg h]
  exact ⟨e, by rw [phases, e, if_neg h]⟩
theorem ph2 {l : List Int} {w least : Int} (h : check l w = 0 ∧ okWin least = false) : phErr l w least = 3 ∧ phases l w least = [] := by
  have e : phErr l w least = 3 := by rw [phErr, if_pos h.1, if_neg (by simp [h.2])]
  exact ⟨e, by rw [phases, e, if_neg (by decide)]⟩
theorem ph3 {l : List Int} {w least : Int} (h : check l w = 0) (h2 : ¬ check l w = 0 ∨ okWin least = true) : phErr l w least = 0 ∧ phases l w least = (ph l w least l.length).1 := by
  have e : phErr l w least = 0 := by rw [phErr, if_pos h, if_pos (h2.resolve_left (fun q => q h))]
  exact ⟨e, by rw [phases, if_pos e]⟩
structure PI (l : List Int) (w least : Int) (ol : List Int) (la : Int) (bn : Option Nat) (mb : M) (k : Nat) : Prop where
  eq : (ol, la, mb) = ph l w least k
  none0 : bn = none → k = 0
  bd : 0 ≤ la ∧ la ≤ k
  len : ol.length ≤ k ∧ mb.length ≤ l.length
theorem PI.start (l : List Int) (w least : Int) : PI l w least [] 0 none [] 0 := ⟨rfl, fun _ => rfl, ⟨Int.le_refl _, Int.le_refl _⟩, ⟨Nat.zero_le _, Nat.zero_le _⟩⟩
theorem PI.take_ {l : List Int} {w least : Int} {ol : List Int} {la : Int} {bn : Option Nat} {mb : M} {k : Nat} (h : PI l w least ol la bn mb k) (h1 : 1 ≤ w) (hk : k < l.length) (hc : (k : Int) = 0 ∨ (la + w ≤ (k : Int) ∧ common mb (mapAt l w (k + 1)) < least)) {B : Nat} : PI l w least (ol ++ [(k : Int)]) (k : Int) (some B) (mapAt l w (k + 1)) (k + 1) := by
  have e := h.eq
  refine ⟨?_, fun h => (by cases h), by omega, by have := h.len; simp; omega, ?_⟩
  · rw [ph, ← e, if_pos (by rcases hc with h | h; exact .inl (by omega); exact .inr h)]
  · have := mapAt_len h1 (l := l) (k := k + 1) (by omega); have := win_len l w (k + 1); omega
theorem PI.skip {l : List Int} {w least : Int} {ol : List Int} {la : Int} {bn : Option Nat} {mb : M} {k : Nat} (h : PI l w least ol la bn mb k) (hc : (k : Int) ≠ 0 ∧ ((k : Int) < la + w ∨ least ≤ common mb (mapAt l w (k + 1)))) : PI l w least ol la bn mb (k + 1) := by
  have e := h.eq
  refine ⟨?_, fun hb => ?_, by have := h.bd; omega, by have := h.len; omega, h.len.2⟩
  · rw [ph, ← e, if_neg (by rintro (h | h); omega; exact hc.2.elim (fun q => by have := h.1; simp only at this; omega) (fun q => by have := h.2; simp only at this; omega))]
  · have := h.none0 hb; omega
theorem PI.done {l : List Int} {w least : Int} {ol : List Int} {la : Int} {bn : Option Nat} {mb : M} (h : PI l w least ol la bn mb l.length) : ol = (ph l w least l.length).1 := congrArg (·.1) h.eq
/-! ### The constant case -/
theorem sortK_of {m : M} {L : List Int} (hs : L.Pairwise (fun a b => decide (a ≤ b) = true)) (hp : L.Perm (m.map (·.1))) : sortK m = L := by
  have e : L.mergeSort (fun x y => decide (x ≤ y)) = sortK m := mergeSort_of_perm_i hp
  rw [← e]; exact List.mergeSort_of_pairwise hs
theorem begun_set : setR [3, 1, 3, 2, 2, 9, 8] 3 3 = [1, 2, 3] := by
  rw [(set3 (by decide +kernel) (by decide +kernel)).2]
  exact sortK_of (by decide +kernel) (by decide +kernel)
end Go.Sx.Ws
