/- Sketches: the references. -/
import Derived.Test.YtnmbkopnopaigaaSkLaw
namespace Go.Sx.Sk
def empty (rows wide : Int) : DSketch := ⟨wide, List.replicate rows.toNat (List.replicate wide.toNat 0)⟩
theorem rep_next {α : Type} (k : Nat) (x : α) : List.replicate (k + 1) x = List.replicate k x ++ [x] := List.replicate_succ'
/-! ### SketchEven -/
theorem ev_step {rows : List (List Int)} {i : Nat} (h0 : 1 ≤ i) (h : ∀ j, j < i → sum (rows.getD j []) = sum (rows.getD 0 [])) (h1 : sum (rows.getD i []) = sum (rows.getD ((i : Int) - 1).toNat [])) : ∀ j, j < i + 1 → sum (rows.getD j []) = sum (rows.getD 0 []) := fun j hj => by
  by_cases e : j = i
  · subst e; rw [h1]; exact h _ (by omega)
  · exact h j (by omega)
theorem ev_no {rows : List (List Int)} {i : Nat} (h0 : 1 ≤ i) (hi : i < rows.length) (h : ∀ j, j < i → sum (rows.getD j []) = sum (rows.getD 0 [])) (h1 : sum (rows.getD i []) ≠ sum (rows.getD ((i : Int) - 1).toNat [])) : even rows = false := by
  cases e : even rows with
  | false => rfl
  | true =>
    have h2 := even_iff.1 e
    rw [h2 _ (row_mem hi), h2 _ (row_mem (show ((i : Int) - 1).toNat < rows.length by omega))] at h1
    exact absurd rfl h1
theorem ev_yes {rows : List (List Int)} {i : Nat} (hi : rows.length ≤ i) (h : ∀ j, j < i → sum (rows.getD j []) = sum (rows.getD 0 [])) : even rows = true :=
  even_iff.2 fun l hl => by
    obtain ⟨j, hj, rfl⟩ := List.getElem_of_mem hl
    have := h j (by omega)
    rwa [getD_of hj] at this
/-! ### SketchCheck -/
theorem between_eq (n : Int) : Ref.between n 0 1099511627776 = okN n := rfl
theorem between_wide {n : Int} : Ref.between n 1 64 = true ↔ 1 ≤ n ∧ n ≤ 64 := by simp [Ref.between]
theorem rowE1 {l : List Int} {w : Int} (h : (l.length : Int) ≠ w) : rowErr l w = 1 := if_pos h
theorem rowE3 {l : List Int} {w : Int} {i : Nat} (h : (l.length : Int) = w) (hi : i < l.length) (h2 : okN (l.getD i default) = false) : rowErr l w = 3 :=
  row2 h (List.any_eq_true.2 ⟨_, getD_mem (d := default) hi, by rw [h2]; rfl⟩)
theorem rowE0 {l : List Int} {w : Int} {i : Nat} (h : (l.length : Int) = w) (hi : l.length ≤ i) (h2 : ∀ j, j < i → okN (l.getD j default) = true) : rowErr l w = 0 :=
  row3 h (List.any_eq_false.2 fun n hn => by
    obtain ⟨j, hj, rfl⟩ := List.getElem_of_mem hn
    have := h2 j (by omega)
    rw [getD_of hj] at this
    simp [this])
theorem ok_step {l : List Int} {i : Nat} {f : Int → Bool} (h : ∀ j, j < i → f (l.getD j default) = true) (h1 : f (l.getD i default) = true) : ∀ j, j < i + 1 → f (l.getD j default) = true := fun j hj => by
  by_cases e : j = i
  · subst e; exact h1
  · exact h j (by omega)
theorem se1 {s : DSketch} {key : ByteArray} (h : check s = 0 ∧ 40 < (key.size : Int)) : 2 = keyErr s key := by
  rw [keyErr, if_neg (by simpa using h.1), Hash.sumErr, if_pos (by omega)]
theorem se2 {s : DSketch} {key : ByteArray} (h : ¬ check s = 0 ∨ (key.size : Int) ≤ 40) : check s = keyErr s key := by
  unfold keyErr
  by_cases e : check s = 0
  · rw [if_neg (by simpa using e), e, Hash.sumErr, if_neg (by rcases h with h | h; exact absurd e h; omega)]
  · rw [if_pos e]
theorem place_eq {key : ByteArray} {row wide : Int} (h : key.size ≤ 40) : Hash.rawFold (Hash.mix (Hash.raw key ^^^ toU row)) wide = place key row wide := by
  rw [place, Hash.salted, if_pos (sumErr_iff.2 h), Hash.sum, if_neg (by omega)]
/-! ### SketchFits -/
def fitN (n : Int) : Bool := decide (n ≤ 1099511627776)
theorem fr_yes {l : List Int} {i : Nat} (hi : l.length ≤ i) (h2 : ∀ j, j < i → fitN (l.getD j default) = true) : fitsRow l = true :=
  List.all_eq_true.2 fun n hn => by
    obtain ⟨j, hj, rfl⟩ := List.getElem_of_mem hn
    have := h2 j (by omega)
    rwa [getD_of hj] at this
theorem fits_no {rows : List (List Int)} {r i : Nat} (hr : r < rows.length) (hi : i < (rows.getD r []).length) (h : 1099511627776 < (rows.getD r []).getD i default) : fits rows = false := by
  cases e : fits rows with
  | false => rfl
  | true =>
    have h2 := List.all_eq_true.1 (List.all_eq_true.1 e _ (row_mem hr)) _ (getD_mem (d := default) hi)
    have h3 : (rows.getD r []).getD i default ≤ 1099511627776 := of_decide_eq_true h2
    omega
theorem fits_yes {rows : List (List Int)} {r : Nat} (hr : rows.length ≤ r) (h : ∀ j, j < r → fitsRow (rows.getD j []) = true) : fits rows = true :=
  List.all_eq_true.2 fun l hl => by
    obtain ⟨j, hj, rfl⟩ := List.getElem_of_mem hl
    have := h j (by omega)
    rwa [getD_of hj] at this
theorem fits_step {rows : List (List Int)} {r : Nat} (h : ∀ j, j < r → fitsRow (rows.getD j []) = true) (h1 : fitsRow (rows.getD r []) = true) : ∀ j, j < r + 1 → fitsRow (rows.getD j []) = true := fun j hj => by
  by_cases e : j = r
  · subst e; exact h1
  · exact h j (by omega)
/-! ### SameSketch -/
theorem same_no0 {a b : DSketch} (h : a.wide ≠ b.wide ∨ (a.counts.length : Int) ≠ b.counts.length) : false = decide (a = b) := by
  symm; apply decide_eq_false; rintro rfl; rcases h with h | h <;> exact h rfl
theorem same_no1 {a b : DSketch} {r : Nat} (h : a.counts.getD r [] ≠ b.counts.getD r []) : false = decide (a = b) := by
  symm; apply decide_eq_false; rintro rfl; exact h rfl
theorem same_yes {a b : DSketch} {r : Nat} (h : a.wide = b.wide ∧ (a.counts.length : Int) = b.counts.length) (hr : a.counts.length ≤ r) (h1 : ∀ j, j < r → a.counts.getD j [] = b.counts.getD j []) : true = decide (a = b) := by
  symm; apply decide_eq_true
  obtain ⟨aw, ac⟩ := a
  obtain ⟨bw, bc⟩ := b
  simp only at *
  obtain ⟨h2, h3⟩ := h
  subst h2
  congr 1
  refine List.ext_getElem (by omega) fun i g1 g2 => ?_
  have := h1 i (by omega)
  rwa [getD_of g1, getD_of g2] at this
theorem same_step {a b : List (List Int)} {r : Nat} (h : ∀ j, j < r → a.getD j [] = b.getD j []) (h1 : a.getD r [] = b.getD r []) : ∀ j, j < r + 1 → a.getD j [] = b.getD j [] := fun j hj => by
  by_cases e : j = r
  · subst e; exact h1
  · exact h j (by omega)
/-! ### SketchCopy -/
theorem take_next {rows : List (List Int)} {r : Nat} (h : r < rows.length) : rows.take (r + 1) = rows.take r ++ [rows.getD r []] := by
  rw [List.take_succ_eq_append_getElem h, getD_of h]
theorem copy_done {s : DSketch} {r : Nat} (h : s.counts.length ≤ r) : (⟨s.wide, s.counts.take r⟩ : DSketch) = s := by rw [List.take_of_length_le h]
/-! ### the law's own loops: rows changed in place -/
structure PR (f : Int → Int → Int → Int) (rows LL : List (List Int)) (r k : Nat) : Prop where
  len : LL.length = rows.length
  rlen : ∀ q, (LL.getD q []).length = (rows.getD q []).length
  val : ∀ q i, (LL.getD q []).getD i default = if i < (rows.getD q []).length ∧ (q < r ∨ q = r ∧ i < k) then f q i ((rows.getD q []).getD i default) else (rows.getD q []).getD i default
theorem PR.start (f : Int → Int → Int → Int) (rows : List (List Int)) : PR f rows rows 0 0 := ⟨rfl, fun _ => rfl, fun q i => by rw [if_neg (by omega)]⟩
theorem rset_len {LL : List (List Int)} {r i q : Nat} {z : Int} : ((LL.set r ((LL.getD r []).set i z)).getD q []).length = (LL.getD q []).length := (Shape.set (LL := LL) (k := r) (i := i) (z := z)).2 q
theorem rset_get {LL : List (List Int)} {r i q j : Nat} {z : Int} (hr : r < LL.length) (hi : i < (LL.getD r []).length) : ((LL.set r ((LL.getD r []).set i z)).getD q []).getD j default = if q = r ∧ j = i then z else (LL.getD q []).getD j default := by
  by_cases e : q = r
  · subst e
    rw [getD_set_self hr, getD_set hi]
    by_cases e2 : j = i <;> simp [e2]
  · rw [getD_set_ne e, if_neg (fun h => e h.1)]
theorem PR.next {f : Int → Int → Int → Int} {rows LL : List (List Int)} {r k : Nat} (h : PR f rows LL r k) (hr : r < rows.length) (hk : k < (rows.getD r []).length) {z : Int} (hz : z = f r k ((LL.getD r []).getD k default)) : PR f rows (LL.set r ((LL.getD r []).set k z)) r (k + 1) := by
  have hk' : k < (LL.getD r []).length := by rw [h.rlen]; exact hk
  have hr' : r < LL.length := by rw [h.len]; exact hr
  refine ⟨by simp [h.len], fun q => by rw [rset_len]; exact h.rlen q, fun q i => ?_⟩
  rw [rset_get hr' hk', h.val]
  by_cases e : q = r ∧ i = k
  · obtain ⟨rfl, rfl⟩ := e
    have h0 := h.val q i
    rw [if_neg (by omega)] at h0
    rw [if_pos ⟨rfl, rfl⟩, if_pos ⟨hk, .inr ⟨rfl, by omega⟩⟩, hz, h0]
  · rw [if_neg e]
    by_cases c : i < (rows.getD q []).length ∧ (q < r ∨ q = r ∧ i < k)
    · rw [if_pos c, if_pos ⟨c.1, by omega⟩]
    · rw [if_neg c, if_neg (by omega)]
theorem PR.row {f : Int → Int → Int → Int} {rows LL : List (List Int)} {r k : Nat} (h : PR f rows LL r k) (hk : (rows.getD r []).length ≤ k) : PR f rows LL (r + 1) 0 := by
  refine ⟨h.len, h.rlen, fun q i => ?_⟩
  rw [h.val]
  by_cases e : q = r
  · subst e
    by_cases c : i < (rows.getD q []).length
    · rw [if_pos ⟨c, .inr ⟨rfl, by omega⟩⟩, if_pos ⟨c, by omega⟩]
    · rw [if_neg (fun h => c h.1), if_neg (fun h => c h.1)]
  · by_cases c : i < (rows.getD q []).length ∧ q < r
    · rw [if_pos ⟨c.1, .inl c.2⟩, if_pos ⟨c.1, .inl (by omega)⟩]
    · rw [if_neg (by omega), if_neg (by omega)]
theorem PR.done {f : Int → Int → Int → Int} {rows LL : List (List Int)} {r : Nat} (h : PR f rows LL r 0) (hr : rows.length ≤ r) : LL = mapRows f rows := by
  refine List.ext_getElem (by rw [h.len, mapRows_len]) fun q g1 g2 => ?_
  have hq : q < rows.length := by rw [← h.len]; exact g1
  rw [← getD_of (d := []) g1, ← getD_of (d := []) g2, mapRows_get f hq]
  refine ext_getD (by rw [h.rlen, mapRow_len]) fun i hi => ?_
  rw [h.rlen] at hi
  rw [h.val, if_pos ⟨hi, .inl (by omega)⟩, mapRow_get f hi]
/-- a function that changes one number of each row -/
theorem PR.one {f : Int → Int → Int → Int} {rows LL : List (List Int)} {r p : Nat} (h : PR f rows LL r 0) (hr : r < rows.length) (hp : p < (rows.getD r []).length) {z : Int} (hz : z = f r p ((LL.getD r []).getD p default)) (hf : ∀ i n, i ≠ p → f r (i : Nat) n = n) : PR f rows (LL.set r ((LL.getD r []).set p z)) (r + 1) 0 := by
  have hp' : p < (LL.getD r []).length := by rw [h.rlen]; exact hp
  have hr' : r < LL.length := by rw [h.len]; exact hr
  refine ⟨by simp [h.len], fun q => by rw [rset_len]; exact h.rlen q, fun q i => ?_⟩
  rw [rset_get hr' hp', h.val]
  by_cases e : q = r ∧ i = p
  · obtain ⟨rfl, rfl⟩ := e
    have h0 := h.val q i
    rw [if_neg (by omega)] at h0
    rw [if_pos ⟨rfl, rfl⟩, if_pos ⟨hp, .inl (by omega)⟩, hz, h0]
  · rw [if_neg e]
    by_cases c : i < (rows.getD q []).length ∧ q < r
    · rw [if_pos ⟨c.1, .inl c.2⟩, if_pos ⟨c.1, .inl (by omega)⟩]
    · rw [if_neg (by omega)]
      by_cases c2 : i < (rows.getD q []).length ∧ (q < r + 1 ∨ q = r + 1 ∧ i < 0)
      · rw [if_pos c2]
        have hq : q = r := by omega
        subst hq
        exact (hf i _ (fun h => e ⟨rfl, h⟩)).symm
      · rw [if_neg c2]
end Go.Sx.Sk
