/- Sketches: what the walks ask. -/
import Derived.Test.YtnmbkopnopaigaaSkPure
import Derived.Test.YtnmbkopnopaigaaHaLaw2
import Derived.Test.YtnmbkopnopaigaaGdLaw
namespace Go.Sx.Sk
def Vals (rows : List (List Int)) : Prop := ∀ l ∈ rows, l.length ≤ 64 ∧ ∀ n ∈ l, 0 ≤ n ∧ n ≤ 1099511627776
theorem Form.vals {s : DSketch} (h : Form s) : Vals s.counts := fun l hl => ⟨by have := h.len l hl; have := h.w2; omega, h.bd l hl⟩
theorem take_bd {l : List Int} (h : ∀ n ∈ l, 0 ≤ n ∧ n ≤ 1099511627776) (k : Nat) : 0 ≤ sum (l.take k) ∧ sum (l.take k) ≤ 1099511627776 * (k : Int) := by
  have h1 := sum_bd (l := l.take k) fun n hn => h n (List.mem_of_mem_take hn)
  have h2 : (l.take k).length ≤ k := by simp; omega
  omega
theorem el_bd {l : List Int} (h : ∀ n ∈ l, 0 ≤ n ∧ n ≤ 1099511627776) {k : Nat} (hk : k < l.length) : 0 ≤ l.getD k default ∧ l.getD k default ≤ 1099511627776 := h _ (getD_mem hk)
theorem row_mem {rows : List (List Int)} {k : Nat} (h : k < rows.length) : rows.getD k [] ∈ rows := getD_mem h
theorem Vals.row {rows : List (List Int)} (h : Vals rows) {k : Nat} (hk : k < rows.length) : (rows.getD k []).length ≤ 64 ∧ ∀ n ∈ rows.getD k [], 0 ≤ n ∧ n ≤ 1099511627776 := h _ (row_mem hk)
theorem take_all {l : List Int} {k : Nat} (h : l.length ≤ k) : sum (l.take k) = sum l := by rw [List.take_of_length_le h]
/-! ### row -/
theorem row1 {l : List Int} {w : Int} (h : (l.length : Int) ≠ w) : rowErr l w = 1 := if_pos h
theorem row2 {l : List Int} {w : Int} (h : (l.length : Int) = w) (h2 : l.any (fun n => !okN n) = true) : rowErr l w = 3 := by rw [rowErr, if_neg (by simpa using h), if_pos h2]
theorem row3 {l : List Int} {w : Int} (h : (l.length : Int) = w) (h2 : l.any (fun n => !okN n) = false) : rowErr l w = 0 := by rw [rowErr, if_neg (by simpa using h), if_neg (by simp [h2])]
/-! ### Check -/
theorem rows_at {rows : List (List Int)} {w : Int} : ∀ {k : Nat}, k < rows.length → (∀ i, i < k → rowErr (rows.getD i []) w = 0) → rowErr (rows.getD k []) w ≠ 0 → rowsErr rows w = rowErr (rows.getD k []) w := by
  induction rows with
  | nil => intro k h; exact absurd h (Nat.not_lt_zero _)
  | cons l r ih =>
    intro k h h1 h2
    cases k with
    | zero => simp only [List.getD_cons_zero] at h2 ⊢; unfold rowsErr; rw [if_pos h2]
    | succ k =>
      have h0 := h1 0 (by omega)
      simp only [List.getD_cons_zero] at h0
      unfold rowsErr
      rw [if_neg (by simpa using h0)]
      simp only [List.getD_cons_succ] at h2 ⊢
      exact ih (by simpa using h) (fun i hi => by simpa using h1 (i + 1) (by omega)) h2
theorem rows_done {rows : List (List Int)} {w : Int} {k : Nat} (h : rows.length ≤ k) (h1 : ∀ i, i < k → rowErr (rows.getD i []) w = 0) : rowsErr rows w = 0 :=
  rowsErr0.2 fun l hl => by
    obtain ⟨i, hi, rfl⟩ := List.getElem_of_mem hl
    have := h1 i (by omega)
    rwa [List.getD_eq_getElem?_getD, List.getElem?_eq_getElem hi] at this
theorem ck1 {s : DSketch} (h : (s.counts.length : Int) = 0) : check s = 1 := if_pos (by omega)
theorem ck2 {s : DSketch} (h : 6 < (s.counts.length : Int)) : check s = 2 := by rw [check, if_neg (by omega), if_pos (by omega)]
theorem ck3 {s : DSketch} (h : (s.counts.length : Int) ≠ 0) (h1 : (s.counts.length : Int) ≤ 6) (h2 : s.wide < 1 ∨ 64 < s.wide) : check s = 3 := by rw [check, if_neg (by omega), if_neg (by omega), if_pos h2]
theorem ck4 {s : DSketch} {k : Nat} (h : (s.counts.length : Int) ≠ 0) (h1 : (s.counts.length : Int) ≤ 6) (h2 : 1 ≤ s.wide ∧ s.wide ≤ 64) (hk : k < s.counts.length) (h3 : ∀ i, i < k → rowErr (s.counts.getD i []) s.wide = 0) (h4 : rowErr (s.counts.getD k []) s.wide ≠ 0) : check s = rowErr (s.counts.getD k []) s.wide := by
  have h5 := rows_at hk h3 h4
  rw [check, if_neg (by omega), if_neg (by omega), if_neg (by omega), if_pos (by rw [h5]; exact h4), h5]
theorem ck5 {s : DSketch} (h : (s.counts.length : Int) ≠ 0) (h1 : (s.counts.length : Int) ≤ 6) (h2 : 1 ≤ s.wide ∧ s.wide ≤ 64) {k : Nat} (hk : s.counts.length ≤ k) (h3 : ∀ i, i < k → rowErr (s.counts.getD i []) s.wide = 0) (h4 : even s.counts = false) : check s = 4 := by
  have h5 := rows_done hk h3
  rw [check, if_neg (by omega), if_neg (by omega), if_neg (by omega), if_neg (by simpa using h5), if_neg (by simp [h4])]
theorem ck6 {s : DSketch} (h : (s.counts.length : Int) ≠ 0) (h1 : (s.counts.length : Int) ≤ 6) (h2 : 1 ≤ s.wide ∧ s.wide ≤ 64) {k : Nat} (hk : s.counts.length ≤ k) (h3 : ∀ i, i < k → rowErr (s.counts.getD i []) s.wide = 0) (h4 : even s.counts = true) : check s = 0 := by
  have h5 := rows_done hk h3
  rw [check, if_neg (by omega), if_neg (by omega), if_neg (by omega), if_neg (by simpa using h5), if_pos h4]
theorem form_of {s : DSketch} (h : (s.counts.length : Int) ≠ 0) (h1 : (s.counts.length : Int) ≤ 6) (h2 : 1 ≤ s.wide ∧ s.wide ≤ 64) {k : Nat} (hk : s.counts.length ≤ k) (h3 : ∀ i, i < k → rowErr (s.counts.getD i []) s.wide = 0) : Form s := by
  have h6 := fun l hl => rowErr0.1 (rowsErr0.1 (rows_done hk h3) l hl)
  exact ⟨by omega, by omega, h2.1, h2.2, fun l hl => (h6 l hl).1, fun l hl => (h6 l hl).2⟩
/-! ### place -/
theorem place_bd (key : ByteArray) (row : Int) {wide : Int} (h : 1 ≤ wide ∧ wide ≤ 64) : 0 ≤ place key row wide ∧ place key row wide < wide := by
  obtain ⟨m, rfl⟩ : ∃ m : Nat, wide = m := ⟨wide.toNat, by omega⟩
  unfold place
  rw [Hash.rawFold_eq _ m (by omega)]
  have h1 := (Hash.salted key (toU row)).toNat_lt
  generalize (Hash.salted key (toU row)).toNat = z at *
  have h2 : z / 4294967296 < 4294967296 := by omega
  have h3 : z / 4294967296 * m / 4294967296 < m := by
    rw [Nat.div_lt_iff_lt_mul (by decide), Nat.mul_comm m]
    exact Nat.mul_lt_mul_of_pos_right h2 (by omega)
  omega
/-! ### mapped -/
theorem mapRow_len (f : Int → Int → Int → Int) (r : Nat) (l : List Int) : (mapRow f r l).length = l.length := by simp [mapRow]
theorem mapRows_len (f : Int → Int → Int → Int) (rows : List (List Int)) : (mapRows f rows).length = rows.length := by simp [mapRows]
theorem mapRows_get (f : Int → Int → Int → Int) {rows : List (List Int)} {k : Nat} (h : k < rows.length) : (mapRows f rows).getD k [] = mapRow f k (rows.getD k []) := by
  simp [mapRows, List.getD_eq_getElem?_getD, h]
theorem mapRow_get (f : Int → Int → Int → Int) {l : List Int} {r i : Nat} (h : i < l.length) : (mapRow f r l).getD i default = f r i (l.getD i default) := by
  simp [mapRow, List.getD_eq_getElem?_getD, h]
/-- inner loop: the first i numbers are done -/
def MI (f : Int → Int → Int → Int) (r : Nat) (l ls : List Int) (i : Nat) : Prop := i ≤ l.length ∧ ls.length = l.length ∧ (∀ j, j < i → ls.getD j default = f r j (l.getD j default)) ∧ ∀ j, i ≤ j → ls.getD j default = l.getD j default
theorem MI.start (f : Int → Int → Int → Int) (r : Nat) (l : List Int) : MI f r l l 0 := ⟨Nat.zero_le _, rfl, fun j h => absurd h (Nat.not_lt_zero j), fun _ _ => rfl⟩
theorem getD_set {l : List Int} {i j : Nat} {z : Int} (h : i < l.length) : (l.set i z).getD j default = if j = i then z else l.getD j default := by
  simp only [List.getD_eq_getElem?_getD, List.getElem?_set]
  by_cases e : i = j
  · subst e; simp [h]
  · rw [if_neg e, if_neg (Ne.symm e)]
theorem MI.next {f : Int → Int → Int → Int} {r : Nat} {l ls : List Int} {i : Nat} (hI : MI f r l ls i) (h : i < l.length) {z : Int} (hz : z = f r i (l.getD i default)) : MI f r l (ls.set i z) (i + 1) := by
  obtain ⟨h1, h2, h3, h4⟩ := hI
  refine ⟨h, by simpa using h2, fun j hj => ?_, fun j hj => ?_⟩
  · rw [getD_set (by omega)]
    by_cases e : j = i
    · subst e; simp [hz]
    · rw [if_neg e]; exact h3 j (by omega)
  · rw [getD_set (by omega), if_neg (by omega)]; exact h4 j (by omega)
theorem ext_getD {l m : List Int} (h : l.length = m.length) (h2 : ∀ j, j < l.length → l.getD j default = m.getD j default) : l = m :=
  List.ext_getElem h fun i h1 h3 => by
    have := h2 i h1
    rwa [List.getD_eq_getElem?_getD, List.getD_eq_getElem?_getD, List.getElem?_eq_getElem h1, List.getElem?_eq_getElem h3] at this
theorem MI.done {f : Int → Int → Int → Int} {r : Nat} {l ls : List Int} {i : Nat} (hI : MI f r l ls i) (h : l.length ≤ i) : ls = mapRow f r l := by
  obtain ⟨h1, h2, h3, h4⟩ := hI
  refine ext_getD (by rw [mapRow_len, h2]) fun j hj => ?_
  rw [h3 j (by omega), mapRow_get f (by omega)]
/-- outer loop -/
def MO (f : Int → Int → Int → Int) (s o : DSketch) (k : Nat) : Prop := k ≤ s.counts.length ∧ o = ⟨s.wide, (mapRows f s.counts).take k⟩ ∧ fits ((mapRows f s.counts).take k) = true
theorem MO.start (f : Int → Int → Int → Int) (s : DSketch) : MO f s ⟨s.wide, []⟩ 0 := ⟨Nat.zero_le _, by simp, rfl⟩
theorem MO.next {f : Int → Int → Int → Int} {s o : DSketch} {k : Nat} (hI : MO f s o k) (h : k < s.counts.length) {ls : List Int} (hl : ls = mapRow f k (s.counts.getD k [])) (hf : fitsRow ls = true) : MO f s ⟨o.wide, o.counts ++ [ls]⟩ (k + 1) := by
  obtain ⟨h1, rfl, h3⟩ := hI
  have e : (mapRows f s.counts).take (k + 1) = (mapRows f s.counts).take k ++ [ls] := by
    rw [List.take_succ_eq_append_getElem (by rw [mapRows_len]; exact h), hl, ← mapRows_get f h, List.getD_eq_getElem?_getD, List.getElem?_eq_getElem (by rw [mapRows_len]; exact h)]; rfl
  refine ⟨h, by rw [e], ?_⟩
  rw [e, fits, List.all_append]; rw [fits] at h3; simp [h3, hf]
theorem MO.done {f : Int → Int → Int → Int} {s o : DSketch} {k : Nat} (hI : MO f s o k) (h : s.counts.length ≤ k) : mapS f s = o ∧ mapOk f s = true := by
  obtain ⟨h1, rfl, h3⟩ := hI
  have e : (mapRows f s.counts).take k = mapRows f s.counts := List.take_of_length_le (by rw [mapRows_len]; exact h)
  rw [e] at h3 ⊢
  exact ⟨if_pos h3, h3⟩
theorem MO.bad {f : Int → Int → Int → Int} {s o : DSketch} {k : Nat} (hI : MO f s o k) (h : k < s.counts.length) {ls : List Int} (hl : ls = mapRow f k (s.counts.getD k [])) (hf : fitsRow ls = false) : mapS f s = zero ∧ mapOk f s = false := by
  have h1 : mapOk f s = false := by
    cases h2 : mapOk f s with
    | false => rfl
    | true =>
      have h3 := List.all_eq_true.1 h2 (mapRow f k (s.counts.getD k [])) (by rw [← mapRows_get f h]; exact row_mem (by rw [mapRows_len]; exact h))
      rw [← hl, hf] at h3; cases h3
  exact ⟨if_neg (by simp [h1]), h1⟩
/-- the greatest of a row -/
def maxTo (l : List Int) : Nat → Int
  | 0 => l.getD 0 default
  | k + 1 => max (maxTo l k) (l.getD k default)
theorem maxTo_iff {l : List Int} (h : 0 < l.length) : ∀ k, k ≤ l.length → 1 ≤ k → (maxTo l k ≤ 1099511627776 ↔ ∀ j, j < k → l.getD j default ≤ 1099511627776)
  | 0, _, h1 => by omega
  | 1, _, _ => by
    show max (l.getD 0 default) (l.getD 0 default) ≤ _ ↔ _
    refine ⟨fun h j hj => ?_, fun h => ?_⟩
    · have : j = 0 := by omega
      subst this; omega
    · have := h 0 (by omega); omega
  | k + 2, h2, _ => by
    have ih := maxTo_iff h (k + 1) (by omega) (by omega)
    show max (maxTo l (k + 1)) (l.getD (k + 1) default) ≤ _ ↔ _
    refine ⟨fun h j hj => ?_, fun h => ?_⟩
    · by_cases e : j = k + 1
      · subst e; omega
      · exact ih.1 (by omega) j (by omega)
    · have h3 := ih.2 fun j hj => h j (by omega)
      have h4 := h (k + 1) (by omega)
      omega
def maxL (l : List Int) : Int := maxTo l l.length
theorem fits_max {l : List Int} (h : 0 < l.length) : fitsRow l = decide (maxL l ≤ 1099511627776) := by
  rw [Bool.eq_iff_iff, decide_eq_true_eq, maxL, maxTo_iff h _ (Nat.le_refl _) h, fitsRow, List.all_eq_true]
  refine ⟨fun h j hj => by simpa using h _ (getD_mem hj), fun h n hn => ?_⟩
  obtain ⟨i, hi, rfl⟩ := List.getElem_of_mem hn
  have := h i hi
  rw [List.getD_eq_getElem?_getD, List.getElem?_eq_getElem hi] at this
  simpa using this
/-! ### steps of the walks -/
theorem getD_of {α : Type} {l : List α} {i : Nat} {d : α} (h : i < l.length) : l.getD i d = l[i] := by rw [List.getD_eq_getElem?_getD, List.getElem?_eq_getElem h]; rfl
theorem idx_found {f : List Int → Bool} {l : List (List Int)} {k : Nat} (h : k < l.length) (h1 : f (l.getD k []) = true) (h2 : ∀ j, j < k → f (l.getD j []) = false) : (k : Int) = idxF f l :=
  idxF_found h (by rwa [getD_of h] at h1) fun j hj h3 => by have := h2 j h3; rwa [getD_of hj] at this
theorem idx_none {f : List Int → Bool} {l : List (List Int)} {k : Nat} (h2 : ∀ j, j < k → f (l.getD j []) = false) (h : l.length ≤ k) : -1 = idxF f l :=
  idxF_none fun j hj => by have := h2 j (by omega); rwa [getD_of hj] at this
theorem idx_step {f : List Int → Bool} {l : List (List Int)} {k : Nat} (h2 : ∀ j, j < k → f (l.getD j []) = false) (h1 : f (l.getD k []) = false) : ∀ j, j < k + 1 → f (l.getD j []) = false := fun j hj => by
  by_cases e : j = k
  · subst e; exact h1
  · exact h2 j (by omega)
theorem all_step {rows : List (List Int)} {w : Int} {k : Nat} (h2 : ∀ j, j < k → rowErr (rows.getD j []) w = 0) (h1 : rowErr (rows.getD k []) w = 0) : ∀ j, j < k + 1 → rowErr (rows.getD j []) w = 0 := fun j hj => by
  by_cases e : j = k
  · subst e; exact h1
  · exact h2 j (by omega)
theorem Form.row_len {s : DSketch} (h : Form s) {k : Nat} (hk : k < s.counts.length) : ((s.counts.getD k []).length : Int) = s.wide := h.len _ (row_mem hk)
theorem MO.len {f : Int → Int → Int → Int} {s o : DSketch} {k : Nat} (hI : MO f s o k) : o.counts.length = k := by
  obtain ⟨h1, rfl, _⟩ := hI
  simp [mapRows_len, h1]
theorem sumErr_iff {key : ByteArray} : Hash.sumErr key = 0 ↔ key.size ≤ 40 := by unfold Hash.sumErr; split <;> simp <;> omega
theorem key_ok {s : DSketch} {key : ByteArray} (h : keyErr s key = 0) : Ok s ∧ key.size ≤ 40 := by
  unfold keyErr at h
  split at h
  · rename_i h1; exact absurd h h1
  · rename_i h1; exact ⟨check_ok.1 (by simpa using h1), sumErr_iff.1 h⟩
theorem ad1 {s : DSketch} {key : ByteArray} {many : Int} (h : keyErr s key ≠ 0) : add s key many = zero ∧ addErr s key many = keyErr s key := by
  have h1 : addErr s key many = keyErr s key := if_pos h
  exact ⟨if_neg (by rw [h1]; exact h), h1⟩
theorem ad2 {s : DSketch} {key : ByteArray} {many : Int} (h : keyErr s key = 0 ∧ (many < 1 ∨ 1099511627776 < many)) : add s key many = zero ∧ addErr s key many = 3 := by
  have h1 : addErr s key many = 3 := by rw [addErr, if_neg (by simpa using h.1), if_pos h.2]
  exact ⟨if_neg (by rw [h1]; decide), h1⟩
theorem ad3 {s : DSketch} {key : ByteArray} {many : Int} (h : keyErr s key = 0) (hm : 1 ≤ many ∧ many ≤ 1099511627776) (h2 : mapOk (addF key s.wide many) s = false) : add s key many = zero ∧ addErr s key many = 8 := by
  have h1 : addErr s key many = 8 := by rw [addErr, if_neg (by simpa using h), if_neg (by omega), if_neg (by simp [h2])]
  exact ⟨if_neg (by rw [h1]; decide), h1⟩
theorem ad4 {s : DSketch} {key : ByteArray} {many : Int} (h : keyErr s key = 0) (hm : 1 ≤ many ∧ many ≤ 1099511627776) (h2 : mapOk (addF key s.wide many) s = true) : add s key many = mapS (addF key s.wide many) s ∧ addErr s key many = 0 := by
  have h1 : addErr s key many = 0 := by rw [addErr, if_neg (by simpa using h), if_neg (by omega), if_pos h2]
  exact ⟨if_pos h1, h1⟩
theorem mg1 {a b : DSketch} (h : check a ≠ 0) : merge a b = zero ∧ mrgErr a b = check a := by
  have h1 : mrgErr a b = check a := if_pos h
  exact ⟨if_neg (by rw [h1]; exact h), h1⟩
theorem mg2 {a b : DSketch} (h : check a = 0) (h2 : check b ≠ 0) : merge a b = zero ∧ mrgErr a b = check b := by
  have h1 : mrgErr a b = check b := by rw [mrgErr, if_neg (by simpa using h), if_pos h2]
  exact ⟨if_neg (by rw [h1]; exact h2), h1⟩
theorem mg3 {a b : DSketch} (h : check a = 0) (h2 : check b = 0) (h3 : a.wide ≠ b.wide ∨ (a.counts.length : Int) ≠ b.counts.length) : merge a b = zero ∧ mrgErr a b = 7 := by
  have h1 : mrgErr a b = 7 := by rw [mrgErr, if_neg (by simpa using h), if_neg (by simpa using h2), if_pos (by omega)]
  exact ⟨if_neg (by rw [h1]; decide), h1⟩
theorem mg4 {a b : DSketch} (h : check a = 0) (h2 : check b = 0) (h3 : a.wide = b.wide ∧ (a.counts.length : Int) = b.counts.length) (h4 : mapOk (mrgF b.counts) a = false) : merge a b = zero ∧ mrgErr a b = 8 := by
  have h1 : mrgErr a b = 8 := by rw [mrgErr, if_neg (by simpa using h), if_neg (by simpa using h2), if_neg (by omega), if_neg (by simp [h4])]
  exact ⟨if_neg (by rw [h1]; decide), h1⟩
theorem mg5 {a b : DSketch} (h : check a = 0) (h2 : check b = 0) (h3 : a.wide = b.wide ∧ (a.counts.length : Int) = b.counts.length) (h4 : mapOk (mrgF b.counts) a = true) : merge a b = mapS (mrgF b.counts) a ∧ mrgErr a b = 0 := by
  have h1 : mrgErr a b = 0 := by rw [mrgErr, if_neg (by simpa using h), if_neg (by simpa using h2), if_neg (by omega), if_pos h4]
  exact ⟨if_pos h1, h1⟩
/-! ### Halve -/
theorem mem_rows {f : Int → Int → Int → Int} {rows : List (List Int)} {l : List Int} (h : l ∈ mapRows f rows) : ∃ r, r < rows.length ∧ l = mapRow f r (rows.getD r []) := by
  obtain ⟨r, hr, rfl⟩ := List.getElem_of_mem h
  have hr' : r < rows.length := by rwa [mapRows_len] at hr
  exact ⟨r, hr', by rw [← mapRows_get f hr', getD_of hr]⟩
theorem mem_row {f : Int → Int → Int → Int} {r : Nat} {l : List Int} {n : Int} (h : n ∈ mapRow f r l) : ∃ i, i < l.length ∧ n = f r i (l.getD i default) := by
  obtain ⟨i, hi, rfl⟩ := List.getElem_of_mem h
  have hi' : i < l.length := by rwa [mapRow_len] at hi
  exact ⟨i, hi', by rw [← mapRow_get f hi', getD_of hi]⟩
theorem half_fits {s : DSketch} (h : Form s) : mapOk halfF s = true := by
  refine List.all_eq_true.2 fun l hl => List.all_eq_true.2 fun n hn => ?_
  obtain ⟨r, hr, rfl⟩ := mem_rows hl
  obtain ⟨i, hi, rfl⟩ := mem_row hn
  have hb := el_bd (h.bd _ (row_mem hr)) hi
  have e : halfF r i ((s.counts.getD r []).getD i default) = (s.counts.getD r []).getD i default / 2 := Int.tdiv_eq_ediv_of_nonneg hb.1
  rw [e]
  exact decide_eq_true (by omega)
theorem half_map {s : DSketch} (h : Form s) : mapS halfF s = ⟨s.wide, mapRows halfF s.counts⟩ := if_pos (half_fits h)
theorem hv1 {s : DSketch} (h : check s ≠ 0) : halve s = zero ∧ halfErr s = check s := by
  have h1 : halfErr s = check s := if_pos h
  exact ⟨if_neg (by rw [h1]; exact h), h1⟩
theorem hv2 {s : DSketch} (h : check s = 0) (h2 : even (mapS halfF s).counts = false) : halve s = zero ∧ halfErr s = 4 := by
  rw [half_map (check_ok.1 h).toForm] at h2
  have h1 : halfErr s = 4 := by rw [halfErr, if_neg (by simpa using h), if_neg (by simp [h2])]
  exact ⟨if_neg (by rw [h1]; decide), h1⟩
theorem hv3 {s : DSketch} (h : check s = 0) (h2 : even (mapS halfF s).counts = true) : halve s = mapS halfF s ∧ halfErr s = 0 := by
  rw [half_map (check_ok.1 h).toForm] at h2
  have h1 : halfErr s = 0 := by rw [halfErr, if_neg (by simpa using h), if_pos h2]
  exact ⟨if_pos h1, h1⟩
theorem mapRows_bd {s : DSketch} (h : Form s) {f : Int → Int → Int → Int} (hf : ∀ r i n, 0 ≤ n ∧ n ≤ 1099511627776 → 0 ≤ f r i n) (hk : mapOk f s = true) : Form ⟨s.wide, mapRows f s.counts⟩ where
  pos := by simpa [mapRows_len] using h.pos
  few := by simpa [mapRows_len] using h.few
  w1 := h.w1
  w2 := h.w2
  len := fun l hl => by
    obtain ⟨r, hr, rfl⟩ := mem_rows hl
    rw [mapRow_len]; exact h.len _ (row_mem hr)
  bd := fun l hl n hn => by
    have h9 := List.all_eq_true.1 (List.all_eq_true.1 hk l hl) n hn
    refine ⟨?_, by simpa using h9⟩
    obtain ⟨r, hr, rfl⟩ := mem_rows hl
    obtain ⟨i, hi, rfl⟩ := mem_row hn
    exact hf _ _ _ (el_bd (h.bd _ (row_mem hr)) hi)
theorem half_form {s : DSketch} (h : Form s) : Form (mapS halfF s) := by
  rw [half_map h]
  exact mapRows_bd h (fun _ _ n hn => by rw [halfF, Int.tdiv_eq_ediv_of_nonneg hn.1]; omega) (half_fits h)
end Go.Sx.Sk
