/- Sketches: the laws. -/
import Derived.Test.YtnmbkopnopaigaaSkLaw2
namespace Go.Sx.Sk
def vl (rows : List (List Int)) (r i : Nat) : Int := (rows.getD r []).getD i default
theorem rows_ext {A B : List (List Int)} (h : A.length = B.length) (h1 : ∀ r, r < A.length → (A.getD r []).length = (B.getD r []).length) (h2 : ∀ r i, r < A.length → i < (A.getD r []).length → vl A r i = vl B r i) : A = B :=
  List.ext_getElem h fun r g1 g2 => by
    rw [← getD_of (d := []) g1, ← getD_of (d := []) g2]
    exact ext_getD (h1 r g1) fun i hi => h2 r i g1 hi
theorem vl_map {f : Int → Int → Int → Int} {rows : List (List Int)} {r i : Nat} (hr : r < rows.length) (hi : i < (rows.getD r []).length) : vl (mapRows f rows) r i = f r i (vl rows r i) := by
  unfold vl; rw [mapRows_get f hr, mapRow_get f hi]
theorem mlen (f : Int → Int → Int → Int) {rows : List (List Int)} {r : Nat} (hr : r < rows.length) : ((mapRows f rows).getD r []).length = (rows.getD r []).length := by rw [mapRows_get f hr, mapRow_len]
theorem Form.vl {s : DSketch} (h : Form s) {r i : Nat} (hr : r < s.counts.length) (hi : i < (s.counts.getD r []).length) : 0 ≤ vl s.counts r i ∧ vl s.counts r i ≤ 1099511627776 := el_bd (h.bd _ (row_mem hr)) hi
theorem mapOk_iff {f : Int → Int → Int → Int} {s : DSketch} : mapOk f s = true ↔ ∀ r i, r < s.counts.length → i < (s.counts.getD r []).length → f r i (Sk.vl s.counts r i) ≤ 1099511627776 := by
  constructor
  · intro h r i hr hi
    have h1 := List.all_eq_true.1 (List.all_eq_true.1 h ((mapRows f s.counts).getD r []) (row_mem (by rw [mapRows_len]; exact hr))) (Sk.vl (mapRows f s.counts) r i) (getD_mem (by rw [mlen f hr]; exact hi))
    rw [vl_map hr hi] at h1
    exact of_decide_eq_true h1
  · intro h
    refine List.all_eq_true.2 fun l hl => List.all_eq_true.2 fun n hn => ?_
    obtain ⟨r, hr, rfl⟩ := mem_rows hl
    obtain ⟨i, hi, rfl⟩ := mem_row hn
    exact decide_eq_true (h r i hr hi)
theorem wrap_in {z : Int} (h : 0 ≤ z) (h2 : z ≤ 4398046511104) : IntKind.i64.wrap z = z := wrap_i64 (by omega)
/-! ### sums of rows that are changed -/
theorem sum_set {l : List Int} {i : Nat} {z : Int} (h : i < l.length) : sum (l.set i z) = sum l + (z - l.getD i default) := by
  unfold sum
  induction l generalizing i with
  | nil => exact absurd h (Nat.not_lt_zero _)
  | cons x l ih =>
    cases i with
    | zero => simp; omega
    | succ i =>
      have := ih (i := i) (by simpa using h)
      simp only [List.set_cons_succ, List.sum_cons, List.getD_cons_succ, this]
      omega
theorem sum_add {l m : List Int} (h : l.length = m.length) {k : List Int} (hk : k.length = l.length) (h2 : ∀ i, i < l.length → k.getD i default = l.getD i default + m.getD i default) : sum k = sum l + sum m := by
  unfold sum
  induction l generalizing m k with
  | nil =>
    have h3 : m = [] := List.length_eq_zero_iff.1 h.symm
    have h4 : k = [] := List.length_eq_zero_iff.1 hk
    subst h3; subst h4; simp
  | cons x l ih =>
    match m, k, h, hk with
    | y :: m, z :: k, h, hk =>
      have h0 := h2 0 (by simp)
      simp only [List.getD_cons_zero] at h0
      have := ih (m := m) (k := k) (by simpa using h) (by simpa using hk) fun i hi => by simpa using h2 (i + 1) (by simpa using hi)
      simp only [List.sum_cons, this, h0]
      omega
/-! ### adding -/
structure AddOk (s : DSketch) (key : ByteArray) (many : Int) : Prop where
  ok : Ok s
  ks : key.size ≤ 40
  m1 : 1 ≤ many
  m2 : many ≤ 1099511627776
  fit : mapOk (addF key s.wide many) s = true
theorem addErr_iff {s : DSketch} {key : ByteArray} {many : Int} : addErr s key many = 0 ↔ AddOk s key many := by
  constructor
  · intro h
    unfold addErr at h
    split at h
    · rename_i h1; exact absurd h h1
    · rename_i h1
      have hk := key_ok (s := s) (key := key) (by simpa using h1)
      split at h
      · cases h
      · split at h
        · rename_i h3; exact ⟨hk.1, hk.2, by omega, by omega, h3⟩
        · cases h
  · intro h
    have h1 : keyErr s key = 0 := by rw [keyErr, if_neg (by simpa using check_ok.2 h.ok)]; exact sumErr_iff.2 h.ks
    have := h.m1; have := h.m2
    rw [addErr, if_neg (by simpa using h1), if_neg (by omega), if_pos h.fit]
theorem AddOk.keyErr {s : DSketch} {key : ByteArray} {many : Int} (h : AddOk s key many) : Sk.keyErr s key = 0 := by rw [Sk.keyErr, if_neg (by simpa using check_ok.2 h.ok)]; exact sumErr_iff.2 h.ks
theorem AddOk.val {s : DSketch} {key : ByteArray} {many : Int} (h : AddOk s key many) : add s key many = ⟨s.wide, mapRows (addF key s.wide many) s.counts⟩ := by
  rw [add, if_pos (addErr_iff.2 h), mapS, if_pos h.fit]
theorem AddOk.pl {s : DSketch} {key : ByteArray} {many : Int} (h : AddOk s key many) {r : Nat} (hr : r < s.counts.length) : 0 ≤ place key r s.wide ∧ (place key r s.wide).toNat < (s.counts.getD r []).length := by
  have h1 := place_bd key r (wide := s.wide) ⟨h.ok.w1, h.ok.w2⟩
  have h2 := h.ok.row_len hr
  omega
theorem addF_val {key : ByteArray} {w many : Int} {r i : Nat} {n : Int} (hn : 0 ≤ n ∧ n ≤ 1099511627776) (hm : 0 ≤ many ∧ many ≤ 2199023255552) : addF key w many r i n = if (i : Int) = place key r w then n + many else n := by
  unfold addF; split
  · exact wrap_in (by omega) (by omega)
  · rfl
theorem AddOk.vl {s : DSketch} {key : ByteArray} {many : Int} (h : AddOk s key many) {r i : Nat} (hr : r < s.counts.length) (hi : i < (s.counts.getD r []).length) : Sk.vl (add s key many).counts r i = if (i : Int) = place key r s.wide then Sk.vl s.counts r i + many else Sk.vl s.counts r i := by
  have := h.m1; have := h.m2
  rw [h.val]
  simp only
  rw [vl_map hr hi, addF_val (h.ok.vl hr hi) (by omega)]
theorem addRow_sum {s : DSketch} {key : ByteArray} {many : Int} (h : AddOk s key many) {r : Nat} (hr : r < s.counts.length) : sum ((add s key many).counts.getD r []) = sum (s.counts.getD r []) + many := by
  obtain ⟨p1, p2⟩ := h.pl hr
  have hl : ((add s key many).counts.getD r []).length = (s.counts.getD r []).length := by rw [h.val]; exact mlen _ hr
  have e : (add s key many).counts.getD r [] = (s.counts.getD r []).set (place key r s.wide).toNat ((s.counts.getD r []).getD (place key r s.wide).toNat default + many) := by
    refine ext_getD (by rw [hl, List.length_set]) fun i hi => ?_
    rw [hl] at hi
    have := h.vl hr hi
    unfold Sk.vl at this
    rw [this, getD_set p2]
    by_cases e : (i : Int) = place key r s.wide
    · rw [if_pos e, if_pos (by omega)]
      have e2 : i = (place key r s.wide).toNat := by omega
      rw [← e2]
    · rw [if_neg e, if_neg (by omega)]
  rw [e, sum_set p2]
  omega
theorem AddOk.form {s : DSketch} {key : ByteArray} {many : Int} (h : AddOk s key many) : Form (add s key many) := by
  rw [h.val]
  have := h.m1; have := h.m2
  refine mapRows_bd h.ok.toForm (fun r i n hn => ?_) h.fit
  unfold addF; split
  · rw [wrap_in (by omega) (by omega)]; omega
  · exact hn.1
theorem AddOk.len {s : DSketch} {key : ByteArray} {many : Int} (h : AddOk s key many) : (add s key many).counts.length = s.counts.length := by rw [h.val]; exact mapRows_len _ _
theorem AddOk.wide {s : DSketch} {key : ByteArray} {many : Int} (h : AddOk s key many) : (add s key many).wide = s.wide := by rw [h.val]
theorem AddOk.rlen {s : DSketch} {key : ByteArray} {many : Int} (h : AddOk s key many) {r : Nat} (hr : r < s.counts.length) : ((add s key many).counts.getD r []).length = (s.counts.getD r []).length := by rw [h.val]; exact mlen _ hr
theorem Ok.sum_at {s : DSketch} (h : Ok s) {r : Nat} (hr : r < s.counts.length) : sum (s.counts.getD r []) = sum (s.counts.getD 0 []) := h.same _ (row_mem hr)
theorem AddOk.after {s : DSketch} {key : ByteArray} {many : Int} (h : AddOk s key many) : Ok (add s key many) :=
  ⟨h.form, fun l hl => by
    obtain ⟨r, hr, rfl⟩ := List.getElem_of_mem hl
    have hr' : r < s.counts.length := by rw [← h.len]; exact hr
    have hp := h.ok.pos
    rw [← getD_of (d := []) hr, addRow_sum h hr', addRow_sum h (show 0 < s.counts.length by omega), h.ok.sum_at hr']⟩
theorem AddOk.total {s : DSketch} {key : ByteArray} {many : Int} (h : AddOk s key many) : Sk.total (add s key many) = Sk.total s + many := by
  have hp := h.ok.pos
  rw [Sk.total, if_pos (check_ok.2 h.after), Sk.total, if_pos (check_ok.2 h.ok), addRow_sum h (by omega)]
theorem add_bad {s : DSketch} {key : ByteArray} {many : Int} (h : addErr s key many ≠ 0) : add s key many = zero := if_neg h
/-! ### SketchAdds -/
theorem adds_law {s : DSketch} {key : ByteArray} {a b : Int} (h : addErr s key a = 0) (h2 : addErr (add s key a) key b = 0) :
    (1099511627776 < a + b ∧ addErr s key (a + b) = 3) ∨ (a + b ≤ 1099511627776 ∧ addErr s key (a + b) = 0 ∧ add s key (a + b) = add (add s key a) key b ∧ check s = 0 ∧ check (add (add s key a) key b) = 0 ∧ total (add (add s key a) key b) = total s + a + b) := by
  have h1 := addErr_iff.1 h
  have h3 := addErr_iff.1 h2
  have m1 := h1.m1; have m2 := h1.m2; have m3 := h3.m1; have m4 := h3.m2
  rcases Int.lt_or_le 1099511627776 (a + b) with c | c
  · exact .inl ⟨c, by rw [addErr, if_neg (by simpa using h1.keyErr), if_pos (by omega)]⟩
  · have hv : ∀ r i, r < s.counts.length → i < (s.counts.getD r []).length → Sk.vl (add (add s key a) key b).counts r i = addF key s.wide (a + b) r i (Sk.vl s.counts r i) := fun r i hr hi => by
      rw [h3.vl (by rw [h1.len]; exact hr) (by rw [h1.rlen hr]; exact hi), h1.vl hr hi, h1.wide, addF_val (h1.ok.vl hr hi) (by omega)]
      split <;> omega
    have hfit : mapOk (addF key s.wide (a + b)) s = true := mapOk_iff.2 fun r i hr hi => by
      rw [← hv r i hr hi]
      have hr1 : r < (add s key a).counts.length := by rw [h1.len]; exact hr
      have hr2 : r < (add (add s key a) key b).counts.length := by rw [h3.len]; exact hr1
      exact (h3.form.vl hr2 (by rw [h3.rlen hr1, h1.rlen hr]; exact hi)).2
    have hA : AddOk s key (a + b) := ⟨h1.ok, h1.ks, by omega, c, hfit⟩
    refine .inr ⟨c, addErr_iff.2 hA, ?_, check_ok.2 h1.ok, check_ok.2 h3.after, ?_⟩
    · have e1 : (add s key (a + b)).wide = (add (add s key a) key b).wide := by rw [hA.wide, h3.wide, h1.wide]
      have e2 : (add s key (a + b)).counts = (add (add s key a) key b).counts := by
        refine rows_ext (by rw [hA.len, h3.len, h1.len]) (fun r hr => ?_) fun r i hr hi => ?_
        · rw [hA.len] at hr
          rw [hA.rlen hr, h3.rlen (by rw [h1.len]; exact hr), h1.rlen hr]
        · rw [hA.len] at hr
          rw [hA.rlen hr] at hi
          rw [hv r i hr hi, hA.vl hr hi, addF_val (h1.ok.vl hr hi) (by omega)]
      revert e1 e2
      generalize add s key (a + b) = p
      generalize add (add s key a) key b = q
      intro e1 e2
      cases p; cases q; simp only at e1 e2; subst e1; subst e2; rfl
    · rw [h3.total, h1.total]
/-! ### SketchMerge -/
structure MrgOk (a b : DSketch) : Prop where
  oa : Ok a
  ob : Ok b
  w : a.wide = b.wide
  l : a.counts.length = b.counts.length
  fit : mapOk (mrgF b.counts) a = true
theorem mrgErr_iff {a b : DSketch} : mrgErr a b = 0 ↔ MrgOk a b := by
  constructor
  · intro h
    unfold mrgErr at h
    split at h
    · rename_i h1; exact absurd h h1
    · rename_i h1
      split at h
      · rename_i h2; exact absurd h h2
      · rename_i h2
        split at h
        · cases h
        · split at h
          · rename_i h3 h4; exact ⟨check_ok.1 (by simpa using h1), check_ok.1 (by simpa using h2), by omega, by omega, h4⟩
          · cases h
  · intro h
    have := h.w; have := h.l
    rw [mrgErr, if_neg (by simpa using check_ok.2 h.oa), if_neg (by simpa using check_ok.2 h.ob), if_neg (by omega), if_pos h.fit]
theorem mrg_bad {a b : DSketch} (h : mrgErr a b ≠ 0) : merge a b = zero := if_neg h
theorem MrgOk.val {a b : DSketch} (h : MrgOk a b) : merge a b = ⟨a.wide, mapRows (mrgF b.counts) a.counts⟩ := by
  rw [merge, if_pos (mrgErr_iff.2 h), mapS, if_pos h.fit]
theorem mrgF_val {b : List (List Int)} {r i : Nat} {n : Int} (h : 0 ≤ n + vl b r i) (h2 : n + vl b r i ≤ 4398046511104) : mrgF b r i n = n + vl b r i := by
  unfold mrgF
  rw [Int.toNat_natCast, Int.toNat_natCast]
  exact wrap_in h h2
theorem same_rl {a b : DSketch} (ha : Ok a) (hb : Ok b) (hw : a.wide = b.wide) (hl : a.counts.length = b.counts.length) {r : Nat} (hr : r < a.counts.length) : (a.counts.getD r []).length = (b.counts.getD r []).length := by
  have h1 := ha.row_len hr
  have h2 := hb.row_len (show r < b.counts.length by omega)
  omega
theorem MrgOk.vl {a b : DSketch} (h : MrgOk a b) {r i : Nat} (hr : r < a.counts.length) (hi : i < (a.counts.getD r []).length) : Sk.vl (merge a b).counts r i = Sk.vl a.counts r i + Sk.vl b.counts r i := by
  have h1 := h.oa.vl hr hi
  have h2 := h.ob.vl (show r < b.counts.length by have := h.l; omega) (by rw [← same_rl h.oa h.ob h.w h.l hr]; exact hi)
  rw [h.val]
  simp only
  rw [vl_map hr hi, mrgF_val (by omega) (by omega)]
theorem MrgOk.len {a b : DSketch} (h : MrgOk a b) : (merge a b).counts.length = a.counts.length := by rw [h.val]; exact mapRows_len _ _
theorem MrgOk.wide {a b : DSketch} (h : MrgOk a b) : (merge a b).wide = a.wide := by rw [h.val]
theorem MrgOk.rlen {a b : DSketch} (h : MrgOk a b) {r : Nat} (hr : r < a.counts.length) : ((merge a b).counts.getD r []).length = (a.counts.getD r []).length := by rw [h.val]; exact mlen _ hr
theorem sk_ext {p q : DSketch} (h : p.wide = q.wide) (h2 : p.counts = q.counts) : p = q := by cases p; cases q; simp only at h h2; subst h; subst h2; rfl
theorem MrgOk.symm {a b : DSketch} (h : MrgOk a b) : MrgOk b a := by
  refine ⟨h.ob, h.oa, h.w.symm, h.l.symm, mapOk_iff.2 fun r i hr hi => ?_⟩
  have hr' : r < a.counts.length := by rw [h.l]; exact hr
  have hi' : i < (a.counts.getD r []).length := by rw [same_rl h.oa h.ob h.w h.l hr']; exact hi
  have h1 := h.oa.vl hr' hi'
  have h2 := h.ob.vl hr hi
  have h3 := mapOk_iff.1 h.fit r i hr' hi'
  rw [mrgF_val (by omega) (by omega)] at h3
  rw [mrgF_val (by omega) (by omega)]
  omega
theorem MrgOk.comm {a b : DSketch} (h : MrgOk a b) : merge a b = merge b a := by
  have h' := h.symm
  refine sk_ext (by rw [h.wide, h'.wide, h.w]) (rows_ext (by rw [h.len, h'.len, h.l]) (fun r hr => ?_) fun r i hr hi => ?_)
  · rw [h.len] at hr
    rw [h.rlen hr, h'.rlen (by rw [← h.l]; exact hr), same_rl h.oa h.ob h.w h.l hr]
  · rw [h.len] at hr
    rw [h.rlen hr] at hi
    rw [h.vl hr hi, h'.vl (by rw [← h.l]; exact hr) (by rw [← same_rl h.oa h.ob h.w h.l hr]; exact hi), Int.add_comm]
theorem MrgOk.form {a b : DSketch} (h : MrgOk a b) : Form (merge a b) where
  pos := by rw [h.len]; exact h.oa.pos
  few := by rw [h.len]; exact h.oa.few
  w1 := by rw [h.wide]; exact h.oa.w1
  w2 := by rw [h.wide]; exact h.oa.w2
  len := fun l hl => by
    obtain ⟨r, hr, rfl⟩ := List.getElem_of_mem hl
    have hr' : r < a.counts.length := by rw [← h.len]; exact hr
    rw [← getD_of (d := []) hr, h.rlen hr', h.wide]; exact h.oa.row_len hr'
  bd := fun l hl n hn => by
    obtain ⟨r, hr, rfl⟩ := List.getElem_of_mem hl
    have hr' : r < a.counts.length := by rw [← h.len]; exact hr
    rw [← getD_of (d := []) hr] at hn
    obtain ⟨i, hi, rfl⟩ := List.getElem_of_mem hn
    have hi' : i < (a.counts.getD r []).length := by rw [← h.rlen hr']; exact hi
    rw [← getD_of (d := default) hi]
    have e := h.vl hr' hi'
    have h1 := h.oa.vl hr' hi'
    have h2 := h.ob.vl (show r < b.counts.length by have := h.l; omega) (by rw [← same_rl h.oa h.ob h.w h.l hr']; exact hi')
    have h3 := mapOk_iff.1 h.fit r i hr' hi'
    rw [mrgF_val (by omega) (by omega)] at h3
    unfold Sk.vl at e h1 h2 h3
    rw [e]
    omega
/-- a sketch to which something is added, and the sum -/
theorem merge_law {a b : DSketch} {key : ByteArray} {many : Int} (h : mrgErr a b = 0) (h2 : addErr (merge a b) key many = 0) :
    addErr a key many = 0 ∧ mrgErr (add a key many) b = 0 ∧ merge (add a key many) b = add (merge a b) key many ∧ keyErr a key = 0 ∧ keyErr (merge a b) key = 0 ∧ est a key ≤ est (merge a b) key := by
  have hm := mrgErr_iff.1 h
  have hA := addErr_iff.1 h2
  have m1 := hA.m1; have m2 := hA.m2
  have hvb : ∀ r i, r < a.counts.length → i < (a.counts.getD r []).length → 0 ≤ Sk.vl b.counts r i ∧ Sk.vl b.counts r i ≤ 1099511627776 := fun r i hr hi =>
    hm.ob.vl (show r < b.counts.length by have := hm.l; omega) (by rw [← same_rl hm.oa hm.ob hm.w hm.l hr]; exact hi)
  have hy : ∀ r i, r < a.counts.length → i < (a.counts.getD r []).length → Sk.vl (add (merge a b) key many).counts r i = (if (i : Int) = place key r a.wide then Sk.vl a.counts r i + many else Sk.vl a.counts r i) + Sk.vl b.counts r i := fun r i hr hi => by
    rw [hA.vl (by rw [hm.len]; exact hr) (by rw [hm.rlen hr]; exact hi), hm.vl hr hi, hm.wide]
    split <;> omega
  have hyb : ∀ r i, r < a.counts.length → i < (a.counts.getD r []).length → Sk.vl (add (merge a b) key many).counts r i ≤ 1099511627776 := fun r i hr hi =>
    (hA.form.vl (by rw [hA.len, hm.len]; exact hr) (by rw [hA.rlen (by rw [hm.len]; exact hr), hm.rlen hr]; exact hi)).2
  have hAa : AddOk a key many := ⟨hm.oa, hA.ks, m1, m2, mapOk_iff.2 fun r i hr hi => by
    rw [addF_val (hm.oa.vl hr hi) (by omega)]
    have e1 := hy r i hr hi
    have e2 := hyb r i hr hi
    have e3 := hvb r i hr hi
    omega⟩
  have hM : MrgOk (add a key many) b := ⟨hAa.after, hm.ob, by rw [hAa.wide]; exact hm.w, by rw [hAa.len]; exact hm.l, mapOk_iff.2 fun r i hr hi => by
    rw [hAa.len] at hr
    rw [hAa.rlen hr] at hi
    have e1 := hy r i hr hi
    have e2 := hyb r i hr hi
    have e3 := hvb r i hr hi
    have e4 := hAa.vl hr hi
    have e5 := hm.oa.vl hr hi
    have e6 : 0 ≤ Sk.vl (add a key many).counts r i + Sk.vl b.counts r i ∧ Sk.vl (add a key many).counts r i + Sk.vl b.counts r i ≤ 1099511627776 := by
      rw [e4]
      constructor
      · split <;> omega
      · rw [← e1]; exact e2
    rw [mrgF_val e6.1 (by omega)]
    exact e6.2⟩
  refine ⟨addErr_iff.2 hAa, mrgErr_iff.2 hM, ?_, hAa.keyErr, hA.keyErr, ?_⟩
  · refine sk_ext (by rw [hM.wide, hAa.wide, hA.wide, hm.wide]) (rows_ext (by rw [hM.len, hAa.len, hA.len, hm.len]) (fun r hr => ?_) fun r i hr hi => ?_)
    · rw [hM.len, hAa.len] at hr
      rw [hM.rlen (by rw [hAa.len]; exact hr), hAa.rlen hr, hA.rlen (by rw [hm.len]; exact hr), hm.rlen hr]
    · rw [hM.len, hAa.len] at hr
      rw [hM.rlen (by rw [hAa.len]; exact hr), hAa.rlen hr] at hi
      rw [hM.vl (by rw [hAa.len]; exact hr) (by rw [hAa.rlen hr]; exact hi), hAa.vl hr hi, hy r i hr hi]
  · rw [est, if_pos hAa.keyErr, est, if_pos hA.keyErr, hm.len]
    have hat : ∀ r, r < a.counts.length → at_ a key r ≤ at_ (merge a b) key r := fun r hr => by
      obtain ⟨p1, p2⟩ := hAa.pl hr
      have e1 := hm.vl hr p2
      have e2 := hvb r _ hr p2
      unfold at_
      rw [hm.wide]
      unfold Sk.vl at e1 e2
      rw [e1]
      omega
    have key : ∀ k, k ≤ a.counts.length → leastTo a key k ≤ leastTo (merge a b) key k := by
      intro k
      induction k with
      | zero => intro _; have := hm.oa.pos; exact hat 0 (by omega)
      | succ k ih =>
        intro hk
        have h1 := ih (by omega)
        have h2 := hat k (by omega)
        show min _ _ ≤ min _ _
        omega
    exact key _ (Nat.le_refl _)
end Go.Sx.Sk
