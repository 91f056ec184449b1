/- Sketches: estimates of what was added; the specification's joins. -/
import Derived.Test.YtnmbkopnopaigaaSkLaw3
namespace Go.Sx.Sk
theorem sum_rep (n : Nat) : sum (List.replicate n (0 : Int)) = 0 := by
  unfold sum; induction n with
  | zero => rfl
  | succ n ih => rw [List.replicate_succ, List.sum_cons, ih]; rfl
theorem empty_row {rows wide : Int} {r : Nat} (h : r < rows.toNat) : (empty rows wide).counts.getD r [] = List.replicate wide.toNat 0 := by
  rw [getD_of (by simpa [empty] using h)]; simp [empty]
theorem empty_len {rows wide : Int} : (empty rows wide).counts.length = rows.toNat := by simp [empty]
theorem empty_ok {rows wide : Int} (h : 1 ≤ rows ∧ rows ≤ 6) (h2 : 1 ≤ wide ∧ wide ≤ 64) : Ok (empty rows wide) where
  pos := by rw [empty_len]; omega
  few := by rw [empty_len]; omega
  w1 := h2.1
  w2 := h2.2
  len := fun l hl => by
    obtain ⟨r, hr, rfl⟩ := List.getElem_of_mem hl
    rw [← getD_of (d := []) hr, empty_row (by rw [← empty_len (wide := wide)]; exact hr), List.length_replicate]
    show ((wide.toNat : Nat) : Int) = wide
    omega
  bd := fun l hl n hn => by
    obtain ⟨r, hr, rfl⟩ := List.getElem_of_mem hl
    rw [← getD_of (d := []) hr, empty_row (by rw [← empty_len (wide := wide)]; exact hr)] at hn
    have := List.eq_of_mem_replicate hn
    omega
  same := fun l hl => by
    obtain ⟨r, hr, rfl⟩ := List.getElem_of_mem hl
    rw [← getD_of (d := []) hr, empty_row (by rw [← empty_len (wide := wide)]; exact hr), empty_row (by omega)]
def inR (l : List ByteArray) (i : Int) : Prop := 0 ≤ i ∧ i < (l.length : Int)
structure EI (rows wide : Int) (l : List ByteArray) (i : Int) (s : DSketch) (many : Int) (k : Nat) : Prop where
  le : k ≤ l.length
  ok : Ok s
  wd : s.wide = wide
  len : s.counts.length = rows.toNat
  tot : total s = k
  m0 : 0 ≤ many
  mle : many ≤ k
  up : ∀ r q, r < s.counts.length → q < (s.counts.getD r []).length → vl s.counts r q ≤ k
  ks : ∀ j, j < k → (l.getD j default).size ≤ 40
  lo : inR l i → ∀ r, r < s.counts.length → many ≤ vl s.counts r (place (l.getD i.toNat default) r wide).toNat
theorem EI.start {rows wide : Int} (h : 1 ≤ rows ∧ rows ≤ 6) (h2 : 1 ≤ wide ∧ wide ≤ 64) (l : List ByteArray) (i : Int) : EI rows wide l i (empty rows wide) 0 0 where
  le := Nat.zero_le _
  ok := empty_ok h h2
  wd := rfl
  len := empty_len
  tot := by rw [total, if_pos (check_ok.2 (empty_ok h h2)), empty_row (by omega), sum_rep]; rfl
  m0 := Int.le_refl _
  mle := Int.le_refl _
  up := fun r q hr hq => by
    have hr' : r < rows.toNat := by rw [← empty_len (wide := wide)]; exact hr
    unfold vl
    rw [empty_row hr'] at hq ⊢
    rw [getD_of hq, List.getElem_replicate]
    exact Int.le_refl _
  ks := fun j hj => absurd hj (Nat.not_lt_zero j)
  lo := fun _ r hr => by
    have hr' : r < rows.toNat := by rw [← empty_len (wide := wide)]; exact hr
    unfold vl
    rw [empty_row hr', List.getD_eq_getElem?_getD, List.getElem?_replicate]
    split <;> exact Int.le_refl _
theorem EI.fit {rows wide : Int} {l : List ByteArray} {i : Int} {s : DSketch} {many : Int} {k : Nat} (h : EI rows wide l i s many k) (hk : k < l.length) (hb : l.length ≤ 1048576) (key : ByteArray) : mapOk (addF key s.wide 1) s = true :=
  mapOk_iff.2 fun r q hr hq => by
    have h1 := h.up r q hr hq
    rw [addF_val (h.ok.vl hr hq) (by omega)]
    split <;> omega
theorem EI.bad {rows wide : Int} {l : List ByteArray} {i : Int} {s : DSketch} {many : Int} {k : Nat} (h : EI rows wide l i s many k) (hk : k < l.length) (hb : l.length ≤ 1048576) (hbad : addErr s (l.getD k default) 1 ≠ 0) : (addErr s (l.getD k default) 1 == 2) = true := by
  have h1 := h.fit hk hb (l.getD k default)
  have h2 := check_ok.2 h.ok
  unfold addErr at hbad ⊢
  by_cases c : keyErr s (l.getD k default) = 0
  · rw [if_neg (by simpa using c), if_neg (by omega), if_pos h1] at hbad; exact absurd rfl hbad
  · rw [if_pos c]
    rw [keyErr, if_neg (by simpa using h2)] at c ⊢
    unfold Hash.sumErr at c ⊢
    split
    · rfl
    · rename_i c2; rw [if_neg c2] at c; exact absurd rfl c
theorem EI.next {rows wide : Int} {l : List ByteArray} {i : Int} {s : DSketch} {many : Int} {k : Nat} (h : EI rows wide l i s many k) (hk : k < l.length) (he : addErr s (l.getD k default) 1 = 0) {m' : Int} (hm : (m' = many + 1 ∧ inR l i ∧ l.getD k default = l.getD i.toNat default) ∨ (m' = many ∧ ¬ (inR l i ∧ l.getD k default = l.getD i.toNat default))) : EI rows wide l i (add s (l.getD k default) 1) m' (k + 1) := by
  have hA := addErr_iff.1 he
  have h0 := h.m0; have h1 := h.mle
  refine ⟨hk, hA.after, by rw [hA.wide]; exact h.wd, by rw [hA.len]; exact h.len, by rw [hA.total, h.tot]; rfl, by rcases hm with c | c <;> omega, by rcases hm with c | c <;> omega, fun r q hr hq => ?_, fun j hj => ?_, fun hi r hr => ?_⟩
  · rw [hA.len] at hr
    rw [hA.rlen hr] at hq
    rw [hA.vl hr hq]
    have := h.up r q hr hq
    split <;> omega
  · by_cases e : j = k
    · subst e; exact hA.ks
    · exact h.ks j (by omega)
  · rw [hA.len] at hr
    have hw := place_bd (l.getD i.toNat default) r (wide := wide) (by rw [← h.wd]; exact ⟨h.ok.w1, h.ok.w2⟩)
    have hq : (place (l.getD i.toNat default) r wide).toNat < (s.counts.getD r []).length := by
      have h2 := h.ok.row_len hr
      have h3 := h.wd
      omega
    have h4 := h.lo hi r hr
    rw [hA.vl hr hq]
    rcases hm with ⟨c1, c2, c3⟩ | ⟨c1, c2⟩
    · rw [if_pos (by rw [c3, h.wd]; omega)]; omega
    · split <;> omega
theorem EI.done {rows wide : Int} {l : List ByteArray} {i : Int} {s : DSketch} {many : Int} {k : Nat} (h : EI rows wide l i s many k) (hk : l.length ≤ k) : total s = (l.length : Int) ∧ check s = 0 := by
  have := h.le
  exact ⟨by rw [h.tot]; omega, check_ok.2 h.ok⟩
theorem EI.est {rows wide : Int} {l : List ByteArray} {i : Int} {s : DSketch} {many : Int} {k : Nat} (h : EI rows wide l i s many k) (hk : l.length ≤ k) (hi : inR l i) : keyErr s (l.getD i.toNat default) = 0 ∧ many ≤ Sk.est s (l.getD i.toNat default) ∧ Sk.est s (l.getD i.toNat default) ≤ (l.length : Int) := by
  have hle := h.le
  have hks : (l.getD i.toNat default).size ≤ 40 := h.ks _ (by unfold inR at hi; omega)
  have hke : keyErr s (l.getD i.toNat default) = 0 := by rw [keyErr, if_neg (by simpa using check_ok.2 h.ok)]; exact sumErr_iff.2 hks
  have hat : ∀ r, r < s.counts.length → many ≤ at_ s (l.getD i.toNat default) r ∧ at_ s (l.getD i.toNat default) r ≤ (l.length : Int) := fun r hr => by
    have h1 := h.lo hi r hr
    have hw := place_bd (l.getD i.toNat default) r (wide := wide) (by rw [← h.wd]; exact ⟨h.ok.w1, h.ok.w2⟩)
    have hq : (place (l.getD i.toNat default) r wide).toNat < (s.counts.getD r []).length := by
      have h2 := h.ok.row_len hr
      have h3 := h.wd
      omega
    have h2 := h.up r _ hr hq
    unfold at_
    rw [h.wd]
    unfold vl at h1 h2
    omega
  have key : ∀ n, n ≤ s.counts.length → many ≤ leastTo s (l.getD i.toNat default) n ∧ leastTo s (l.getD i.toNat default) n ≤ (l.length : Int) := by
    intro n
    induction n with
    | zero => intro _; have := h.ok.pos; exact hat 0 (by omega)
    | succ n ih =>
      intro hn
      have h1 := ih (by omega)
      have h2 := hat n (by omega)
      show many ≤ min _ _ ∧ min _ _ ≤ _
      omega
  rw [Sk.est, if_pos hke]
  exact ⟨hke, key _ (Nat.le_refl _)⟩
/-! ### SketchSpec -/
/-- the reference's estimate, on the way -/
def aboutTo (s : DSketch) (key : ByteArray) : Nat → Int
  | 0 => 2199023255552
  | k + 1 => min (aboutTo s key k) (at_ s key k)
theorem at_bd {s : DSketch} (h : Ok s) (key : ByteArray) {r : Nat} (hr : r < s.counts.length) : at_ s key r ≤ 1099511627776 := by
  have hw := place_bd key r (wide := s.wide) ⟨h.w1, h.w2⟩
  have h2 := h.row_len hr
  exact (h.vl (i := (place key r s.wide).toNat) hr (by omega)).2
theorem about_least {s : DSketch} (h : Ok s) (key : ByteArray) : ∀ k, k ≤ s.counts.length → 1 ≤ k → aboutTo s key k = leastTo s key k
  | 0, _, h1 => by omega
  | 1, _, _ => by
    have hp := h.pos
    have := at_bd h key (r := 0) (by omega)
    show min _ _ = min _ _
    show min 2199023255552 (at_ s key 0) = min (at_ s key 0) (at_ s key 0)
    omega
  | k + 2, h2, _ => by
    have ih := about_least h key (k + 1) (by omega) (by omega)
    show min (aboutTo s key (k + 1)) _ = min (leastTo s key (k + 1)) _
    rw [ih]
def okM (many : Int) : Prop := 1 ≤ many ∧ many ≤ 1099511627776
instance (many : Int) : Decidable (okM many) := by unfold okM; infer_instance
/-- the reference's sketch that is added to, on the way -/
structure AI (s : DSketch) (key : ByteArray) (many : Int) (ad : DSketch) (about : Int) (r : Nat) : Prop where
  le : r ≤ s.counts.length
  ab : about = aboutTo s key r
  wd : ad.wide = s.wide
  pr : okM many → PR (addF key s.wide many) s.counts ad.counts r 0
  un : ¬ okM many → ad = s
theorem AI.start (s : DSketch) (key : ByteArray) (many : Int) : AI s key many s 2199023255552 0 := ⟨Nat.zero_le _, rfl, rfl, fun _ => PR.start _ _, fun _ => rfl⟩
theorem AI.shape {s ad : DSketch} {key : ByteArray} {many about : Int} {r : Nat} (h : AI s key many ad about r) : ad.counts.length = s.counts.length ∧ ∀ q, (ad.counts.getD q []).length = (s.counts.getD q []).length := by
  by_cases c : okM many
  · exact ⟨(h.pr c).len, (h.pr c).rlen⟩
  · rw [h.un c]; exact ⟨rfl, fun _ => rfl⟩
theorem AI.bound {s ad : DSketch} {key : ByteArray} {many about : Int} {r : Nat} (h : AI s key many ad about r) (hs : Ok s) (c : okM many) (hr : r < s.counts.length) {p : Nat} (hp : p < (s.counts.getD r []).length) : 0 ≤ (ad.counts.getD r []).getD p default ∧ (ad.counts.getD r []).getD p default ≤ 1099511627776 := by
  rw [(h.pr c).val, if_neg (by omega)]
  exact hs.vl hr hp
theorem AI.yes {s ad : DSketch} {key : ByteArray} {many about : Int} {r : Nat} (h : AI s key many ad about r) (hs : Ok s) (c : okM many) (hr : r < s.counts.length) : AI s key many ⟨ad.wide, ad.counts.set r ((ad.counts.getD r []).set (place key r s.wide).toNat ((ad.counts.getD r []).getD (place key r s.wide).toNat default + many))⟩ (min about (at_ s key r)) (r + 1) := by
  have hw := place_bd key r (wide := s.wide) ⟨hs.w1, hs.w2⟩
  have h2 := hs.row_len hr
  have hp : (place key r s.wide).toNat < (s.counts.getD r []).length := by omega
  have hb := h.bound hs c hr hp
  refine ⟨hr, by rw [h.ab]; rfl, h.wd, fun _ => (h.pr c).one hr hp ?_ ?_, fun hn => absurd c hn⟩
  · have e : ((place key r s.wide).toNat : Int) = place key r s.wide := by omega
    rw [addF_val hb (by unfold okM at c; omega), if_pos e]
  · intro i n hi
    unfold addF
    rw [if_neg (by omega)]
theorem AI.no {s ad : DSketch} {key : ByteArray} {many about : Int} {r : Nat} (h : AI s key many ad about r) (c : ¬ okM many) (hr : r < s.counts.length) : AI s key many ad (min about (at_ s key r)) (r + 1) :=
  ⟨hr, by rw [h.ab]; rfl, h.wd, fun hn => absurd hn c, h.un⟩
theorem AI.est {s ad : DSketch} {key : ByteArray} {many about : Int} {r : Nat} (h : AI s key many ad about r) (hk : keyErr s key = 0) (hr : s.counts.length ≤ r) : about = Sk.est s key := by
  have hs := (key_ok hk).1
  have := h.le; have := hs.pos
  rw [Sk.est, if_pos hk, h.ab, show r = s.counts.length by omega]
  exact about_least hs key _ (Nat.le_refl _) (by omega)
theorem AI.all {s ad : DSketch} {key : ByteArray} {many about : Int} {r : Nat} (h : AI s key many ad about r) (c : okM many) (hr : s.counts.length ≤ r) : ad = ⟨s.wide, mapRows (addF key s.wide many) s.counts⟩ := sk_ext h.wd ((h.pr c).done hr)
/-- what the first condition leaves -/
structure J1 (s : DSketch) (key : ByteArray) (many : Int) (v about : Int) (ad : DSketch) : Prop where
  hv : v = addErr s key many
  ab : about = est s key
  had : v = 0 → ad = add s key many
theorem J1.none {s : DSketch} {key : ByteArray} {many : Int} (h : keyErr s key ≠ 0) : J1 s key many (keyErr s key) 0 zero :=
  ⟨(ad1 h).2.symm, (if_neg h).symm, fun h2 => absurd h2 h⟩
theorem J1.range {s ad : DSketch} {key : ByteArray} {many about : Int} {r : Nat} (h : AI s key many ad about r) (hk : keyErr s key = 0) (hr : s.counts.length ≤ r) (hm : many < 1 ∨ 1099511627776 < many) : J1 s key many 3 about ad :=
  ⟨(ad2 ⟨hk, hm⟩).2.symm, h.est hk hr, fun h2 => by cases h2⟩
theorem J1.full {s ad : DSketch} {key : ByteArray} {many about : Int} {r : Nat} (h : AI s key many ad about r) (hk : keyErr s key = 0) (hr : s.counts.length ≤ r) (hm : okM many) (hf : fits ad.counts = false) : J1 s key many 8 about ad := by
  rw [h.all hm hr] at hf
  exact ⟨(ad3 hk hm hf).2.symm, h.est hk hr, fun h2 => by cases h2⟩
theorem J1.fine {s ad : DSketch} {key : ByteArray} {many about : Int} {r : Nat} (h : AI s key many ad about r) (hk : keyErr s key = 0) (hr : s.counts.length ≤ r) (hm : okM many) (hf : fits ad.counts = true) : J1 s key many 0 about ad := by
  have e := h.all hm hr
  rw [e] at hf
  obtain ⟨q1, q2⟩ := ad4 hk hm hf
  exact ⟨q2.symm, h.est hk hr, fun _ => by rw [q1, mapS, e]; exact (if_pos hf).symm⟩
structure J2 (a b : DSketch) (u o tot : Int) (both half : DSketch) : Prop where
  hu : u = mrgErr a b
  ho : o = halfErr a
  ht : tot = total a
  bo : u = 0 → both = merge a b
  ha : o = 0 → half = halve a
theorem J2.none {a b : DSketch} (h : check a ≠ 0) : J2 a b (check a) (check a) 0 zero zero :=
  ⟨(mg1 h).2.symm, (hv1 h).2.symm, (if_neg h).symm, fun h2 => absurd h2 h, fun h2 => absurd h2 h⟩
theorem half_o {a hf : DSketch} {r : Nat} (hc : check a = 0) (hw : hf.wide = a.wide) (hp : PR halfF a.counts hf.counts r 0) (hr : a.counts.length ≤ r) : (even hf.counts = true → halfErr a = 0 ∧ hf = halve a) ∧ (even hf.counts = false → halfErr a = 4) := by
  have e : hf = mapS halfF a := by rw [half_map (check_ok.1 hc).toForm]; exact sk_ext hw (hp.done hr)
  subst e
  exact ⟨fun h => ⟨(hv3 hc h).2, (hv3 hc h).1.symm⟩, fun h => (hv2 hc h).2⟩
theorem both_u {a b bo : DSketch} {r : Nat} (hc : check a = 0) (hc2 : check b = 0) (h : a.wide = b.wide ∧ (a.counts.length : Int) = b.counts.length) (hw : bo.wide = a.wide) (hp : PR (mrgF b.counts) a.counts bo.counts r 0) (hr : a.counts.length ≤ r) : (fits bo.counts = true → mrgErr a b = 0 ∧ bo = merge a b) ∧ (fits bo.counts = false → mrgErr a b = 8) := by
  have e := sk_ext (q := ⟨a.wide, mapRows (mrgF b.counts) a.counts⟩) hw (hp.done hr)
  subst e
  refine ⟨fun hf => ?_, fun hf => (mg4 hc hc2 h hf).2⟩
  obtain ⟨q1, q2⟩ := mg5 hc hc2 h hf
  exact ⟨q2, by rw [q1, mapS]; exact (if_pos hf).symm⟩
theorem u_kind {a b : DSketch} (hc : check a = 0) (hc2 : check b = 0) (h : a.wide ≠ b.wide ∨ (a.counts.length : Int) ≠ b.counts.length) : mrgErr a b = 7 := (mg3 hc hc2 h).2
theorem u_bad {a b : DSketch} (hc : check a = 0) (hc2 : check b ≠ 0) : mrgErr a b = check b := (mg2 hc hc2).2
theorem J1.zero {s ad : DSketch} {key : ByteArray} {many v about : Int} (h : J1 s key many v about ad) (hv : v ≠ 0) : zero = add s key many := by
  rw [h.hv] at hv; exact (add_bad hv).symm
theorem J2.zu {a b bo hf : DSketch} {u o t : Int} (h : J2 a b u o t bo hf) (hv : u ≠ 0) : zero = merge a b := by
  rw [h.hu] at hv; exact (mrg_bad hv).symm
theorem J2.zo {a b bo hf : DSketch} {u o t : Int} (h : J2 a b u o t bo hf) (hv : o ≠ 0) : zero = halve a := by
  rw [h.ho] at hv; exact (if_neg hv).symm
theorem total_bd (s : DSketch) : 0 ≤ total s ∧ total s ≤ 70368744177664 := by
  unfold total; split
  · rename_i h
    have hs := check_ok.1 h
    have hp := hs.pos
    have h1 := sum_bd (l := s.counts.getD 0 []) (hs.bd _ (row_mem (by omega)))
    have h2 := hs.row_len (show 0 < s.counts.length by omega)
    have h3 := hs.w2
    omega
  · omega
theorem merge_bad2 {a b : DSketch} {key : ByteArray} {many : Int} (h : mrgErr a b = 0) (h2 : addErr a key many ≠ 0 ∨ addErr (merge a b) key many ≠ 0) : (addErr (merge a b) key many != 0) = true := by
  cases e : addErr (merge a b) key many != 0 with
  | true => rfl
  | false =>
    have e1 : addErr (merge a b) key many = 0 := by simpa using e
    rcases h2 with h2 | h2
    · exact absurd (merge_law h e1).1 h2
    · exact absurd e1 h2
end Go.Sx.Sk
