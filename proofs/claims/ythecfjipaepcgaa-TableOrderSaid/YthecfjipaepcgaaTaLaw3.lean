/- Hash tables: putting a key, another size. -/
import Derived.Test.YthecfjipaepcgaaTaLaw2
namespace Go.Sx.Tab
section
variable {t : List DSlot} {key : ByteArray} {v : Int}
structure PF (t : List DSlot) (key : ByteArray) (p : Nat) : Prop where
  lt : p < t.length
  old : U t p = true → K t p = key
  one : ∀ i, i < t.length → U t i = true → K t i = key → i = p
  way : ∃ m, m < t.length ∧ P t.length key m = p ∧ ∀ m', m' < m → U t (P t.length key m') = true
theorem put_facts (h : Ok t) (hp : 0 ≤ putAt t key) : ∃ p : Nat, putAt t key = (p : Int) ∧ PF t key p := by
  by_cases hc : ∃ v, C t key v
  · obtain ⟨v, hc⟩ := hc
    obtain ⟨i, hi, h1, h2, h3⟩ := C_at.1 hc
    obtain ⟨m, m1, m2, _, m3⟩ := h.at_ hi h1 h2
    refine ⟨i, m3, hi, fun _ => h2, fun j hj a b => h.uniq j i hj hi a h1 (b.trans h2.symm), ?_⟩
    obtain ⟨m', a, b, c⟩ := h.reach i hi h1
    rw [h2] at b c; exact ⟨m', a, b, c⟩
  · have hno := absent_of hc
    rcases put_miss hno h.len t.length 0 (by omega) with ⟨h1, _⟩ | ⟨m, _, h2, h3, h4, h5⟩
    · have e : putAt t key = -1 := h1
      omega
    · refine ⟨P t.length key m, h3, P_lt h.len key m, fun q => ?_, fun i hi a b => absurd b (hno i hi a), ⟨m, h2, rfl, fun m' hm => h5 m' (Nat.zero_le _) hm⟩⟩
      rw [h4] at q; cases q
theorem put_full (h : Ok t) (hp : putAt t key < 0) : (¬ ∃ v, C t key v) ∧ ∀ i, i < t.length → U t (P t.length key i) = true := by
  have hc : ¬ ∃ v, C t key v := by
    rintro ⟨v, hc⟩
    obtain ⟨i, hi, h1, h2, h3⟩ := C_at.1 hc
    obtain ⟨m, m1, m2, _, m3⟩ := h.at_ hi h1 h2
    omega
  refine ⟨hc, ?_⟩
  rcases put_miss (absent_of hc) h.len t.length 0 (by omega) with ⟨_, h1⟩ | ⟨m, _, h2, h3, h4, h5⟩
  · exact fun i hi => h1 i (Nat.zero_le _) hi
  · have e : putAt t key = (P t.length key m : Int) := h3
    omega
theorem put_eq {p : Nat} (hp : putAt t key = (p : Int)) : put t key v = t.set p ⟨true, key, v⟩ := by
  unfold put; rw [if_neg (by omega), hp, Int.toNat_natCast]
theorem U_set {p j : Nat} (hj : j < t.length) : U (t.set p ⟨true, key, v⟩) j = if p = j then true else U t j := by
  unfold U; rw [getd_set hj]; split <;> rfl
theorem K_set {p j : Nat} (hj : j < t.length) : K (t.set p ⟨true, key, v⟩) j = if p = j then key else K t j := by
  unfold K; rw [getd_set hj]; split <;> rfl
theorem one_new (hk : key.size ≤ 40) (hv : okVal v = true) : Tab.one (⟨true, key, v⟩ : DSlot) = 0 := by
  unfold Tab.one; rw [if_neg (by rintro ⟨a, _⟩; cases a), if_neg]
  rintro (a | a)
  · have : 40 < (key.size : Int) := a
    omega
  · have : okVal v = false := a
    rw [hv] at this; cases this
theorem PF.ok {p : Nat} (f : PF t key p) (h : Ok t) (hk : key.size ≤ 40) (hv : okVal v = true) : Ok (t.set p ⟨true, key, v⟩) := by
  have hl : (t.set p (⟨true, key, v⟩ : DSlot)).length = t.length := List.length_set
  refine ⟨by rw [hl]; exact h.len, fun i hi => ?_, fun i j hi hj ui uj e => ?_, fun i hi ui => ?_⟩
  · rw [hl] at hi
    rw [getd_set hi]
    split
    · exact one_new hk hv
    · exact h.one i hi
  · rw [hl] at hi hj
    rw [U_set hi] at ui; rw [U_set hj] at uj; rw [K_set hi, K_set hj] at e
    by_cases a : p = i
    · by_cases b : p = j
      · omega
      · rw [if_pos a, if_neg b] at e; rw [if_neg b] at uj
        have := f.one j hj uj e.symm; omega
    · by_cases b : p = j
      · rw [if_neg a, if_pos b] at e; rw [if_neg a] at ui
        have := f.one i hi ui e; omega
      · rw [if_neg a, if_neg b] at e; rw [if_neg a] at ui; rw [if_neg b] at uj
        exact h.uniq i j hi hj ui uj e
  · rw [hl] at hi
    rw [hl]
    rw [U_set hi] at ui; rw [K_set hi]
    have up : ∀ k' m', U t (P t.length k' m') = true → U (t.set p (⟨true, key, v⟩ : DSlot)) (P t.length k' m') = true := fun k' m' q => by
      rw [U_set (P_lt h.len k' m')]; split; rfl; exact q
    by_cases a : p = i
    · rw [if_pos a]
      obtain ⟨m, m1, m2, m3⟩ := f.way
      exact ⟨m, m1, m2.trans a, fun m' q => up _ _ (m3 m' q)⟩
    · rw [if_neg a] at ui ⊢
      obtain ⟨m, m1, m2, m3⟩ := h.reach i hi ui
      exact ⟨m, m1, m2, fun m' q => up _ _ (m3 m' q)⟩
theorem PF.c {p : Nat} (f : PF t key p) (k' : ByteArray) (v' : Int) : C (t.set p ⟨true, key, v⟩) k' v' ↔ if k' = key then v' = v else C t k' v' := by
  have hl : (t.set p (⟨true, key, v⟩ : DSlot)).length = t.length := List.length_set
  rw [C_at, hl]
  constructor
  · rintro ⟨i, hi, h1, h2, h3⟩
    rw [U_set hi] at h1; rw [K_set hi] at h2; rw [getd_set hi] at h3
    by_cases a : p = i
    · rw [if_pos a] at h2 h3; rw [if_pos h2.symm]; exact h3.symm
    · rw [if_neg a] at h1 h2 h3
      by_cases b : k' = key
      · have := f.one i hi h1 (h2.trans b); omega
      · rw [if_neg b]; exact C_at.2 ⟨i, hi, h1, h2, h3⟩
  · by_cases b : k' = key
    · rw [if_pos b]; intro e
      exact ⟨p, f.lt, by rw [U_set f.lt, if_pos rfl], by rw [K_set f.lt, if_pos rfl, b], by rw [getd_set f.lt, if_pos rfl, e]⟩
    · rw [if_neg b]; intro e
      obtain ⟨i, hi, h1, h2, h3⟩ := C_at.1 e
      have a : ¬ p = i := fun a => by subst a; exact b (h2.symm.trans (f.old h1))
      exact ⟨i, hi, by rw [U_set hi, if_neg a]; exact h1, by rw [K_set hi, if_neg a]; exact h2, by rw [getd_set hi, if_neg a]; exact h3⟩
theorem count_new {p : Nat} (hp : p < t.length) (hu : U t p = false) : (t.set p (⟨true, key, v⟩ : DSlot)).countP (·.used) = t.countP (·.used) + 1 := by
  have e : t[p].used = false := by unfold U at hu; rw [getd_eq hp] at hu; exact hu
  rw [List.countP_set hp]
  simp [e]
end
theorem one_val {s : DSlot} (h : Tab.one s = 0) : okVal s.value = true := by
  unfold Tab.one at h
  split at h
  · cases h
  · split at h
    · cases h
    · rename_i h2; rcases Bool.eq_false_or_eq_true (okVal s.value) with q | q
      · exact q
      · exact absurd (.inr q) h2
theorem C_cons {s : DSlot} {l : List DSlot} {k : ByteArray} {v : Int} : C (s :: l) k v ↔ (s.used = true ∧ s.key = k ∧ s.value = v) ∨ C l k v := by
  unfold C; simp only [List.mem_cons]
  constructor
  · rintro ⟨x, rfl | hx, h⟩
    · exact .inl h
    · exact .inr ⟨x, hx, h⟩
  · rintro (h | ⟨x, hx, h⟩)
    · exact ⟨s, .inl rfl, h⟩
    · exact ⟨x, .inr hx, h⟩
theorem keys_mem {l : List DSlot} {k : ByteArray} : k ∈ keys l ↔ ∃ v, C l k v := by
  unfold keys C
  simp only [List.mem_map, List.mem_filter]
  exact ⟨fun ⟨s, ⟨a, b⟩, c⟩ => ⟨s.value, s, a, b, c, rfl⟩, fun ⟨v, s, a, b, c, d⟩ => ⟨s, ⟨a, b⟩, c⟩⟩
theorem fill_ok : ∀ {l out : List DSlot}, Ok out → (∀ s ∈ l, Tab.one s = 0) → (keys l).Nodup → (∀ k, (∃ v, C l k v) → ¬ ∃ v, C out k v) → (fill out l).2 = true → Ok (fill out l).1 ∧ (fill out l).1.length = out.length ∧ (∀ k v, C (fill out l).1 k v ↔ C out k v ∨ C l k v) ∧ (fill out l).1.countP (·.used) = out.countP (·.used) + l.countP (·.used)
  | [], out, h, _, _, _, _ => ⟨h, rfl, fun k v => ⟨.inl, fun q => q.elim id (fun ⟨s, hs, _⟩ => by cases hs)⟩, by simp [fill]⟩
  | s :: l, out, h, ho, hn, hd, ht => by
    rw [fill] at ht ⊢
    by_cases u : s.used = true
    · rw [if_pos u] at ht ⊢
      by_cases hp : putAt out s.key < 0
      · rw [if_pos hp] at ht; cases ht
      · rw [if_neg hp] at ht ⊢
        obtain ⟨p, hp1, f⟩ := put_facts (key := s.key) h (by omega)
        have h1 := ho s (by simp)
        have habs : ¬ ∃ v, C out s.key v := hd _ ⟨_, C_cons.2 (.inl ⟨u, rfl, rfl⟩)⟩
        have hup : U out p = false := by
          rcases Bool.eq_false_or_eq_true (U out p) with q | q
          · exact absurd (f.old q) (absent_of habs p f.lt q)
          · exact q
        rw [show keys (s :: l) = s.key :: keys l by simp [keys, u], List.nodup_cons] at hn
        rw [put_eq hp1] at ht ⊢
        have hC : ∀ k v, C (out.set p ⟨true, s.key, s.value⟩) k v ↔ if k = s.key then v = s.value else C out k v := f.c
        obtain ⟨g1, g2, g3, g4⟩ := fill_ok (l := l) (f.ok (v := s.value) h (one_key h1) (one_val h1)) (fun x hx => ho x (by simp [hx])) hn.2 (fun k hk => by
          rintro ⟨v, hv⟩
          rw [hC] at hv
          by_cases e : k = s.key
          · exact hn.1 (keys_mem.2 (e ▸ hk))
          · rw [if_neg e] at hv
            obtain ⟨v', hv'⟩ := hk
            exact hd k ⟨v', C_cons.2 (.inr hv')⟩ ⟨v, hv⟩) ht
        refine ⟨g1, by rw [g2, List.length_set], fun k v => ?_, ?_⟩
        · rw [g3, hC, C_cons]
          by_cases e : k = s.key
          · rw [if_pos e]
            constructor
            · rintro (q | q)
              · exact .inr (.inl ⟨u, e.symm, q.symm⟩)
              · exact .inr (.inr q)
            · rintro (q | q | q)
              · exact absurd ⟨v, e ▸ q⟩ habs
              · exact .inl q.2.2.symm
              · exact .inr q
          · rw [if_neg e]
            constructor
            · rintro (q | q)
              · exact .inl q
              · exact .inr (.inr q)
            · rintro (q | q | q)
              · exact .inl q
              · exact absurd q.2.1.symm e
              · exact .inr q
        · rw [g4, count_new f.lt hup, List.countP_cons_of_pos (by exact u)]; omega
    · have u' : s.used = false := by simpa using u
      rw [if_neg u] at ht ⊢
      rw [show keys (s :: l) = keys l by simp [keys, u']] at hn
      obtain ⟨g1, g2, g3, g4⟩ := fill_ok (l := l) h (fun x hx => ho x (by simp [hx])) hn (fun k ⟨v, hv⟩ => hd k ⟨v, C_cons.2 (.inr hv)⟩) ht
      refine ⟨g1, g2, fun k v => ?_, ?_⟩
      · rw [g3, C_cons]
        exact ⟨fun q => q.elim .inl (fun q => .inr (.inr q)), fun q => q.elim .inl (fun q => q.elim (fun q => by rw [u'] at q; cases q.1) .inr)⟩
      · rw [g4, List.countP_cons_of_neg (by simpa using u')]
theorem getd_empty {n : Int} (i : Nat) : (empty n).getD i default = none_ := by
  unfold empty
  rw [List.getD_eq_getElem?_getD, List.getElem?_replicate]
  split <;> rfl
theorem ok_empty {n : Int} (h : 1 ≤ n ∧ n ≤ 64) : Ok (empty n) := by
  have hl : (empty n).length = n.toNat := List.length_replicate
  refine ⟨by omega, fun i _ => by rw [getd_empty]; decide, fun i j _ _ ui => ?_, fun i _ ui => ?_⟩
  · unfold U at ui; rw [getd_empty] at ui; cases ui
  · unfold U at ui; rw [getd_empty] at ui; cases ui
theorem C_empty {n : Int} {k : ByteArray} {v : Int} : ¬ C (empty n) k v := by
  rintro ⟨s, hs, hu, _⟩
  rw [List.eq_of_mem_replicate hs] at hu; cases hu
structure RL (t : List DSlot) (n : Int) (key : ByteArray) : Prop where
  len : ((sizeR t n).length : Int) = n
  ck : check (sizeR t n) = 0
  ke : keyErr t key = keyErr (sizeR t n) key
  hs : has t key = has (sizeR t n) key
  ct : t.countP (·.used) = (sizeR t n).countP (·.used)
theorem size_ok {t : List DSlot} {n : Int} (h : sizeErr t n = 0) : Ok t ∧ (1 ≤ n ∧ n ≤ 64) ∧ (fill (empty n) t).2 = true ∧ sizeR t n = (fill (empty n) t).1 := by
  have e := h
  unfold sizeErr at h
  split at h
  · rename_i h1; exact absurd h h1
  · rename_i h1
    split at h
    · cases h
    · rename_i h2
      split at h
      · rename_i h3; exact ⟨check_ok.1 (by simpa using h1), by omega, h3, if_pos e⟩
      · cases h
theorem get_same {t g : List DSlot} (h : Ok t) (hg : Ok g) (key : ByteArray) (hc : ∀ v, C g key v ↔ C t key v) : keyErr t key = keyErr g key ∧ has t key = has g key := by
  by_cases hk : key.size ≤ 40
  · by_cases hv : ∃ v, C t key v
    · obtain ⟨v, hv⟩ := hv
      have a := get_yes h hk hv
      have b := get_yes hg hk ((hc v).2 hv)
      exact ⟨a.1.trans b.1.symm, a.2.trans b.2.symm⟩
    · have a := get_no h hk hv
      have b := get_no hg hk (fun ⟨v, q⟩ => hv ⟨v, (hc v).1 q⟩)
      exact ⟨a.1.trans b.1.symm, a.2.trans b.2.symm⟩
  · have a := g2 (t := t) (key := key) (check_ok.2 h) (by omega)
    have b := g2 (t := g) (key := key) (check_ok.2 hg) (by omega)
    exact ⟨a.2.2.trans b.2.2.symm, a.1.trans b.1.symm⟩
theorem keys_nodup {t : List DSlot} (h : Ok t) : (keys t).Nodup := uniq_iff.2 h.uniq
theorem mem_one {t : List DSlot} (h : Ok t) : ∀ s ∈ t, Tab.one s = 0 := fun s hs => by
  obtain ⟨i, hi, rfl⟩ := List.getElem_of_mem hs; have := h.one i hi; rw [getd_eq hi] at this; exact this
theorem resize_law {t : List DSlot} {n : Int} (h : sizeErr t n = 0) (key : ByteArray) : RL t n key := by
  obtain ⟨ho, hn, hf, e⟩ := size_ok h
  obtain ⟨g1, g2, g3, g4⟩ := fill_ok (ok_empty hn) (mem_one ho) (keys_nodup ho) (fun k _ ⟨v, q⟩ => C_empty q) hf
  have hC : ∀ v, C (fill (empty n) t).1 key v ↔ C t key v := fun v => by rw [g3]; exact ⟨fun q => q.elim (fun q => absurd q C_empty) id, .inr⟩
  obtain ⟨a, b⟩ := get_same ho g1 key hC
  have hz : (empty n).countP (·.used) = 0 := by unfold empty; rw [List.countP_replicate]; simp [none_]
  rw [hz, Nat.zero_add] at g4
  refine ⟨?_, ?_, ?_, ?_, ?_⟩ <;> rw [e]
  · rw [g2]; unfold empty; rw [List.length_replicate]; omega
  · exact check_ok.2 g1
  · exact a
  · exact b
  · exact g4.symm
theorem RL.cnt {t : List DSlot} {n : Int} {key : ByteArray} (h : RL t n key) {a b : Int} {i j : Nat} (ha : a = (((t.take i).countP (·.used) : Nat) : Int)) (hi : t.length ≤ i) (hb : b = ((((sizeR t n).take j).countP (·.used) : Nat) : Int)) (hj : (sizeR t n).length ≤ j) : a = b := by
  rw [ha, hb, List.take_of_length_le hi, List.take_of_length_le hj, h.ct]
theorem resize_bad {t : List DSlot} {n : Int} (h : sizeErr t n ≠ 0) : (((sizeR t n).length : Int) == 0) = true := by
  rw [show sizeR t n = [] from if_neg h]; rfl
theorem count_le (t : List DSlot) (i : Nat) : ((t.take i).countP (·.used)) ≤ i := Nat.le_trans List.countP_le_length (by rw [List.length_take]; omega)
theorem count_yes {t : List DSlot} {i : Nat} {c : Int} (h : c = (((t.take i).countP (·.used) : Nat) : Int)) (hi : i < t.length) (hu : (t.getD i default).used = true) : c + 1 = (((t.take (i + 1)).countP (·.used) : Nat) : Int) := by
  rw [getd_eq hi] at hu
  rw [List.take_succ_eq_append_getElem hi, List.countP_append, h]; simp [hu]
theorem count_no {t : List DSlot} {i : Nat} {c : Int} (h : c = (((t.take i).countP (·.used) : Nat) : Int)) (hi : i < t.length) (hu : (t.getD i default).used = false) : c = (((t.take (i + 1)).countP (·.used) : Nat) : Int) := by
  rw [getd_eq hi] at hu
  rw [List.take_succ_eq_append_getElem hi, List.countP_append, h]; simp [hu]
theorem same_no {a b : List DSlot} {i : Nat} (_hI : i ≤ a.length ∧ ∀ j, j < i → a.getD j default = b.getD j default) (_h1 : i < a.length) (_h2 : a.length = b.length) (hn : a.getD i default ≠ b.getD i default) : false = decide (a = b) := (decide_eq_false (fun e => hn (by rw [e]))).symm
theorem same_yes {a b : List DSlot} {i : Nat} (hI : i ≤ a.length ∧ ∀ j, j < i → a.getD j default = b.getD j default) (h1 : a.length ≤ i) (h2 : a.length = b.length) : true = decide (a = b) := by
  refine (decide_eq_true (List.ext_getElem h2 fun j ha hb => ?_)).symm
  rw [← getd_eq ha, ← getd_eq hb]; exact hI.2 j (by omega)
theorem same_next {a b : List DSlot} {i : Nat} (h : ∀ j, j < i → a.getD j default = b.getD j default) (he : a.getD i default = b.getD i default) : ∀ j, j < i + 1 → a.getD j default = b.getD j default := fun j hj => by
  rcases Nat.lt_or_ge j i with q | q
  · exact h j q
  · rw [show j = i by omega]; exact he
end Go.Sx.Tab
namespace Go.Sx.Tab
theorem slot_ext {x y : DSlot} (h : x.used = y.used ∧ x.key = y.key ∧ x.value = y.value) : x = y := by cases x; cases y; simp_all
theorem same_no2 {a b : List DSlot} {i : Nat} (hn : ¬ (a.getD i default).used = (b.getD i default).used ∨ ¬ (a.getD i default).key = (b.getD i default).key ∨ ¬ (a.getD i default).value = (b.getD i default).value) : false = decide (a = b) := by
  refine (decide_eq_false fun e => ?_).symm
  rcases hn with q | q | q <;> exact q (by rw [e])
theorem same_len {a b : List DSlot} (hn : ¬ (a.length : Int) = (b.length : Int)) : false = decide (a = b) := (decide_eq_false fun e => hn (by rw [e])).symm
end Go.Sx.Tab
