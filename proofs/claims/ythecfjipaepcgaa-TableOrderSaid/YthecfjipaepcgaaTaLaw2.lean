/- Hash tables: what Check says; finding, putting, filling. -/
import Derived.Test.YthecfjipaepcgaaTaLaw
namespace Go.Sx.Tab
/-! ### the probes of a key -/
def P (n : Nat) (key : ByteArray) (m : Nat) : Nat := (place (home key (n : Int)) (n : Int) m).toNat
theorem P_lt {n : Nat} (hn : 1 ≤ n ∧ n ≤ 64) (key : ByteArray) (m : Nat) : P n key m < n := by
  have := place_bd (n := (n : Int)) (by omega) (home_bd key (n := (n : Int)) (by omega)).1 m
  unfold P; omega
theorem P_int {n : Nat} (hn : 1 ≤ n ∧ n ≤ 64) (key : ByteArray) (m : Nat) : place (home key (n : Int)) (n : Int) m = (P n key m : Int) := by
  have := place_bd (n := (n : Int)) (by omega) (home_bd key (n := (n : Int)) (by omega)).1 m
  unfold P; omega
theorem P_eq {n : Nat} (hn : 1 ≤ n ∧ n ≤ 64) (key : ByteArray) (m : Nat) : P n key m = ((home key (n : Int)).toNat + m) % n := by
  have h := home_bd key (n := (n : Int)) (by omega)
  unfold P place
  rw [Int.tmod_eq_emod_of_nonneg (by omega)]
  have e : home key (n : Int) + (m : Int) = (((home key (n : Int)).toNat + m : Nat) : Int) := by omega
  rw [e, ← Int.natCast_emod, Int.toNat_natCast]
theorem mod_inj {h a b n : Nat} (ha : a < n) (hb : b < n) (e : (h + a) % n = (h + b) % n) : a = b := by
  have h1 : (h + a) % n = (h % n + a) % n := by rw [Nat.add_mod, Nat.mod_eq_of_lt ha, Nat.add_mod (h % n), Nat.mod_mod, Nat.mod_eq_of_lt ha]
  have h2 : (h + b) % n = (h % n + b) % n := by rw [Nat.add_mod, Nat.mod_eq_of_lt hb, Nat.add_mod (h % n), Nat.mod_mod, Nat.mod_eq_of_lt hb]
  rw [h1, h2] at e
  have hh : h % n < n := Nat.mod_lt _ (by omega)
  generalize h % n = q at *
  have r1 : (q + a) % n = if q + a < n then q + a else q + a - n := by
    split
    · exact Nat.mod_eq_of_lt (by assumption)
    · rw [Nat.mod_eq_sub_mod (by omega), Nat.mod_eq_of_lt (by omega)]
  have r2 : (q + b) % n = if q + b < n then q + b else q + b - n := by
    split
    · exact Nat.mod_eq_of_lt (by assumption)
    · rw [Nat.mod_eq_sub_mod (by omega), Nat.mod_eq_of_lt (by omega)]
  rw [r1, r2] at e
  split at e <;> split at e <;> omega
theorem P_inj {n : Nat} (hn : 1 ≤ n ∧ n ≤ 64) {key : ByteArray} {a b : Nat} (ha : a < n) (hb : b < n) (e : P n key a = P n key b) : a = b := by
  rw [P_eq hn, P_eq hn] at e; exact mod_inj ha hb e
abbrev U (t : List DSlot) (i : Nat) : Bool := (t.getD i default).used
abbrev K (t : List DSlot) (i : Nat) : ByteArray := (t.getD i default).key
theorem slot_P {t : List DSlot} {key : ByteArray} (k : Nat) : slot t (home key (t.length : Int)) k = t.getD (P t.length key k) default := rfl
structure Ok (t : List DSlot) : Prop where
  len : 1 ≤ t.length ∧ t.length ≤ 64
  one : ∀ i, i < t.length → one (t.getD i default) = 0
  uniq : ∀ i j, i < t.length → j < t.length → U t i = true → U t j = true → K t i = K t j → i = j
  reach : ∀ i, i < t.length → U t i = true → ∃ m, m < t.length ∧ P t.length (K t i) m = i ∧ ∀ m', m' < m → U t (P t.length (K t i) m') = true
/-! ### Check -/
theorem go_iff : ∀ {l : List DSlot} {pre : List ByteArray}, pre.Nodup → (checkGo pre l = 0 ↔ (∀ s ∈ l, Tab.one s = 0) ∧ (pre ++ keys l).Nodup)
  | [], pre, hp => by simp [checkGo, keys, hp]
  | s :: l, pre, hp => by
    rw [checkGo]
    by_cases e : Tab.one s ≠ 0
    · rw [if_pos e]; exact ⟨fun h => absurd h e, fun h => absurd (h.1 s (by simp)) e⟩
    · rw [if_neg e]
      have e' : Tab.one s = 0 := by simpa using e
      by_cases u : s.used = false
      · rw [if_pos u, go_iff hp, show keys (s :: l) = keys l by simp [keys, u]]
        exact ⟨fun h => ⟨fun x hx => by rcases List.mem_cons.1 hx with q | q; rw [q]; exact e'; exact h.1 x q, h.2⟩, fun h => ⟨fun x hx => h.1 x (by simp [hx]), h.2⟩⟩
      · have u' : s.used = true := by simpa using u
        rw [if_neg u, show keys (s :: l) = s.key :: keys l by simp [keys, u']]
        by_cases m : s.key ∈ pre
        · rw [if_pos m]
          constructor
          · intro h; cases h
          · intro h; exact absurd (List.nodup_append.1 h.2).2.2 (by intro q; exact q _ m _ (by simp) rfl)
        · rw [if_neg m, go_iff (List.nodup_append.2 ⟨hp, by simp, fun a ha b hb e => by rw [List.mem_singleton] at hb; exact m (by rw [← hb, ← e]; exact ha)⟩), List.append_assoc]
          exact ⟨fun h => ⟨fun x hx => by rcases List.mem_cons.1 hx with q | q; rw [q]; exact e'; exact h.1 x q, h.2⟩, fun h => ⟨fun x hx => h.1 x (by simp [hx]), h.2⟩⟩
theorem uniq_iff {t : List DSlot} : (keys t).Nodup ↔ ∀ i j, i < t.length → j < t.length → U t i = true → U t j = true → K t i = K t j → i = j := by
  unfold keys List.Nodup
  rw [List.pairwise_map, List.pairwise_filter, List.pairwise_iff_getElem]
  constructor
  · intro h i j hi hj ui uj e
    unfold U at ui uj; unfold K at e
    rw [getd_eq hi] at ui e; rw [getd_eq hj] at uj e
    rcases Nat.lt_trichotomy i j with q | q | q
    · exact absurd e (h i j hi hj q ui uj)
    · exact q
    · exact absurd e.symm (h j i hj hi q uj ui)
  · intro h i j hi hj hij ui uj e
    have := h i j hi hj (by unfold U; rw [getd_eq hi]; exact ui) (by unfold U; rw [getd_eq hj]; exact uj) (by unfold K; rw [getd_eq hi, getd_eq hj]; exact e)
    omega
theorem reach_iff {t : List DSlot} (hn : 1 ≤ t.length ∧ t.length ≤ 64) {i : Nat} (hi : i < t.length) (key : ByteArray) : ∀ f k, f + k = t.length → (reachGo t (home key (t.length : Int)) (i : Int) f k = true ↔ ∃ m, k ≤ m ∧ m < t.length ∧ P t.length key m = i ∧ ∀ m', k ≤ m' → m' < m → U t (P t.length key m') = true)
  | 0, k, hk => by
    unfold reachGo
    constructor
    · intro h; cases h
    · rintro ⟨m, h1, h2, _⟩; omega
  | f + 1, k, hk => by
    rw [reachGo, P_int hn, slot_P]
    by_cases e : (P t.length key k : Int) = (i : Int)
    · rw [if_pos e]
      exact ⟨fun _ => ⟨k, Nat.le_refl _, by omega, by omega, fun m' h1 h2 => by omega⟩, fun _ => rfl⟩
    · rw [if_neg e]
      by_cases u : (t.getD (P t.length key k) default).used = false
      · rw [if_pos u]
        constructor
        · intro h; cases h
        · rintro ⟨m, h1, h2, h3, h4⟩
          rcases Nat.eq_or_lt_of_le h1 with q | q
          · subst q; omega
          · have := h4 k (Nat.le_refl _) q; unfold U at this; rw [u] at this; cases this
      · rw [if_neg u, reach_iff hn hi key f (k + 1) (by omega)]
        constructor
        · rintro ⟨m, h1, h2, h3, h4⟩
          refine ⟨m, by omega, h2, h3, fun m' a b => ?_⟩
          rcases Nat.eq_or_lt_of_le a with q | q
          · subst q; unfold U; simpa using u
          · exact h4 m' q b
        · rintro ⟨m, h1, h2, h3, h4⟩
          rcases Nat.eq_or_lt_of_le h1 with q | q
          · subst q; omega
          · exact ⟨m, q, h2, h3, fun m' a b => h4 m' (by omega) b⟩
theorem all_iff {t : List DSlot} : ∀ f k, f + k = t.length → (allGo t f k = 0 ↔ ∀ i, k ≤ i → i < t.length → U t i = true → reached t (i : Int) = true)
  | 0, k, hk => by
    unfold allGo
    exact ⟨fun _ i h1 h2 => by omega, fun _ => rfl⟩
  | f + 1, k, hk => by
    rw [allGo]
    by_cases e : (t.getD k default).used = true ∧ reached t (k : Int) = false
    · rw [if_pos e]
      constructor
      · intro h; cases h
      · intro h; have := h k (Nat.le_refl _) (by omega) e.1; rw [e.2] at this; cases this
    · rw [if_neg e, all_iff f (k + 1) (by omega)]
      constructor
      · intro h i h1 h2 h3
        rcases Nat.eq_or_lt_of_le h1 with q | q
        · subst q; rcases Bool.eq_false_or_eq_true (reached t (k : Int)) with r | r
          · exact r
          · exact absurd ⟨h3, r⟩ e
        · exact h i q h2 h3
      · intro h i h1 h2 h3; exact h i (by omega) h2 h3
theorem check_ok {t : List DSlot} : check t = 0 ↔ Ok t := by
  unfold check
  by_cases h1 : t.length = 0
  · rw [if_pos h1]
    exact ⟨fun h => (by cases h), fun h => by have := h.len; omega⟩
  · rw [if_neg h1]
    by_cases h2 : 64 < (t.length : Int)
    · rw [if_pos h2]; exact ⟨fun h => (by cases h), fun h => by have := h.len; omega⟩
    · rw [if_neg h2]
      have hn : 1 ≤ t.length ∧ t.length ≤ 64 := by omega
      have hg := go_iff (l := t) (pre := []) List.nodup_nil
      rw [List.nil_append, uniq_iff] at hg
      have ho : (∀ s ∈ t, Tab.one s = 0) ↔ ∀ i, i < t.length → Tab.one (t.getD i default) = 0 := by
        constructor
        · intro h i hi; rw [getd_eq hi]; exact h _ (List.getElem_mem hi)
        · intro h s hs; obtain ⟨i, hi, rfl⟩ := List.getElem_of_mem hs; have := h i hi; rw [getd_eq hi] at this; exact this
      have hr : ∀ i, i < t.length → (reached t (i : Int) = true ↔ ∃ m, m < t.length ∧ P t.length (K t i) m = i ∧ ∀ m', m' < m → U t (P t.length (K t i) m') = true) := fun i hi => by
        unfold reached
        rw [Int.toNat_natCast, reach_iff hn hi _ t.length 0 (by omega)]
        constructor
        · rintro ⟨m, _, a, b, c⟩; exact ⟨m, a, b, fun m' h => c m' (Nat.zero_le _) h⟩
        · rintro ⟨m, a, b, c⟩; exact ⟨m, Nat.zero_le _, a, b, fun m' _ h => c m' h⟩
      by_cases h3 : checkGo [] t ≠ 0
      · rw [if_pos h3]
        exact ⟨fun h => absurd h h3, fun h => hg.2 ⟨ho.2 h.one, h.uniq⟩⟩
      · rw [if_neg h3, all_iff t.length 0 (by omega)]
        have h4 := hg.1 (by simpa using h3)
        exact ⟨fun h => ⟨hn, ho.1 h4.1, h4.2, fun i hi u => (hr i hi).1 (h i (Nat.zero_le _) hi u)⟩, fun h i _ hi u => (hr i hi).2 (h.reach i hi u)⟩
/-! ### finding -/
section
variable {t : List DSlot} {key : ByteArray}
theorem find_miss (hno : ∀ i, i < t.length → U t i = true → K t i ≠ key) (hn : 1 ≤ t.length ∧ t.length ≤ 64) : ∀ f k, findGo t key (home key (t.length : Int)) f k = (-1, 0)
  | 0, _ => rfl
  | f + 1, k => by
    rw [findGo, slot_P]
    split
    · rfl
    · rename_i u
      rw [if_neg (hno _ (P_lt hn key k) (by unfold U; simpa using u)), find_miss hno hn f (k + 1)]
theorem find_hit (hn : 1 ≤ t.length ∧ t.length ≤ 64) {m : Nat} (hb : ∀ m', m' < m → U t (P t.length key m') = true ∧ K t (P t.length key m') ≠ key) (hu : U t (P t.length key m) = true) (he : K t (P t.length key m) = key) : ∀ f k, k ≤ m → m < f + k → findGo t key (home key (t.length : Int)) f k = ((P t.length key m : Int), (m : Int) + 1)
  | 0, k, h1, h2 => by omega
  | f + 1, k, h1, h2 => by
    rw [findGo, slot_P, P_int hn]
    rcases Nat.eq_or_lt_of_le h1 with q | q
    · subst q; rw [if_neg (by unfold U at hu; rw [hu]; decide), if_pos he]
    · have := hb k q
      rw [if_neg (by have h9 := this.1; unfold U at h9; rw [h9]; decide), if_neg this.2]
      exact find_hit hn hb hu he f (k + 1) q (by omega)
theorem put_miss (hno : ∀ i, i < t.length → U t i = true → K t i ≠ key) (hn : 1 ≤ t.length ∧ t.length ≤ 64) : ∀ f k, f + k = t.length → (putGo t key (home key (t.length : Int)) f k = -1 ∧ ∀ m, k ≤ m → m < t.length → U t (P t.length key m) = true) ∨ ∃ m, k ≤ m ∧ m < t.length ∧ putGo t key (home key (t.length : Int)) f k = (P t.length key m : Int) ∧ U t (P t.length key m) = false ∧ ∀ m', k ≤ m' → m' < m → U t (P t.length key m') = true
  | 0, k, hk => .inl ⟨rfl, fun m h1 h2 => by omega⟩
  | f + 1, k, hk => by
    rw [putGo, slot_P, P_int hn]
    by_cases u : (t.getD (P t.length key k) default).used = false
    · rw [if_pos (.inl u)]
      exact .inr ⟨k, Nat.le_refl _, by omega, rfl, u, fun m' h1 h2 => by omega⟩
    · have u' : U t (P t.length key k) = true := by unfold U; simpa using u
      rw [if_neg (fun h => h.elim u (hno _ (P_lt hn key k) u'))]
      rcases put_miss hno hn f (k + 1) (by omega) with ⟨h1, h2⟩ | ⟨m, h1, h2, h3, h4, h5⟩
      · refine .inl ⟨h1, fun m a b => ?_⟩
        rcases Nat.eq_or_lt_of_le a with q | q
        · rw [← q]; exact u'
        · exact h2 m q b
      · refine .inr ⟨m, by omega, h2, h3, h4, fun m' a b => ?_⟩
        rcases Nat.eq_or_lt_of_le a with q | q
        · rw [← q]; exact u'
        · exact h5 m' q b
theorem put_hit (hn : 1 ≤ t.length ∧ t.length ≤ 64) {m : Nat} (hb : ∀ m', m' < m → U t (P t.length key m') = true ∧ K t (P t.length key m') ≠ key) (he : K t (P t.length key m) = key) : ∀ f k, k ≤ m → m < f + k → putGo t key (home key (t.length : Int)) f k = (P t.length key m : Int)
  | 0, k, h1, h2 => by omega
  | f + 1, k, h1, h2 => by
    rw [putGo, slot_P, P_int hn]
    rcases Nat.eq_or_lt_of_le h1 with q | q
    · subst q; rw [if_pos (.inr he)]
    · have := hb k q
      rw [if_neg (fun h => h.elim (by have h9 := this.1; unfold U at h9; rw [h9]; decide) this.2)]
      exact put_hit hn hb he f (k + 1) q (by omega)
/-- where a key stands -/
theorem Ok.at_ (h : Ok t) {i : Nat} (hi : i < t.length) (hu : U t i = true) (he : K t i = key) : ∃ m, m < t.length ∧ P t.length key m = i ∧ find t key = ((i : Int), (m : Int) + 1) ∧ putAt t key = (i : Int) := by
  obtain ⟨m, h1, h2, h3⟩ := h.reach i hi hu
  rw [he] at h2 h3
  have hb : ∀ m', m' < m → U t (P t.length key m') = true ∧ K t (P t.length key m') ≠ key := fun m' hm => by
    refine ⟨h3 m' hm, fun e => ?_⟩
    have := h.uniq _ i (P_lt h.len key m') hi (h3 m' hm) hu (e.trans he.symm)
    rw [← h2] at this
    have := P_inj h.len (by omega) h1 this; omega
  refine ⟨m, h1, h2, ?_, ?_⟩
  · rw [← h2]; exact find_hit h.len hb (by rw [h2]; exact hu) (by rw [h2]; exact he) _ _ (Nat.zero_le _) (by omega)
  · rw [← h2]; exact put_hit h.len hb (by rw [h2]; exact he) _ _ (Nat.zero_le _) (by omega)
/-- what a key has -/
def C (t : List DSlot) (key : ByteArray) (v : Int) : Prop := ∃ s ∈ t, s.used = true ∧ s.key = key ∧ s.value = v
theorem C_at {v : Int} : C t key v ↔ ∃ i, i < t.length ∧ U t i = true ∧ K t i = key ∧ (t.getD i default).value = v := by
  constructor
  · rintro ⟨s, hs, h1, h2, h3⟩
    obtain ⟨i, hi, rfl⟩ := List.getElem_of_mem hs
    exact ⟨i, hi, by unfold U; rw [getd_eq hi]; exact h1, by unfold K; rw [getd_eq hi]; exact h2, by rw [getd_eq hi]; exact h3⟩
  · rintro ⟨i, hi, h1, h2, h3⟩
    unfold U at h1; unfold K at h2
    rw [getd_eq hi] at h1 h2 h3
    exact ⟨_, List.getElem_mem hi, h1, h2, h3⟩
theorem absent_of (h : ¬ ∃ v, C t key v) : ∀ i, i < t.length → U t i = true → K t i ≠ key := fun i hi u e => h ⟨_, C_at.2 ⟨i, hi, u, e, rfl⟩⟩
theorem get_yes (h : Ok t) (hk : key.size ≤ 40) {v : Int} (hc : C t key v) : keyErr t key = 0 ∧ has t key = v := by
  obtain ⟨i, hi, h1, h2, h3⟩ := C_at.1 hc
  obtain ⟨m, m1, m2, m3, _⟩ := h.at_ hi h1 h2
  have := g4 (t := t) (key := key) (check_ok.2 h) (by omega) (by rw [m3]; exact Int.natCast_nonneg i)
  refine ⟨this.2.2, ?_⟩
  rw [this.1, m3]; exact h3
theorem get_no (h : Ok t) (hk : key.size ≤ 40) (hc : ¬ ∃ v, C t key v) : keyErr t key = 5 ∧ has t key = 0 := by
  have hf : find t key = (-1, 0) := find_miss (absent_of hc) h.len _ _
  have := g3 (t := t) (key := key) (check_ok.2 h) (by omega) (by rw [hf]; decide)
  exact ⟨this.2.2, this.1⟩
end
end Go.Sx.Tab
