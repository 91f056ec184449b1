/- Hash tables: the order of two keys; a key put and deleted. -/
import Derived.Test.YthecfjipaepcgaaTaLaw3
namespace Go.Sx.Tab
theorem P_add {n : Nat} (hn : 1 ≤ n ∧ n ≤ 64) (key : ByteArray) (m j : Nat) : P n key (m + j) = (P n key m + j) % n := by
  rw [P_eq hn, P_eq hn, Nat.mod_add_mod, Nat.add_assoc]
theorem wrap_step {n h m : Nat} (hm : n ≤ m) : (h + (m - n)) % n = (h + m) % n := by rw [show h + m = (h + (m - n)) + n by omega, Nat.add_mod_right]
theorem wrap_lt {ma m1 mb n : Nat} (h1 : m1 < n) (c : n ≤ ma + (m1 - mb)) : ma + (m1 - mb) - n < ma := by omega
theorem wrap_in {ma m1 mb m' : Nat} (hm : m' < ma + (m1 - mb)) (c : ma ≤ m') (hlt : mb < m1) : mb + (m' - ma) < m1 := by omega
theorem P_wrap {n : Nat} (hn : 1 ≤ n ∧ n ≤ 64) (key : ByteArray) {m : Nat} (hm : n ≤ m) : P n key (m - n) = P n key m := by rw [P_eq hn, P_eq hn]; exact wrap_step hm
section
variable {t : List DSlot} {key a b : ByteArray} {x y : Int} {p q r : Nat}
theorem PF.at_ (f : PF t key p) (h : Ok t) : putAt t key = (p : Int) := by
  by_cases u : U t p = true
  · obtain ⟨m, _, _, _, e⟩ := h.at_ f.lt u (f.old u); exact e
  · have hno : ∀ i, i < t.length → U t i = true → K t i ≠ key := fun i hi ui e => by
      have := f.one i hi ui e; subst this; exact u ui
    obtain ⟨m, m1, m2, m3⟩ := f.way
    rcases put_miss hno h.len t.length 0 (by omega) with ⟨_, h1⟩ | ⟨m', _, h2, h3, h4, h5⟩
    · have := h1 m (Nat.zero_le _) m1; rw [m2] at this; exact absurd this u
    · have e : putAt t key = (P t.length key m' : Int) := h3
      rw [e, ← m2]
      rcases Nat.lt_trichotomy m m' with c | c | c
      · have := h5 m (Nat.zero_le _) c; rw [m2] at this; exact absurd this u
      · rw [c]
      · have := m3 m' c; rw [h4] at this; cases this
theorem len_set (t : List DSlot) (p : Nat) (s : DSlot) : (t.set p s).length = t.length := List.length_set
theorem U_up {i : Nat} {v : Int} (hi : i < t.length) (h : U t i = true) : U (t.set p ⟨true, key, v⟩) i = true := by rw [U_set hi]; split; rfl; exact h
/-- another key's place stays -/
theorem PF.far (f : PF t a p) (g : PF t b q) (h : Ok t) (hne : a ≠ b) (hpq : p ≠ q) : PF (t.set q ⟨true, b, y⟩) a p := by
  refine ⟨by rw [len_set]; exact f.lt, fun u => ?_, fun i hi u e => ?_, ?_⟩
  · rw [U_set f.lt, if_neg (by omega)] at u
    rw [K_set f.lt, if_neg (by omega)]; exact f.old u
  · rw [len_set] at hi
    rw [U_set hi] at u; rw [K_set hi] at e
    by_cases c : q = i
    · rw [if_pos c] at e; exact absurd e.symm hne
    · rw [if_neg c] at u e; exact f.one i hi u e
  · obtain ⟨m, m1, m2, m3⟩ := f.way
    rw [len_set]
    exact ⟨m, m1, m2, fun m' c => U_up (P_lt h.len a m') (m3 m' c)⟩
theorem PF.near (f : PF t a p) (g : PF t b p) (h : Ok t) (hne : a ≠ b) (k : PF (t.set p ⟨true, a, x⟩) b r) : PF (t.set p ⟨true, b, y⟩) a r ∧ U t r = false ∧ r ≠ p := by
  have up : U t p = false := by
    rcases Bool.eq_false_or_eq_true (U t p) with c | c
    · exact absurd ((f.old c).symm.trans (g.old c)) hne
    · exact c
  have hr : r < t.length := by have := k.lt; rw [len_set] at this; exact this
  have hrp : r ≠ p := by
    rintro rfl
    have := k.old (by rw [U_set f.lt, if_pos rfl])
    rw [K_set f.lt, if_pos rfl] at this; exact hne this
  have ur : U t r = false := by
    rcases Bool.eq_false_or_eq_true (U t r) with c | c
    · have := k.old (by rw [U_set hr, if_neg (by omega)]; exact c)
      rw [K_set hr, if_neg (by omega)] at this
      exact absurd (g.one r hr c this) hrp
    · exact c
  refine ⟨⟨by rw [len_set]; exact hr, fun u => ?_, fun i hi u e => ?_, ?_⟩, ur, hrp⟩
  · rw [U_set hr, if_neg (by omega), ur] at u; cases u
  · rw [len_set] at hi
    rw [U_set hi] at u; rw [K_set hi] at e
    by_cases c : p = i
    · rw [if_pos c] at e; exact absurd e.symm hne
    · rw [if_neg c] at u e; have := f.one i hi u e; omega
  · obtain ⟨ma, a1, a2, a3⟩ := f.way
    obtain ⟨mb, b1, b2, b3⟩ := g.way
    obtain ⟨m1, c1, c2, c3⟩ := k.way
    rw [len_set] at c1 c2 c3
    have hlt : mb < m1 := by
      rcases Nat.lt_trichotomy m1 mb with c | c | c
      · have := b3 m1 c; rw [c2, ur] at this; cases this
      · rw [c, b2] at c2; exact absurd c2.symm hrp
      · exact c
    have hP : ∀ j, P t.length a (ma + j) = P t.length b (mb + j) := fun j => by rw [P_add h.len, P_add h.len, a2, b2]
    have e1 : P t.length a (ma + (m1 - mb)) = r := by rw [hP, Nat.add_sub_cancel' (Nat.le_of_lt hlt)]; exact c2
    have hm2 : ma + (m1 - mb) < t.length := by
      rcases Nat.lt_or_ge (ma + (m1 - mb)) t.length with c | c
      · exact c
      · exfalso
        have e2 := P_wrap h.len a c
        rw [e1] at e2
        have := a3 (ma + (m1 - mb) - t.length) (wrap_lt c1 c)
        rw [e2, ur] at this; cases this
    rw [len_set]
    refine ⟨ma + (m1 - mb), hm2, e1, fun m' hm' => ?_⟩
    rcases Nat.lt_or_ge m' ma with c | c
    · exact U_up (P_lt h.len a m') (a3 m' c)
    · have e3 := hP (m' - ma)
      rw [Nat.add_sub_cancel' c] at e3
      have := c3 (mb + (m' - ma)) (wrap_in hm' c hlt)
      rw [← e3, U_set (P_lt h.len a m')] at this
      rw [U_set (P_lt h.len a m')]; exact this
theorem ite3 {r p i : Nat} {u : Bool} : ((if r = i then true else if p = i then true else u) = true) ↔ (i = p ∨ i = r) ∨ u = true := by
  by_cases c : r = i
  · simp [c]
  · by_cases d : p = i
    · simp [d]
    · rw [if_neg c, if_neg d]; exact ⟨.inr, fun q => q.elim (fun q => q.elim (fun q => absurd q.symm d) (fun q => absurd q.symm c)) id⟩
/-- the slots that two keys take -/
theorem two_puts (h : Ok t) (hne : a ≠ b) (ha : a.size ≤ 40) (hb : b.size ≤ 40) (hx : okVal x = true) (hy : okVal y = true) (h1 : 0 ≤ putAt t a) (h2 : 0 ≤ putAt t b) (h3 : 0 ≤ putAt (put t a x) b) :
    0 ≤ putAt (put t b y) a ∧ ∀ i, i < t.length → U (put (put t a x) b y) i = U (put (put t b y) a x) i := by
  obtain ⟨p, p1, f⟩ := put_facts h h1
  obtain ⟨q, q1, g⟩ := put_facts h h2
  have ok1 := f.ok (v := x) h ha hx
  have ok2 := g.ok (v := y) h hb hy
  rw [put_eq p1] at h3 ⊢
  rw [put_eq q1]
  obtain ⟨r, r1, k⟩ := put_facts ok1 h3
  rw [put_eq r1]
  have fin : ∀ s : Nat, PF (t.set q ⟨true, b, y⟩) a s → (∀ i, i < t.length → ((i = p ∨ i = r) ∨ U t i = true ↔ (i = q ∨ i = s) ∨ U t i = true)) → 0 ≤ putAt (t.set q ⟨true, b, y⟩) a ∧ ∀ i, i < t.length → U ((t.set p ⟨true, a, x⟩).set r ⟨true, b, y⟩) i = U (put (t.set q ⟨true, b, y⟩) a x) i := fun s k2 hiff => by
    have s1 := k2.at_ ok2
    refine ⟨by omega, fun i hi => ?_⟩
    rw [put_eq s1, U_set (by rw [len_set]; exact hi), U_set hi, U_set (by rw [len_set]; exact hi), U_set hi]
    rw [Bool.eq_iff_iff, ite3, ite3]
    exact hiff i hi
  by_cases hpq : p = q
  · subst hpq
    obtain ⟨k2, _, _⟩ := PF.near (y := y) f g h hne k
    exact fin r k2 (fun i _ => Iff.rfl)
  · have k2 := f.far (y := y) g h hne hpq
    have k3 := g.far (y := x) f h (Ne.symm hne) (Ne.symm hpq)
    have e : r = q := by have := k3.at_ ok1; omega
    subst e
    exact fin p k2 (fun i _ => by constructor <;> (rintro ((c | c) | c) <;> simp [c]))
theorem putErr_ok {v : Int} (h : putErr t key v = 0) : Ok t ∧ key.size ≤ 40 ∧ okVal v = true ∧ 0 ≤ putAt t key ∧ putR t key v = put t key v := by
  have e := h
  unfold putErr at h
  split at h
  · rename_i h1; exact absurd h h1
  · rename_i h1
    split at h
    · cases h
    · rename_i h2
      split at h
      · cases h
      · refine ⟨check_ok.1 (by simpa using h1), by omega, ?_, by omega, if_pos e⟩
        rcases Bool.eq_false_or_eq_true (okVal v) with c | c
        · exact c
        · exact absurd (.inr c) h2
theorem putErr_of {v : Int} (h : Ok t) (hk : key.size ≤ 40) (hv : okVal v = true) : putErr t key v = if putAt t key < 0 then 8 else 0 := by
  unfold putErr; rw [if_neg (by simp [check_ok.2 h]), if_neg (rg_no ⟨by omega, hv⟩)]
structure OL (t : List DSlot) (a b : ByteArray) (x y : Int) : Prop where
  bad : ¬ putErr (putR t a x) b y = 0 ∨ ¬ putErr (putR t b y) a x = 0 → ((putErr (putR t a x) b y == putErr (putR t b y) a x) && (putErr (putR t a x) b y == 8)) = true
  good : putErr (putR t a x) b y = 0 → putErr (putR t b y) a x = 0 → (putR (putR t b y) a x).length = (putR (putR t a x) b y).length ∧ ∀ i, i < (putR (putR t a x) b y).length → ((putR (putR t a x) b y).getD i default).used = ((putR (putR t b y) a x).getD i default).used
theorem order_law (h1 : putErr t a x = 0) (h2 : putErr t b y = 0) (hne : ¬ a = b) : OL t a b x y := by
  obtain ⟨ho, ka, vx, pa, ea⟩ := putErr_ok h1
  obtain ⟨_, kb, vy, pb, eb⟩ := putErr_ok h2
  obtain ⟨p, p1, f⟩ := put_facts ho pa
  obtain ⟨q, q1, g⟩ := put_facts ho pb
  have ok1 : Ok (put t a x) := by rw [put_eq p1]; exact f.ok ho ka vx
  have ok2 : Ok (put t b y) := by rw [put_eq q1]; exact g.ok ho kb vy
  rw [show OL t a b x y = OL t a b x y from rfl]
  have z1 := putErr_of ok1 kb vy
  have z2 := putErr_of ok2 ka vx
  constructor
  · rw [ea, eb, z1, z2]
    intro hz
    have hA : ∀ hh : 0 ≤ putAt (put t a x) b, 0 ≤ putAt (put t b y) a := fun hh => (two_puts ho hne ka kb vx vy pa pb hh).1
    have hB : ∀ hh : 0 ≤ putAt (put t b y) a, 0 ≤ putAt (put t a x) b := fun hh => (two_puts ho (Ne.symm hne) kb ka vy vx pb pa hh).1
    by_cases c : putAt (put t a x) b < 0
    · have c2 : putAt (put t b y) a < 0 := by
        rcases Int.lt_or_le (putAt (put t b y) a) 0 with d | d
        · exact d
        · have := hB d; omega
      rw [if_pos c, if_pos c2]; decide
    · have c2 := hA (by omega)
      rw [if_neg c, if_neg (by omega)] at hz
      simp at hz
  · rw [ea, eb]
    intro e1 e2
    have w1 := putErr_ok e1
    have w2 := putErr_ok e2
    rw [w1.2.2.2.2, w2.2.2.2.2]
    have := two_puts ho hne ka kb vx vy pa pb w1.2.2.2.1
    refine ⟨by simp only [put_len], fun i hi => this.2 i (by simpa only [put_len] using hi)⟩
/-! ### a key put and deleted -/
theorem tm {n u v : Int} (hu : 0 ≤ u ∧ u < n) (hv : 0 ≤ v ∧ v < n) : (v - u + n).tmod n = if u ≤ v then v - u else v - u + n := by
  rw [Int.tmod_eq_emod_of_nonneg (by omega)]
  split
  · rw [Int.add_emod_right]; exact Int.emod_eq_of_lt (by omega) (by omega)
  · exact Int.emod_eq_of_lt (by omega) (by omega)
theorem P_dist {n : Nat} (hn : 1 ≤ n ∧ n ≤ 64) (key : ByteArray) {s : Nat} (hs : s < n) : P n key (((s : Int) - home key (n : Int) + (n : Int)).tmod (n : Int)).toNat = s ∧ (((s : Int) - home key (n : Int) + (n : Int)).tmod (n : Int)).toNat < n := by
  have hh := home_bd key (n := (n : Int)) (by omega)
  rw [tm hh (by omega), P_eq hn]
  split
  · exact ⟨by rw [show (home key (n : Int)).toNat + ((s : Int) - home key (n : Int)).toNat = s by omega]; exact Nat.mod_eq_of_lt hs, by omega⟩
  · refine ⟨?_, by omega⟩
    rw [show (home key (n : Int)).toNat + ((s : Int) - home key (n : Int) + (n : Int)).toNat = s + n by omega, Nat.add_mod_right]; exact Nat.mod_eq_of_lt hs
theorem stay (h : Ok t) (hp : p < t.length) (up : U t p = false) : ∀ f k, dropGo (t.length : Int) (p : Int) f k t (p : Int) = t
  | 0, _ => rfl
  | f + 1, k => by
    have hn := h.len
    have hb := place_bd (h := (p : Int)) (n := (t.length : Int)) (by omega) (Int.natCast_nonneg p) k
    rw [dropGo]
    obtain ⟨s, hs⟩ : ∃ s : Nat, place (p : Int) (t.length : Int) k = (s : Int) := ⟨_, (Int.toNat_of_nonneg hb.1).symm⟩
    rw [hs] at hb ⊢
    by_cases c : (s : Int) = (p : Int)
    · rw [if_pos c]; exact stay h hp up f (k + 1)
    · rw [if_neg c, Int.toNat_natCast]
      by_cases u : (t.getD s default).used = false
      · rw [if_pos u]
      · have hsl : s < t.length := by omega
        have us : U t s = true := by unfold U; simpa using u
        obtain ⟨m, m1, m2, m3⟩ := h.reach s hsl us
        have hh := home_bd (K t s) (n := (t.length : Int)) (by omega)
        obtain ⟨d1, d2⟩ := P_dist hn (K t s) hsl
        obtain ⟨d3, d4⟩ := P_dist hn (K t s) hp
        have em := P_inj hn m1 d2 (m2.trans d1.symm)
        have hlt : ¬ (((p : Int) - home (K t s) (t.length : Int) + (t.length : Int)).tmod (t.length : Int)).toNat < m := fun q => by
          have := m3 _ q; rw [d3, up] at this; cases this
        clear m2 d1 d3
        rw [if_neg u, if_neg]
        · exact stay h hp up f (k + 1)
        · rw [em] at hlt
          rw [tm hh (by omega), tm hh (by omega)] at hlt
          rw [tm (by omega) hb, show (t.getD s default).key = K t s from rfl, tm hh hb]
          generalize home (K t s) (t.length : Int) = hm at *
          split at hlt <;> split at hlt <;> (try split) <;> (try split) <;> omega
theorem undo_law (h1 : putErr t a x = 0) (h2 : keyErr t a = 5) : keyErr (putR t a x) a = 0 ∧ delR (putR t a x) a = t := by
  obtain ⟨ho, ka, vx, pa, ea⟩ := putErr_ok h1
  obtain ⟨p, p1, f⟩ := put_facts ho pa
  have hc : ¬ ∃ v, C t a v := by
    rintro ⟨v, hv⟩
    have := (get_yes ho ka hv).1; rw [h2] at this; cases this
  have up : U t p = false := by
    rcases Bool.eq_false_or_eq_true (U t p) with c | c
    · exact absurd (f.old c) (absent_of hc p f.lt c)
    · exact c
  have ok1 := f.ok (v := x) ho ka vx
  have hl : (t.set p (⟨true, a, x⟩ : DSlot)).length = t.length := len_set _ _ _
  obtain ⟨m, m1, m2, m3, _⟩ := ok1.at_ (key := a) (i := p) (by rw [hl]; exact f.lt) (by rw [U_set f.lt, if_pos rfl]) (by rw [K_set f.lt, if_pos rfl])
  rw [ea, put_eq p1]
  have hk : keyErr (t.set p ⟨true, a, x⟩) a = 0 := (get_yes ok1 ka ((f.c (v := x) a x).2 (by rw [if_pos rfl]))).1
  refine ⟨hk, ?_⟩
  rw [show delR (t.set p ⟨true, a, x⟩) a = drop (t.set p ⟨true, a, x⟩) a from if_pos hk]
  unfold drop
  rw [m3, hl]
  show dropGo (t.length : Int) (p : Int) t.length 0 ((t.set p ⟨true, a, x⟩).set (p : Int).toNat none_) (p : Int) = t
  rw [Int.toNat_natCast, List.set_set]
  have e0 : t[p]'f.lt = none_ := by
    have h9 := ho.one p f.lt
    have h8 : (t.getD p default).used = false := up
    rw [getd_eq f.lt] at h9 h8
    unfold Tab.one at h9
    split at h9
    · cases h9
    · rename_i h7
      exact Classical.byContradiction fun q => h7 ⟨h8, q⟩
  rw [show t.set p none_ = t by rw [← e0]; exact List.set_getElem_self f.lt]
  exact stay ho f.lt up _ _
end
end Go.Sx.Tab
