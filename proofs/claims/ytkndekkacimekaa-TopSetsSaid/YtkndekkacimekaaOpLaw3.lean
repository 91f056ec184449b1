/- The optimal policy and the others: nobody has fewer misses; LRU is not much worse with more room. -/
import Derived.Test.YtkndekkacimekaaOpLaw2
import Derived.Test.YtkndekkacimekaaLrLaw2
namespace Go.Sx.Opt
open Belady (Run)
theorem go_n {l : List Int} {room : Int} (h : evErr l room = 0) : 0 ≤ (ev l room).2 ∧ (ev l room).2 ≤ l.length ∧ Belady.Opt room.toNat [] l (ev l room).2.toNat ∧ (1 ≤ room ∧ room ≤ 40) ∧ l.length ≤ 200 := by
  obtain ⟨h1, h2, h3⟩ := ev_ok h
  have hr := Lru.room_ok h2
  have g := GInv.all (l := l) hr.1 l.length (Nat.le_refl _)
  rw [h3]
  exact ⟨g.n0, g.n1, go_opt hr.1, hr, (Lru.trace_ok.1 h1).1⟩
/-- nobody has fewer -/
theorem least {l : List Int} {room : Int} {n : Nat} (h : evErr l room = 0) (hr : Run room.toNat [] l n) : (ev l room).2 ≤ n := by
  obtain ⟨h1, _, h3, _⟩ := go_n h
  have := Belady.belady h3 hr; omega
/-- more room, no more misses -/
theorem more {l : List Int} {a b : Int} (h : evErr l a = 0) (h2 : evErr l b = 0) (hab : a ≤ b) : (ev l b).2 ≤ (ev l a).2 := by
  obtain ⟨h3, _, h5, _⟩ := go_n h
  have hr := (h5.run List.nodup_nil (Nat.zero_le _)).mono (room' := b.toNat) (by omega)
  have := least h2 hr; omega
/-! ### LRU as a run -/
theorem lru_run {l : List Int} : ∀ {c : DCache} {n : Int}, Lru.Ok c → (∀ x ∈ l, Lru.okKey x = true) → ∃ m : Nat, Run c.room.toNat c.keys l m ∧ (Lru.runGo c n l).2 + m = n + l.length := by
  induction l with
  | nil => intro c n _ _; exact ⟨0, .nil _, by simp [Lru.runGo]⟩
  | cons k l ih =>
    intro c n h hk
    have h2 := h.touch (hk k (by simp))
    have hr := h2.room; have hl := h2.len
    have e : (Lru.touch c k).1.room = c.room := rfl
    have hp := h.pos
    have hin : k ∈ (Lru.touch c k).1.keys := by
      show k ∈ Lru.front c.room.toNat c.keys k
      unfold Lru.front
      obtain ⟨r, hr⟩ : ∃ r, c.room.toNat = r + 1 := ⟨c.room.toNat - 1, by omega⟩
      rw [hr, List.take_succ_cons]; simp
    have hsub : ∀ x ∈ (Lru.touch c k).1.keys, x = k ∨ x ∈ c.keys := fun x hx => Lru.mem_front hx
    by_cases hm : k ∈ c.keys
    · obtain ⟨m, h3, h4⟩ := ih (c := (Lru.touch c k).1) (n := n + 1) h2 (fun x hx => hk x (by simp [hx]))
      refine ⟨m, .hit hm h2.once (by rw [e] at hl; omega) hin (fun x hx => (hsub x hx).elim (fun e => e ▸ hm) id) (by rw [e] at h3; exact h3), ?_⟩
      rw [Lru.runGo, show (Lru.touch c k).2.1 = true from decide_eq_true hm]; simp only [if_true, List.length_cons]; omega
    · obtain ⟨m, h3, h4⟩ := ih (c := (Lru.touch c k).1) (n := n) h2 (fun x hx => hk x (by simp [hx]))
      refine ⟨m + 1, .miss hm h2.once (by rw [e] at hl; omega) hin hsub (by rw [e] at h3; exact h3), ?_⟩
      rw [Lru.runGo, show (Lru.touch c k).2.1 = false from decide_eq_false hm]; simp only [Bool.false_eq_true, if_false, List.length_cons]; omega
theorem lru_zero {room : Int} {l : List Int} (h : Lru.runErr ⟨room, []⟩ l = 0) : ∃ m : Nat, Run room.toNat [] l m ∧ (Lru.run ⟨room, []⟩ l).2 + m = l.length := by
  obtain ⟨a1, a2, a3⟩ := Lru.run_ok h
  obtain ⟨m, h3, h4⟩ := lru_run (n := 0) (Lru.ok_of a1) (Lru.trace_ok.1 a2).2
  exact ⟨m, h3, by rw [a3]; omega⟩
theorem beats_lru {room : Int} {l : List Int} (h : evErr l room = 0) (h2 : Lru.runErr ⟨room, []⟩ l = 0) : (ev l room).2 ≤ (l.length : Int) - (Lru.run ⟨room, []⟩ l).2 := by
  obtain ⟨m, h3, h4⟩ := lru_zero h2
  have := least h h3; omega
/-! ### LRU with more room than the optimal policy (Sleator, Tarjan) -/
/-- what LRU has and the other one has not, weighed by how lately it was used -/
def pot (D : List Int) : Int → List Int → Int
  | _, [] => 0
  | w, x :: c => (if x ∈ D then 0 else w) + pot D (w - 1) c
def out (D c : List Int) : Int := ((c.filter fun x => decide (x ∉ D)).length : Int)
theorem out_cons (D : List Int) (x : Int) (c : List Int) : out D (x :: c) = (if x ∈ D then 0 else 1) + out D c := by
  unfold out; rw [List.filter_cons]
  by_cases h : x ∈ D
  · simp [h]
  · simp [h]; omega
theorem pot_nonneg (D : List Int) : ∀ (c : List Int) (w : Int), (c.length : Int) ≤ w → 0 ≤ pot D w c
  | [], w, _ => Int.le_refl _
  | x :: c, w, h => by
    simp only [List.length_cons] at h
    have := pot_nonneg D c (w - 1) (by omega)
    rw [pot]; split <;> omega
theorem pot_less (D : List Int) : ∀ (c : List Int) (w : Int), pot D (w - 1) c = pot D w c - out D c
  | [], w => by simp [pot, out]
  | x :: c, w => by
    rw [pot, pot, pot_less D c (w - 1), out_cons]; split <;> omega
theorem out_nonneg (D c : List Int) : 0 ≤ out D c := by unfold out; omega
/-- the other one gets a key, and loses one at most -/
theorem pot_evict {D D' : List Int} {f k : Int} (h : ∀ x, x ∈ D' ↔ x = k ∨ x ∈ D ∧ x ≠ f) : ∀ (c : List Int) (w : Int), c.Nodup → (c.length : Int) ≤ w → pot D' w c ≤ pot D w c + (if f ∈ c then w else 0)
  | [], w, _, _ => by simp [pot]
  | x :: c, w, hn, hl => by
    simp only [List.length_cons] at hl
    obtain ⟨h1, h2⟩ := List.nodup_cons.1 hn
    have ih := pot_evict h c (w - 1) h2 (by omega)
    rw [pot, pot]
    by_cases e : x = f
    · subst e
      rw [if_neg h1] at ih
      rw [if_pos (by simp : x ∈ x :: c)]
      split <;> split <;> omega
    · have hx : x ∈ D → x ∈ D' := fun hx => (h x).2 (.inr ⟨hx, e⟩)
      have hf : (f ∈ x :: c) ↔ f ∈ c := by rw [List.mem_cons]; exact ⟨fun h => h.resolve_left (fun h => e h.symm), .inr⟩
      by_cases hfc : f ∈ c
      · rw [if_pos (hf.2 hfc)]; rw [if_pos hfc] at ih
        split <;> split <;> first | omega | (rename_i a b; exact absurd (hx b) a)
      · rw [if_neg (fun h => hfc (hf.1 h))]; rw [if_neg hfc] at ih
        split <;> split <;> first | omega | (rename_i a b; exact absurd (hx b) a)
theorem pot_sub {D D' : List Int} (h : ∀ x ∈ D, x ∈ D') : ∀ (c : List Int) (w : Int), (c.length : Int) ≤ w → pot D' w c ≤ pot D w c
  | [], w, _ => Int.le_refl _
  | x :: c, w, hl => by
    simp only [List.length_cons] at hl
    have := pot_sub h c (w - 1) (by omega)
    rw [pot, pot]; split <;> split <;> first | omega | (rename_i a b; exact absurd (h x b) a)
theorem pot_erase {D : List Int} {k : Int} (hk : k ∈ D) : ∀ (c : List Int) (w : Int), k ∈ c → (c.length : Int) ≤ w → pot D (w - 1) (c.erase k) ≤ pot D w c
  | [], w, h, _ => by cases h
  | x :: c, w, h, hl => by
    simp only [List.length_cons] at hl
    by_cases e : x = k
    · subst e; simp [pot, hk]
    · rw [List.erase_cons, if_neg (by simpa using e), pot, pot]
      have hk2 : k ∈ c := by rcases List.mem_cons.1 h with h | h; exact absurd h.symm e; exact h
      have := pot_erase hk c (w - 1) hk2 (by omega)
      split <;> omega
theorem pot_take (D : List Int) : ∀ (c : List Int) (n : Nat) (w : Int), (c.length : Int) ≤ w → pot D w (c.take n) ≤ pot D w c
  | [], n, w, _ => by simp
  | x :: c, 0, w, h => by simp only [List.take_zero]; exact pot_nonneg D (x :: c) w h
  | x :: c, n + 1, w, h => by
    simp only [List.length_cons] at h
    rw [List.take_succ_cons, pot, pot]; have := pot_take D c n (w - 1) (by omega); omega
theorem pot_drop1 (D : List Int) : ∀ (c : List Int) (w : Int), (c.length : Int) = w → pot D (w - 1) (c.take (c.length - 1)) = pot D (w - 1) c
  | [], w, _ => by simp [pot]
  | [x], w, h => by simp at h; subst h; simp [pot]
  | x :: y :: c, w, h => by
    have e : (x :: y :: c).length - 1 = ((y :: c).length - 1) + 1 := by simp
    rw [e, List.take_succ_cons, pot, pot, pot_drop1 D (y :: c) (w - 1) (by simp at h ⊢; omega)]
theorem out_ge {D c : List Int} {k : Int} (hn : c.Nodup) (hD : D.Nodup) (hk : k ∈ D) (hkc : k ∉ c) : (c.length : Int) - (D.length - 1) ≤ out D c := by
  have h1 : (c.filter fun x => decide (x ∈ D)).length + 1 ≤ D.length := by
    have := Belady.nodup_le (l := k :: c.filter fun x => decide (x ∈ D)) (m := D) (List.nodup_cons.2 ⟨fun h => hkc (List.mem_filter.1 h).1, hn.filter _⟩) (fun x hx => by
      rcases List.mem_cons.1 hx with rfl | hx
      · exact hk
      · simpa using (List.mem_filter.1 hx).2)
    simpa using this
  have h2 : (c.filter fun x => decide (x ∈ D)).length + (c.filter fun x => decide (x ∉ D)).length = c.length := by
    clear h1 hn hkc
    induction c with
    | nil => rfl
    | cons x c ih =>
      rw [List.filter_cons, List.filter_cons, List.length_cons]
      by_cases h : x ∈ D
      · simp [h]; simp at ih; omega
      · simp [h]; simp at ih; omega
  unfold out; omega
/-- how many misses LRU has -/
def lmiss (k : Nat) : List Int → List Int → Int
  | _, [] => 0
  | c, x :: t => (if x ∈ c then 0 else 1) + lmiss k (Lru.front k c x) t
theorem lmiss_run {l : List Int} : ∀ {c : DCache} {n : Int}, (Lru.runGo c n l).2 = n + l.length - lmiss c.room.toNat c.keys l := by
  induction l with
  | nil => intro c n; simp [Lru.runGo, lmiss]
  | cons k l ih =>
    intro c n
    rw [Lru.runGo, ih, lmiss]
    have e : (Lru.touch c k).1.keys = Lru.front c.room.toNat c.keys k := rfl
    have e2 : (Lru.touch c k).1.room = c.room := rfl
    rw [e, e2]
    simp only [List.length_cons]
    by_cases hm : k ∈ c.keys
    · rw [show (Lru.touch c k).2.1 = true from decide_eq_true hm, if_pos hm]; simp only [if_true]; omega
    · rw [show (Lru.touch c k).2.1 = false from decide_eq_false hm, if_neg hm]; simp only [Bool.false_eq_true, if_false]; omega
/-- one access of LRU, when the other one has the key -/
theorem lru_step {D c : List Int} {k : Nat} {h d x : Int} (h0 : 1 ≤ k) (hd : d = (k : Int) - h + 1) (hd0 : 0 ≤ d) (hn : c.Nodup) (hl : c.length ≤ k) (hD : D.Nodup) (hDl : (D.length : Int) ≤ h) (hx : x ∈ D) :
    d * (if x ∈ c then 0 else 1) + pot D k (Lru.front k c x) + d * ((k : Int) - (Lru.front k c x).length) ≤ pot D k c + d * ((k : Int) - c.length) := by
  by_cases hm : x ∈ c
  · have hf := Lru.front_hit hm hl
    have h1 := List.length_erase_of_mem hm
    have h2 := List.length_pos_of_mem hm
    have e : (x :: c.erase x).length = c.length := by simp only [List.length_cons]; omega
    rw [hf, if_pos hm, e, pot, if_pos hx]
    have := pot_erase hx c k hm (by omega)
    omega
  · rw [if_neg hm]
    by_cases hf : c.length < k
    · rw [Lru.front_add hm hf, pot, if_pos hx, pot_less]
      have := out_nonneg D c
      simp only [List.length_cons]
      have e : d * ((k : Int) - ((c.length + 1 : Nat) : Int)) = d * ((k : Int) - c.length) - d := by
        rw [show ((k : Int) - ((c.length + 1 : Nat) : Int)) = ((k : Int) - c.length) - 1 by omega, Int.mul_sub, Int.mul_one]
      rw [e]; omega
    · have hk : c.length = k := by omega
      rw [Lru.front_full hm (by omega), pot, if_pos hx]
      have h1 : pot D ((k : Int) - 1) (c.take (k - 1)) = pot D ((k : Int) - 1) c := by
        have := pot_drop1 D c k (by omega); rw [hk] at this; exact this
      rw [h1, pot_less]
      have h2 := out_ge hn hD hx hm
      have e : (x :: c.take (k - 1)).length = c.length := by simp only [List.length_cons, List.length_take]; omega
      rw [e]; omega
theorem compete {k : Nat} {h d : Int} (h0 : 1 ≤ k) (hd : d = (k : Int) - h + 1) (hd0 : 0 ≤ d) (hh : 0 ≤ h) : ∀ {t D : List Int} {n : Nat}, Belady.Opt h.toNat D t n → D.Nodup → (D.length : Int) ≤ h → ∀ c : List Int, c.Nodup → c.length ≤ k → d * lmiss k c t ≤ (k : Int) * n + pot D k c + d * ((k : Int) - c.length) := by
  intro t D n ho
  induction ho with
  | nil D =>
    intro _ _ c _ hl
    have h1 := pot_nonneg D c k (by omega)
    have h2 : 0 ≤ d * ((k : Int) - c.length) := Int.mul_nonneg hd0 (by omega)
    simp only [lmiss]; omega
  | @hit D D' x t n a b e _ ih =>
    intro hD hDl c hn hl
    have hDl' : (D'.length : Int) ≤ h := by rw [Belady.len_eq hD b e]; exact hDl
    have hfn := Lru.front_nodup (room := k) x hn
    have hfl := Lru.front_len k c x
    have h1 := ih b hDl' _ hfn hfl
    have h2 := lru_step (D := D') h0 hd hd0 hn hl b hDl' ((e x).2 a)
    have h3 := pot_sub (D := D) (D' := D') (fun y hy => (e y).2 hy) c k (by omega)
    rw [lmiss, Int.mul_add]; omega
  | @add D D' x t n a g b e _ ih =>
    intro hD hDl c hn hl
    have hDl' : (D'.length : Int) ≤ h := by have := Belady.len_add hD b a e; omega
    have hfn := Lru.front_nodup (room := k) x hn
    have hfl := Lru.front_len k c x
    have h1 := ih b hDl' _ hfn hfl
    have h2 := lru_step (D := D') h0 hd hd0 hn hl b hDl' ((e x).2 (.inl rfl))
    have h3 := pot_sub (D := D) (D' := D') (fun y hy => (e y).2 (.inr hy)) c k (by omega)
    have e2 : (k : Int) * ((n + 1 : Nat) : Int) = (k : Int) * n + k := by rw [show ((n + 1 : Nat) : Int) = (n : Int) + 1 by omega, Int.mul_add, Int.mul_one]
    rw [lmiss, Int.mul_add, e2]; omega
  | @evict D D' x f t n a g fa _ b e _ ih =>
    intro hD hDl c hn hl
    have hDl' : (D'.length : Int) ≤ h := by rw [Belady.len_evict hD b a fa e]; exact hDl
    have hfn := Lru.front_nodup (room := k) x hn
    have hfl := Lru.front_len k c x
    have h1 := ih b hDl' _ hfn hfl
    have h2 := lru_step (D := D') h0 hd hd0 hn hl b hDl' ((e x).2 (.inl rfl))
    have h3 := pot_evict (D := D) (D' := D') (f := f) (k := x) e c k hn (by omega)
    have h4 : (if f ∈ c then (k : Int) else 0) ≤ k := by split <;> omega
    have e2 : (k : Int) * ((n + 1 : Nat) : Int) = (k : Int) * n + k := by rw [show ((n + 1 : Nat) : Int) = (n : Int) + 1 by omega, Int.mul_add, Int.mul_one]
    rw [lmiss, Int.mul_add, e2]; omega
theorem bound_ok {misses room least : Int} (h : boundErr misses room least = 0) : (0 ≤ misses ∧ misses ≤ 200) ∧ (1 ≤ room ∧ room ≤ 40) ∧ (1 ≤ least ∧ least ≤ room) ∧ bound misses room least = (room * misses).tdiv (room - least + 1) + room := by
  unfold boundErr at h
  split at h
  · cases h
  · rename_i h1
    split at h
    · cases h
    · rename_i h2
      have h3 : Lru.okRoom room = true := by cases e : Lru.okRoom room; exact absurd (.inl (.inr e)) h1; rfl
      have h4 : Lru.okRoom least = true := by cases e : Lru.okRoom least; exact absurd (.inr e) h1; rfl
      have h5 := Lru.room_ok h3; have h6 := Lru.room_ok h4
      have e : boundErr misses room least = 0 := by unfold boundErr; rw [if_neg h1, if_neg h2]
      exact ⟨by omega, h5, ⟨h6.1, by omega⟩, by unfold bound; rw [if_pos e]⟩
theorem room_law {l : List Int} {room least : Int} (h : evErr l least = 0) (h2 : evErr l room = 0) (h3 : Lru.runErr ⟨room, []⟩ l = 0) (h4 : boundErr (ev l least).2 room least = 0) :
    (l.length : Int) - (Lru.run ⟨room, []⟩ l).2 ≤ bound (ev l least).2 room least ∧ (ev l room).2 ≤ (ev l least).2 ∧ 0 ≤ (Lru.run ⟨room, []⟩ l).2 ∧ (Lru.run ⟨room, []⟩ l).2 ≤ l.length ∧ l.length ≤ 200 := by
  obtain ⟨b1, b2, b3, b4⟩ := bound_ok h4
  obtain ⟨g1, g2, g3, g4, g5⟩ := go_n h
  obtain ⟨a1, a2, a3⟩ := Lru.run_ok h3
  obtain ⟨m, _, hm⟩ := lru_zero h3
  have hc := compete (k := room.toNat) (h := least) (d := room - least + 1) (by omega) (by omega) (by omega) (by omega) g3 List.nodup_nil (by simp; omega) [] List.nodup_nil (Nat.zero_le _)
  have hlm : (Lru.run ⟨room, []⟩ l).2 = (l.length : Int) - lmiss room.toNat [] l := by
    rw [a3]; have := lmiss_run (l := l) (c := ⟨room, []⟩) (n := 0); rw [this]; simp
  have h0 := (Lru.run_n l ⟨room, []⟩)
  rw [← a3] at h0
  refine ⟨?_, more h h2 b3.2, h0.1, h0.2, g5⟩
  rw [b4, hlm]
  have e1 : ((room.toNat : Nat) : Int) = room := by omega
  have e2 : (((ev l least).2.toNat : Nat) : Int) = (ev l least).2 := by omega
  simp only [e1, e2, pot, List.length_nil] at hc
  have hd : 0 < room - least + 1 := by omega
  have h8 : (lmiss room.toNat [] l - room) * (room - least + 1) ≤ room * (ev l least).2 := by
    rw [Int.sub_mul, Int.mul_comm (lmiss room.toNat [] l), Int.mul_comm room (room - least + 1)]
    have : (room - least + 1) * (room - ((0 : Nat) : Int)) = (room - least + 1) * room := by rw [show room - ((0 : Nat) : Int) = room by omega]
    rw [this] at hc; omega
  have h9 := Int.le_ediv_of_mul_le hd h8
  rw [Int.tdiv_eq_ediv_of_nonneg (Int.mul_nonneg (by omega) g1)]
  omega
end Go.Sx.Opt
