/- The clock algorithm: first in, first out. -/
import Derived.Test.YthbfdhphnofacabCkLaw2
namespace Go.Sx.Clock
/-- What is so after the keys p, none of which was a hit. -/
structure FI (room : Nat) (p : List Int) (c : DClock) : Prop where
  room_ : c.room = room
  len : c.frames.length = min p.length room
  clean : ∀ f ∈ c.frames, f.used = false
  hand : c.hand = if p.length < room then 0 else ((p.length % room : Nat) : Int)
  keys : ∀ j (hj : j < p.length), p.length ≤ j + room → ∃ h : j % room < c.frames.length, c.frames[j % room].key = p[j]
theorem FI.start (room : Nat) (h : 1 ≤ room) : FI room [] ⟨room, 0, []⟩ := ⟨rfl, by simp, by simp, by simp, fun j hj => by simp at hj⟩
theorem mod_ne {j n room : Nat} (h1 : j < n) (h2 : n < j + room) : j % room ≠ n % room := fun e => by
  have h3 : (n - j) % room = 0 := Nat.sub_mod_eq_zero_of_mod_eq e.symm
  have h4 := Nat.le_of_dvd (by omega) (Nat.dvd_of_mod_eq_zero h3)
  omega
theorem FI.next {room : Nat} {p : List Int} {c : DClock} {key : Int} (hr : 1 ≤ room) (h : FI room p c) (hm : (touch c key).2.1 = false) : FI room (p ++ [key]) (touch c key).1 := by
  obtain ⟨g1, g2, g3, g4, g5⟩ := h
  by_cases h1 : 0 ≤ at_ c.frames key
  · rw [touch_hit h1] at hm; cases hm
  · by_cases h2 : (c.frames.length : Int) < c.room
    · have hlt : p.length < room := by omega
      have hl : c.frames.length = p.length := by omega
      rw [touch_room (by omega) h2]
      refine ⟨g1, by simp only [List.length_append, List.length_singleton]; omega, ?_, ?_, ?_⟩
      · intro f hf
        rcases List.mem_append.1 hf with h | h
        · exact g3 f h
        · rw [List.mem_singleton.1 h]
      · simp only [List.length_append, List.length_singleton]
        rw [g4, if_pos hlt]
        split
        · rfl
        · rw [show p.length + 1 = room by omega]; simp
      · intro j hj hjr
        simp only [List.length_append, List.length_singleton] at hj hjr ⊢
        have hjm : j % room = j := Nat.mod_eq_of_lt (by omega)
        refine ⟨by rw [hjm]; omega, ?_⟩
        by_cases e : j < p.length
        · obtain ⟨q1, q2⟩ := g5 j e (by omega)
          rw [List.getElem_append_left q1, List.getElem_append_left e]; exact q2
        · obtain rfl : j = p.length := by omega
          rw [List.getElem_append_right (by omega), List.getElem_append_right (by omega)]
          simp
    · have hge : room ≤ p.length := by omega
      have hl : c.frames.length = room := by omega
      have hh : c.hand = ((p.length % room : Nat) : Int) := by rw [g4, if_neg (by omega)]
      have hhn : c.hand.toNat = p.length % room := by omega
      have hlt : p.length % room < c.frames.length := by rw [hl]; exact Nat.mod_lt _ (by omega)
      have hu := g3 _ (List.getElem_mem hlt)
      have ht : touch c key = (⟨c.room, ((p.length % room + 1) % c.frames.length : Nat), c.frames.set (p.length % room) ⟨key, false⟩⟩, false, c.frames[p.length % room].key) := by
        unfold touch
        rw [if_neg (by unfold at_ at h1; omega), if_neg (by omega), hhn, spin_stop hlt hu]
        simp [List.getD, hlt]
      rw [ht]
      refine ⟨g1, by simp only [List.length_set, List.length_append, List.length_singleton]; omega, ?_, ?_, ?_⟩
      · intro f hf
        rcases List.mem_or_eq_of_mem_set hf with h | h
        · exact g3 f h
        · rw [h]
      · simp only [List.length_append, List.length_singleton]
        rw [if_neg (by omega), hl, Nat.mod_add_mod]
      · intro j hj hjr
        simp only [List.length_append, List.length_singleton] at hj hjr ⊢
        simp only [List.length_set]
        refine ⟨by rw [hl]; exact Nat.mod_lt _ (by omega), ?_⟩
        by_cases e : j < p.length
        · obtain ⟨q1, q2⟩ := g5 j e (by omega)
          rw [List.getElem_append_left e, List.getElem_set_ne (mod_ne e (by omega)).symm]; exact q2
        · obtain rfl : j = p.length := by omega
          rw [List.getElem_append_right (by omega), List.getElem_set_self]
          simp
theorem FI.run {room : Nat} (hr : 1 ≤ room) (l : List Int) : ∀ (p : List Int) (c : DClock), FI room p c → (runGo c 0 l).2 = 0 → FI room (p ++ l) (runGo c 0 l).1 := by
  induction l with
  | nil => intro p c h _; simpa [runGo] using h
  | cons k l ih =>
    intro p c h h0
    have hn := run_n l (touch c k).1
    rw [runGo, runGo_shift] at h0 ⊢
    cases hm : (touch c k).2.1
    · simp only [hm, Bool.false_eq_true, if_false] at h0 ⊢
      have := ih (p ++ [k]) _ (h.next hr hm) (by omega)
      simpa using this
    · simp only [hm, if_true] at h0
      omega
theorem place {b room q : Nat} (hr : 1 ≤ room) (hq : q < room) : ∃ j, b ≤ j ∧ j < b + room ∧ j % room = q := by
  have hb := Nat.div_add_mod b room
  have hm := Nat.mod_lt b (show 0 < room by omega)
  by_cases h : b % room ≤ q
  · refine ⟨room * (b / room) + q, by omega, by omega, ?_⟩
    rw [Nat.mul_add_mod]; exact Nat.mod_eq_of_lt hq
  · refine ⟨room * (b / room + 1) + q, by rw [Nat.mul_add]; omega, by rw [Nat.mul_add]; omega, ?_⟩
    rw [Nat.mul_add_mod]; exact Nat.mod_eq_of_lt hq
theorem fifo {room : Int} {l : List Int} (h : runErr ⟨room, 0, []⟩ l = 0) (h0 : (run ⟨room, 0, []⟩ l).2 ≤ 0) {i : Nat} (hi : i < l.length) (hlast : ∀ j (h : j < l.length), i < j → l[j] ≠ l[i]) :
    ((run ⟨room, 0, []⟩ l).1.frames.any fun f => f.key == l[i]) = decide ((l.length : Int) - room ≤ (i : Int)) := by
  obtain ⟨a1, a2, a3⟩ := run_err h
  have hok := (ok_of a1).room
  simp only at hok
  obtain ⟨r, rfl⟩ : ∃ r : Nat, room = r := ⟨room.toNat, by omega⟩
  have hn := run_n l ⟨(r : Int), 0, []⟩
  rw [a3] at h0 ⊢
  have hf := FI.run (room := r) (by omega) l [] _ (FI.start r (by omega)) (by omega)
  rw [List.nil_append] at hf
  obtain ⟨g1, g2, g3, g4, g5⟩ := hf
  rw [Bool.eq_iff_iff, List.any_eq_true, decide_eq_true_eq]
  constructor
  · rintro ⟨f, hfm, hk⟩
    obtain ⟨q, hq, rfl⟩ := List.getElem_of_mem hfm
    have hk' := beq_iff_eq.1 hk
    by_cases hnr : l.length ≤ r
    · omega
    · obtain ⟨j, j1, j2, j3⟩ := place (b := l.length - r) (room := r) (q := q) (by omega) (by omega)
      obtain ⟨q1, q2⟩ := g5 j (by omega) (by omega)
      simp only [j3] at q2
      rw [hk'] at q2
      by_cases hij : i < j
      · exact absurd q2.symm (hlast j (by omega) hij)
      · omega
  · intro hge
    obtain ⟨q1, q2⟩ := g5 i hi (by omega)
    exact ⟨_, List.getElem_mem q1, by rw [q2]; simp⟩
theorem run_len {c : DClock} {l : List Int} (h : runErr c l = 0) : ((run c l).1.frames.length : Int) ≤ 40 := by
  obtain ⟨a1, a2, a3⟩ := run_err h
  have ho := ok_of (check_run l c 0 a1 (Lru.trace_ok.1 a2).2)
  have h1 := ho.len; have h2 := ho.room
  rw [a3]; omega
structure AInv (x : List DFrame) (key : Int) (in_ : Bool) (k : Nat) : Prop where
  le : k ≤ x.length
  eq : in_ = (x.take k).any fun f => f.key == key
theorem AInv.start (x : List DFrame) (key : Int) : AInv x key false 0 := ⟨Nat.zero_le _, rfl⟩
theorem AInv.next {x : List DFrame} {key : Int} {in_ : Bool} {k : Nat} (h : AInv x key in_ k) (hk : k < x.length) : AInv x key (in_ || x[k].key == key) (k + 1) :=
  ⟨hk, by rw [List.take_succ_eq_append_getElem hk, List.any_append, h.eq]; simp⟩
structure LInv (l : List Int) (i : Nat) (last : Bool) (k : Nat) : Prop where
  lo : i < k
  hi : k ≤ l.length
  eq : last = true → ∀ j (h : j < l.length) (h0 : i < l.length), i < j → j < k → l[j] ≠ l[i]
theorem LInv.start {l : List Int} {i : Nat} (h : i < l.length) : LInv l i true (i + 1) := ⟨by omega, h, fun _ j _ _ h1 h2 => by omega⟩
theorem LInv.next {l : List Int} {i : Nat} {last : Bool} {k : Nat} (h : LInv l i last k) (hk : k < l.length) (hi : i < l.length) : LInv l i (last && l[k] != l[i]) (k + 1) :=
  ⟨by have := h.lo; omega, hk, fun hb j hj h0 h1 h2 => by
    simp only [Bool.and_eq_true, bne_iff_ne] at hb
    by_cases e : j = k
    · subst e; exact hb.2
    · exact h.eq hb.1 j hj h0 h1 (by omega)⟩
theorem fifo_no {room : Int} {l : List Int} {i k k2 : Nat} {in_ last : Bool} (h : runErr ⟨room, 0, []⟩ l = 0) (h0 : (run ⟨room, 0, []⟩ l).2 ≤ 0) (hi : i < l.length) (ha : AInv (run ⟨room, 0, []⟩ l).1.frames l[i] in_ k) (hk : ((run ⟨room, 0, []⟩ l).1.frames.length : Int) ≤ k)
    (hl : LInv l i last k2) (hk2 : (l.length : Int) ≤ k2) (hb : last = true ∧ in_ ≠ decide ((l.length : Int) - room ≤ (i : Int))) : False := by
  have hf := fifo h h0 hi (fun j hj hij => hl.eq hb.1 j hj hi hij (by omega))
  have ea := ha.eq
  rw [List.take_of_length_le (by omega)] at ea
  exact hb.2 (by rw [ea, hf])
end Go.Sx.Clock
