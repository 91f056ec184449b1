/- The optimal policy: what the program's loops keep. -/
import Derived.Test.YtkndekkacimekaaOpLaw
import Derived.Test.YtkndekkacimekaaLrLaw
import Derived.Test.YtkndekkacimekaaExLaw
import Derived.Test.YtkndekkacimekaaSx23
namespace Go.Sx.AL
variable {κ ν : Type} [DecidableEq κ]
theorem set_mem {m : List (κ × ν)} (hn : (m.map (·.1)).Nodup) {k : κ} {v : ν} {p : κ × ν} : p ∈ set m k v ↔ p = (k, v) ∨ (p ∈ m ∧ p.1 ≠ k) := by
  induction m with
  | nil => simp [set]
  | cons q m ih =>
    obtain ⟨a, u⟩ := q
    rw [List.map_cons, List.nodup_cons] at hn
    simp only [set]
    split
    · rename_i e; subst e
      simp only [List.mem_cons]
      constructor
      · rintro (h | h)
        · exact .inl h
        · exact .inr ⟨.inr h, fun e => hn.1 (e ▸ List.mem_map.2 ⟨p, h, rfl⟩)⟩
      · rintro (h | ⟨h | h, h2⟩)
        · exact .inl h
        · rw [h] at h2; exact absurd rfl h2
        · exact .inr h
    · rename_i e
      simp only [List.mem_cons, ih hn.2]
      constructor
      · rintro (h | h | h)
        · exact .inr ⟨.inl h, by rw [h]; exact fun h => e h.symm⟩
        · exact .inl h
        · exact .inr ⟨.inr h.1, h.2⟩
      · rintro (h | ⟨h | h, h2⟩)
        · exact .inr (.inl h)
        · exact .inl h
        · exact .inr (.inr ⟨h, h2⟩)
theorem del_mem {m : List (κ × ν)} (hn : (m.map (·.1)).Nodup) {k : κ} {p : κ × ν} : p ∈ del m k ↔ p ∈ m ∧ p.1 ≠ k := by
  induction m with
  | nil => simp [del]
  | cons q m ih =>
    obtain ⟨a, u⟩ := q
    rw [List.map_cons, List.nodup_cons] at hn
    simp only [del]
    split
    · rename_i e; subst e
      simp only [List.mem_cons]
      constructor
      · intro h; exact ⟨.inr h, fun e => hn.1 (e ▸ List.mem_map.2 ⟨p, h, rfl⟩)⟩
      · rintro ⟨h | h, h2⟩
        · rw [h] at h2; exact absurd rfl h2
        · exact h
    · rename_i e
      simp only [List.mem_cons, ih hn.2]
      constructor
      · rintro (h | h)
        · exact ⟨.inl h, by rw [h]; exact fun h => e h.symm⟩
        · exact ⟨.inr h.1, h.2⟩
      · rintro ⟨h | h, h2⟩
        · exact .inl h
        · exact .inr ⟨h, h2⟩
theorem set_nodup {m : List (κ × ν)} (hn : (m.map (·.1)).Nodup) (k : κ) (v : ν) : ((set m k v).map (·.1)).Nodup := by
  rw [set_keys]; split
  · exact hn
  · rename_i h; rw [List.nodup_append]; exact ⟨hn, by simp, fun x hx y hy e => h (by simp at hy; subst hy; exact e ▸ hx)⟩
theorem del_nodup {m : List (κ × ν)} (hn : (m.map (·.1)).Nodup) (k : κ) : ((del m k).map (·.1)).Nodup := by
  rw [del_keys]; exact hn.erase k
end Go.Sx.AL
namespace Go.Sx.Opt
def nexts (l : List Int) : List Int := (List.range l.length).map fun i => ((ca l (i + 1) (l.getD i 0) : Nat) : Int)
theorem nexts_len (l : List Int) : (nexts l).length = l.length := by simp [nexts]
theorem nexts_at {l : List Int} {i : Nat} (hi : i < l.length) (h : i < (nexts l).length) : (nexts l)[i] = ((ca l (i + 1) l[i] : Nat) : Int) := by
  simp only [nexts, List.getElem_map, List.getElem_range, getD_eq hi]
/-! ### slices.Backward -/
theorem back_vals {l : List Int} {i : Int} {k : Nat} (hi : i = (l.length : Int) - 1 - (k : Int)) (hk : k < l.length) (h : i.toNat < l.length) : ([.int .i64 i, .int .i64 l[i.toNat]] : List Value) = [.int .i64 ((l.length : Int) - 1 - (k : Int)), .int .i64 (l.getD (l.length - 1 - k) 0)] := by
  have e : i.toNat = l.length - 1 - k := by omega
  rw [getD_eq (show l.length - 1 - k < l.length by omega), ← hi]
  simp only [e]
structure NInv (l ol : List Int) (m : List (Int × Int)) (k : Nat) : Prop where
  le : k ≤ l.length
  len : ol.length = l.length
  out : ∀ j (h : j < l.length) (h2 : j < ol.length), l.length - k ≤ j → ol[j] = ((ca l (j + 1) l[j] : Nat) : Int)
  get : ∀ key, AL.get m key = if ca l (l.length - k) key < l.length then some ((ca l (l.length - k) key : Nat) : Int) else none
theorem NInv.start (l : List Int) : NInv l (List.replicate l.length 0) [] 0 := ⟨Nat.zero_le _, by simp, fun j h h2 h3 => by omega, fun key => by rw [Nat.sub_zero, ca_end, if_neg (by omega)]; rfl⟩
theorem NInv.next {l ol : List Int} {m : List (Int × Int)} {k : Nat} (h : NInv l ol m k) (hk : k < l.length) {i key v : Int} (hi : i = (l.length : Int) - 1 - (k : Int)) (hkey : key = l.getD (l.length - 1 - k) 0) (hv : v = ((ca l (l.length - k) key : Nat) : Int)) : NInv l (ol.set i.toNat v) (AL.set m key i) (k + 1) := by
  have ei : i.toNat = l.length - 1 - k := by omega
  have hlt : l.length - 1 - k < l.length := by omega
  rw [getD_eq hlt] at hkey
  have e1 : l.length - k = l.length - 1 - k + 1 := by omega
  have e2 : l.length - (k + 1) = l.length - 1 - k := by omega
  refine ⟨by omega, by rw [List.length_set]; exact h.len, fun j hj hj2 hle => ?_, fun x => ?_⟩
  · rw [List.getElem_set]
    split
    · rename_i e
      obtain rfl : j = l.length - 1 - k := by omega
      rw [hv, e1, hkey]
    · exact h.out j hj (by rw [List.length_set] at hj2; exact hj2) (by omega)
  · rw [AL.get_set, e2]
    split
    · rename_i e; subst e; rw [hkey, ca_same hlt, if_pos hlt]; congr 1; omega
    · rename_i e
      rw [h.get x, e1, ca_next hlt (by rw [← hkey]; exact fun h => e h.symm)]
theorem NInv.some {l ol : List Int} {m : List (Int × Int)} {k : Nat} (h : NInv l ol m k) {key : Int} (hs : (AL.get m key).isSome = true) : (AL.get m key).getD 0 = ((ca l (l.length - k) key : Nat) : Int) := by
  rw [h.get] at hs ⊢; split at hs
  · rename_i e; rw [if_pos e]; rfl
  · cases hs
theorem NInv.none {l ol : List Int} {m : List (Int × Int)} {k : Nat} (h : NInv l ol m k) {key : Int} (hs : (AL.get m key).isSome = false) : (l.length : Int) = ((ca l (l.length - k) key : Nat) : Int) := by
  rw [h.get] at hs; split at hs
  · cases hs
  · have := ca_le (l := l) (i := l.length - k) key (by omega); omega
theorem NInv.done {l ol : List Int} {m : List (Int × Int)} (h : NInv l ol m l.length) : ol = nexts l := by
  refine List.ext_getElem (by rw [h.len, nexts_len]) fun i h1 h2 => ?_
  have hi : i < l.length := by rw [h.len] at h1; exact h1
  rw [h.out i hi h1 (by omega), nexts_at hi h2]
/-! ### the farthest key of a map -/
def IsFar (m : List (Int × Int)) (b w : Int) : Prop := (m = [] ∧ b = -1 ∧ w = -1) ∨ ((b, w) ∈ m ∧ ∀ p ∈ m, p.2 < w ∨ (p.2 = w ∧ b ≤ p.1))
def better (p : Int × Int) (b w : Int) : Bool := decide (w < p.2) || ((p.2 == w) && decide (p.1 < b))
def farFold (m : List (Int × Int)) : Int × Int := m.foldl (fun s p => if better p s.1 s.2 then p else s) (-1, -1)
def far (m : List (Int × Int)) : Int := (farFold m).1
theorem IsFar.take_ {m : List (Int × Int)} {b w : Int} (h : IsFar m b w) {p : Int × Int} (hp : 0 ≤ p.2) (hb : w < p.2 ∨ (p.2 = w ∧ p.1 < b)) : IsFar (m ++ [p]) p.1 p.2 := by
  right
  refine ⟨by simp, fun q hq => ?_⟩
  rcases List.mem_append.1 hq with hq | hq
  · rcases h with ⟨h1, _⟩ | ⟨_, h2⟩
    · subst h1; cases hq
    · have := h2 q hq; omega
  · simp at hq; subst hq; right; exact ⟨rfl, Int.le_refl _⟩
theorem IsFar.skip {m : List (Int × Int)} {b w : Int} (h : IsFar m b w) {p : Int × Int} (hp : 0 ≤ p.2) (hb : p.2 ≤ w ∧ (p.2 ≠ w ∨ b ≤ p.1)) : IsFar (m ++ [p]) b w := by
  rcases h with ⟨h1, h2, h3⟩ | ⟨h1, h2⟩
  · omega
  · right
    refine ⟨by simp [h1], fun q hq => ?_⟩
    rcases List.mem_append.1 hq with hq | hq
    · exact h2 q hq
    · simp at hq; subst hq; omega
theorem IsFar.uniq {m n : List (Int × Int)} {a b v w : Int} (h : IsFar m a v) (h2 : IsFar n b w) (hp : m.Perm n) : a = b := by
  rcases h with ⟨h1, e1, _⟩ | ⟨h1, g1⟩
  · subst h1
    have : n = [] := List.length_eq_zero_iff.1 hp.length_eq.symm
    subst this
    rcases h2 with ⟨_, e2, _⟩ | ⟨h3, _⟩
    · omega
    · cases h3
  · rcases h2 with ⟨h3, _⟩ | ⟨h3, g2⟩
    · subst h3
      have : m = [] := List.length_eq_zero_iff.1 hp.length_eq
      subst this; cases h1
    · have q1 := g1 _ (hp.mem_iff.2 h3)
      have q2 := g2 _ (hp.mem_iff.1 h1)
      simp only at q1 q2; omega
theorem far_is {m : List (Int × Int)} (h0 : ∀ p ∈ m, 0 ≤ p.2) : IsFar m (far m) (farFold m).2 := by
  have key : ∀ (t s : List (Int × Int)) (b w : Int), IsFar s b w → (∀ p ∈ t, 0 ≤ p.2) → IsFar (s ++ t) (t.foldl (fun s p => if better p s.1 s.2 then p else s) (b, w)).1 (t.foldl (fun s p => if better p s.1 s.2 then p else s) (b, w)).2 := by
    intro t
    induction t with
    | nil => intro s b w h _; simpa using h
    | cons p t ih =>
      intro s b w h hp
      have e : s ++ p :: t = (s ++ [p]) ++ t := by simp
      rw [e, List.foldl_cons]
      have h1 := hp p (by simp)
      cases hb : better p b w
      · simp only [better, Bool.or_eq_false_iff, decide_eq_false_iff_not, Bool.and_eq_false_iff, beq_eq_false_iff_ne] at hb
        have hb2 : better p b w = false := by simp only [better, Bool.or_eq_false_iff, decide_eq_false_iff_not, Bool.and_eq_false_iff, beq_eq_false_iff_ne]; exact hb
        simp only [hb2, Bool.false_eq_true, if_false]
        exact ih _ b w (h.skip h1 (by omega)) (fun q hq => hp q (by simp [hq]))
      · simp only [better, Bool.or_eq_true, decide_eq_true_eq, Bool.and_eq_true, beq_iff_eq] at hb
        have hb2 : better p b w = true := by simp only [better, Bool.or_eq_true, decide_eq_true_eq, Bool.and_eq_true, beq_iff_eq]; exact hb
        simp only [hb2, if_true]
        exact ih _ p.1 p.2 (h.take_ h1 hb) (fun q hq => hp q (by simp [hq]))
  exact key m [] (-1) (-1) (.inl ⟨rfl, rfl, rfl⟩) h0
structure FI (m left : List (Int × Int)) (b w : Int) : Prop where
  ex : ∃ done, (done ++ left).Perm m ∧ IsFar done b w
theorem FI.start (m : List (Int × Int)) : FI m m (-1) (-1) := ⟨[], by simp, .inl ⟨rfl, rfl, rfl⟩⟩
theorem FI.mem {m left A C : List (Int × Int)} {b w : Int} {x : Int × Int} (h : FI m left b w) (e : left = A ++ x :: C) (h0 : ∀ p ∈ m, 0 ≤ p.2) : 0 ≤ x.2 := by
  obtain ⟨done, hp, _⟩ := h.ex
  subst e; exact h0 x (hp.mem_iff.1 (by simp))
theorem perm_step {m A C done : List (Int × Int)} {x : Int × Int} (hp : (done ++ (A ++ x :: C)).Perm m) : ((done ++ [x]) ++ (A ++ C)).Perm m := by
  refine List.Perm.trans ?_ hp
  rw [List.append_assoc]
  refine List.Perm.append_left _ ?_
  exact (List.perm_middle (a := x) (l₁ := A) (l₂ := C)).symm
theorem FI.take_ {m left A C : List (Int × Int)} {b w : Int} {x : Int × Int} (h : FI m left b w) (e : left = A ++ x :: C) (h0 : ∀ p ∈ m, 0 ≤ p.2) (hb : w < x.2 ∨ (x.2 = w ∧ x.1 < b)) : FI m (A ++ C) x.1 x.2 := by
  have hx := h.mem e h0
  obtain ⟨done, hp, hf⟩ := h.ex
  subst e; exact ⟨done ++ [x], perm_step hp, hf.take_ hx hb⟩
theorem FI.skip {m left A C : List (Int × Int)} {b w : Int} {x : Int × Int} (h : FI m left b w) (e : left = A ++ x :: C) (h0 : ∀ p ∈ m, 0 ≤ p.2) (hb : x.2 ≤ w ∧ (x.2 ≠ w ∨ b ≤ x.1)) : FI m (A ++ C) b w := by
  have hx := h.mem e h0
  obtain ⟨done, hp, hf⟩ := h.ex
  subst e; exact ⟨done ++ [x], perm_step hp, hf.skip hx hb⟩
theorem FI.done {m left : List (Int × Int)} {b w : Int} (h : FI m left b w) (e : left = []) (h0 : ∀ p ∈ m, 0 ≤ p.2) : b = far m := by
  obtain ⟨done, hp, hf⟩ := h.ex
  subst e; rw [List.append_nil] at hp
  exact hf.uniq (far_is h0) hp
/-! ### Evictions -/
structure EInv (l : List Int) (room : Int) (m : List (Int × Int)) (o : List Int) (mis : Int) (i : Nat) : Prop where
  le : i ≤ l.length
  nodup : (m.map (·.1)).Nodup
  mem : ∀ x, x ∈ m.map (·.1) ↔ x ∈ (go l room i).1
  val : ∀ p ∈ m, p.2 = ((ca l i p.1 : Nat) : Int)
  out : o = (go l room i).2.1
  mis : mis = (go l room i).2.2
theorem EInv.start (l : List Int) (room : Int) : EInv l room [] [] 0 0 := { le := Nat.zero_le _, nodup := List.nodup_nil, mem := fun x => by simp [go], val := fun p hp => absurd hp (by simp), out := rfl, mis := rfl }
theorem EInv.len {l : List Int} {room : Int} {m : List (Int × Int)} {o : List Int} {mis : Int} {i : Nat} (h : EInv l room m o mis i) (hr : 1 ≤ room) : m.length = (go l room i).1.length := by
  have h1 := Belady.len_eq (GInv.all hr i h.le).nodup h.nodup h.mem
  simpa using h1
theorem EInv.bd {l : List Int} {room : Int} {m : List (Int × Int)} {o : List Int} {mis : Int} {i : Nat} (h : EInv l room m o mis i) (hr : 1 ≤ room) : o.length = i ∧ 0 ≤ mis ∧ mis ≤ i := by
  have g := GInv.all hr i h.le
  rw [h.out, h.mis]; exact ⟨g.glen, g.n0, g.n1⟩
theorem EInv.pos {l : List Int} {room : Int} {m : List (Int × Int)} {o : List Int} {mis : Int} {i : Nat} (h : EInv l room m o mis i) : ∀ p ∈ m, 0 ≤ p.2 := fun p hp => by rw [h.val p hp]; omega
theorem EInv.hit_iff {l : List Int} {room : Int} {m : List (Int × Int)} {o : List Int} {mis : Int} {i : Nat} (h : EInv l room m o mis i) (k : Int) : (AL.get m k).isSome = true ↔ k ∈ (go l room i).1 := by rw [AL.get_isSome, h.mem]
theorem val_set {l : List Int} {m : List (Int × Int)} {i : Nat} (hn : (m.map (·.1)).Nodup) (hi : i < l.length) (hv : ∀ p ∈ m, p.1 ≠ l[i] → p.2 = ((ca l i p.1 : Nat) : Int)) {nx : Int} (hx : nx = ((ca l (i + 1) l[i] : Nat) : Int)) : ∀ p ∈ AL.set m l[i] nx, p.2 = ((ca l (i + 1) p.1 : Nat) : Int) := by
  intro p hp
  rcases (AL.set_mem hn).1 hp with rfl | ⟨h1, h2⟩
  · exact hx
  · rw [hv p h1 h2, ca_next hi (fun e => h2 e.symm)]
theorem set_mem_keys {m : List (Int × Int)} (k v x : Int) : x ∈ (AL.set m k v).map (·.1) ↔ x = k ∨ x ∈ m.map (·.1) := by
  rw [AL.set_keys]; split
  · rename_i h
    constructor
    · exact .inr
    · rintro (rfl | h2)
      · exact h
      · exact h2
  · simp [or_comm]
theorem go_succ (l : List Int) (room : Int) (i : Nat) : go l room (i + 1) = ((step l room i (go l room i).1).1, (go l room i).2.1 ++ [(step l room i (go l room i).1).2.1], (go l room i).2.2 + (step l room i (go l room i).1).2.2) := rfl
theorem EInv.hit {l : List Int} {room : Int} {m : List (Int × Int)} {o : List Int} {mis : Int} {i : Nat} (h : EInv l room m o mis i) (hr : 1 ≤ room) (hi : i < l.length) (hk : (AL.get m l[i]).isSome = true) {nx : Int} (hx : nx = ((ca l (i + 1) l[i] : Nat) : Int)) : EInv l room (AL.set m l[i] nx) (o ++ [-1]) mis (i + 1) := by
  have hC := (h.hit_iff l[i]).1 hk
  have hs : step l room i (go l room i).1 = ((go l room i).1, -1, 0) := by unfold step; rw [getD_eq hi, if_pos hC]
  rw [show EInv l room (AL.set m l[i] nx) (o ++ [-1]) mis (i + 1) ↔ _ from Iff.rfl]
  refine ⟨by omega, AL.set_nodup h.nodup _ _, fun x => ?_, val_set h.nodup hi (fun p hp _ => h.val p hp) hx, by rw [go_succ, hs, h.out], by rw [go_succ, hs, h.mis]; simp⟩
  rw [go_succ, hs, set_mem_keys, h.mem]
  constructor
  · rintro (rfl | h2)
    · exact hC
    · exact h2
  · exact .inr
theorem EInv.add {l : List Int} {room : Int} {m : List (Int × Int)} {o : List Int} {mis : Int} {i : Nat} (h : EInv l room m o mis i) (hr : 1 ≤ room) (hi : i < l.length) (hk : (AL.get m l[i]).isSome = false) (hl : (m.length : Int) ≠ room) {nx : Int} (hx : nx = ((ca l (i + 1) l[i] : Nat) : Int)) : EInv l room (AL.set m l[i] nx) (o ++ [-1]) (mis + 1) (i + 1) := by
  have hC : l[i] ∉ (go l room i).1 := fun h2 => by rw [(h.hit_iff l[i]).2 h2] at hk; cases hk
  have hlen := h.len hr
  have g := GInv.all hr i h.le
  have hs : step l room i (go l room i).1 = ((go l room i).1 ++ [l[i]], -1, 1) := by unfold step; rw [getD_eq hi, if_neg hC, if_pos (by have := g.len; omega)]
  refine ⟨by omega, AL.set_nodup h.nodup _ _, fun x => ?_, val_set h.nodup hi (fun p hp _ => h.val p hp) hx, by rw [go_succ, hs, h.out], by rw [go_succ, hs, h.mis]⟩
  rw [go_succ, hs, set_mem_keys, h.mem]; simp [or_comm]
theorem EInv.far_eq {l : List Int} {room : Int} {m : List (Int × Int)} {o : List Int} {mis : Int} {i : Nat} (h : EInv l room m o mis i) (hr : 1 ≤ room) (hl : (m.length : Int) = room) : ∃ hb : best l i (go l room i).1 < (go l room i).1.length, far m = (go l room i).1[best l i (go l room i).1] := by
  have hlen := h.len hr
  have h0 : 0 < (go l room i).1.length := by omega
  refine ⟨best_lt h0, ?_⟩
  have hf := far_is h.pos
  refine Far.uniq (l := l) (i := i) (C := m.map (·.1)) (D := (go l room i).1) ?_ (best_far h0) h.mem
  rcases hf with ⟨h1, _⟩ | ⟨h1, h2⟩
  · subst h1; simp at hlen; omega
  · refine ⟨List.mem_map.2 ⟨_, h1, rfl⟩, fun c hc => ?_⟩
    obtain ⟨p, hp, rfl⟩ := List.mem_map.1 hc
    have h3 := h2 p hp
    have h4 := h.val p hp
    have h5 := h.val _ h1
    simp only at h5
    simp only [later, Bool.or_eq_false_iff, decide_eq_false_iff_not, Bool.and_eq_false_iff]
    omega
theorem EInv.evict {l : List Int} {room : Int} {m : List (Int × Int)} {o : List Int} {mis : Int} {i : Nat} (h : EInv l room m o mis i) (hr : 1 ≤ room) (hi : i < l.length) (hk : (AL.get m l[i]).isSome = false) (hl : (m.length : Int) = room) {nx : Int} (hx : nx = ((ca l (i + 1) l[i] : Nat) : Int)) : EInv l room (AL.set (AL.del m (far m)) l[i] nx) (o ++ [far m]) (mis + 1) (i + 1) := by
  have hC : l[i] ∉ (go l room i).1 := fun h2 => by rw [(h.hit_iff l[i]).2 h2] at hk; cases hk
  obtain ⟨hb, hf⟩ := h.far_eq hr hl
  have hlen := h.len hr
  have g := GInv.all hr i h.le
  have hs : step l room i (go l room i).1 = ((go l room i).1.set (best l i (go l room i).1) l[i], far m, 1) := by
    unfold step; rw [getD_eq hi, if_neg hC, if_neg (by omega), getD_eq hb, hf]
  have hnd := AL.del_nodup h.nodup (far m)
  refine ⟨by omega, AL.set_nodup hnd _ _, fun x => ?_, val_set hnd hi (fun p hp _ => h.val p ((AL.del_mem h.nodup).1 hp).1) hx, by rw [go_succ, hs, h.out], by rw [go_succ, hs, h.mis]⟩
  rw [go_succ, hs, set_mem_keys, mem_set' g.nodup hb, ← hf, AL.del_keys, h.nodup.mem_erase_iff, h.mem, and_comm]
theorem EInv.done {l : List Int} {room : Int} {m : List (Int × Int)} {o : List Int} {mis : Int} {i : Nat} (h : EInv l room m o mis i) (hi : l.length ≤ i) : (o, mis) = (go l room l.length).2 := by
  have : i = l.length := by have := h.le; omega
  subst this; rw [h.out, h.mis]
theorem ev_cases (l : List Int) (room : Int) : (Lru.trace l ≠ 0 ∧ ev l room = ([], 0) ∧ evErr l room = Lru.trace l) ∨ (Lru.trace l = 0 ∧ Lru.okRoom room = false ∧ ev l room = ([], 0) ∧ evErr l room = 3) ∨ (Lru.trace l = 0 ∧ Lru.okRoom room = true ∧ ev l room = (go l room l.length).2 ∧ evErr l room = 0) := by
  unfold ev
  by_cases hc : Lru.trace l = 0
  · cases hr : Lru.okRoom room
    · have e : evErr l room = 3 := by unfold evErr; rw [if_pos hc, if_neg (by simp [hr])]
      exact .inr (.inl ⟨hc, rfl, by rw [e]; rfl, e⟩)
    · have e : evErr l room = 0 := by unfold evErr; rw [if_pos hc, if_pos hr]
      exact .inr (.inr ⟨hc, rfl, by rw [if_pos e], e⟩)
  · have e : evErr l room = Lru.trace l := if_neg hc
    exact .inl ⟨hc, by rw [e, if_neg hc], e⟩
theorem ev1 {l : List Int} {room : Int} (h : Lru.trace l ≠ 0) : ev l room = ([], 0) ∧ evErr l room = Lru.trace l := by
  rcases ev_cases l room with ⟨_, b⟩ | ⟨a, _⟩ | ⟨a, _⟩ <;> first | exact b | exact absurd a h
theorem ev2 {l : List Int} {room : Int} (h : Lru.trace l = 0) (h2 : Lru.okRoom room = false) : ev l room = ([], 0) ∧ evErr l room = 3 := by
  rcases ev_cases l room with ⟨a, _⟩ | ⟨_, _, b⟩ | ⟨_, a, _⟩ <;> first | exact b | exact absurd h a | (rw [h2] at a; cases a)
theorem ev3 {l : List Int} {room : Int} (h : Lru.trace l = 0) (h2 : Lru.okRoom room = true) : ev l room = (go l room l.length).2 ∧ evErr l room = 0 := by
  rcases ev_cases l room with ⟨a, _⟩ | ⟨_, a, _⟩ | ⟨_, _, b⟩ <;> first | exact b | exact absurd h a | (rw [h2] at a; cases a)
theorem ev_ok {l : List Int} {room : Int} (h : evErr l room = 0) : Lru.trace l = 0 ∧ Lru.okRoom room = true ∧ ev l room = (go l room l.length).2 := by
  rcases ev_cases l room with ⟨a, _, b⟩ | ⟨_, _, _, b⟩ | ⟨a, b, d, _⟩ <;> first | exact ⟨a, b, d⟩ | omega
theorem ev_bad {l : List Int} {room : Int} (h : evErr l room ≠ 0) : ev l room = ([], 0) := if_neg h
theorem nx_cases (l : List Int) (i : Int) : (Lru.trace l ≠ 0 ∧ next l i = 0 ∧ nextErr l i = Lru.trace l) ∨ (Lru.trace l = 0 ∧ (i < 0 ∨ (l.length : Int) ≤ i) ∧ next l i = 0 ∧ nextErr l i = 3) ∨ (Lru.trace l = 0 ∧ (0 ≤ i ∧ i < (l.length : Int)) ∧ next l i = (ca l (i.toNat + 1) (l.getD i.toNat 0) : Nat) ∧ nextErr l i = 0) := by
  unfold next
  by_cases hc : Lru.trace l = 0
  · by_cases hr : i < 0 ∨ (l.length : Int) ≤ i
    · have e : nextErr l i = 3 := by unfold nextErr; rw [if_pos hc, if_pos hr]
      exact .inr (.inl ⟨hc, hr, by rw [e]; rfl, e⟩)
    · have e : nextErr l i = 0 := by unfold nextErr; rw [if_pos hc, if_neg hr]
      exact .inr (.inr ⟨hc, by omega, by rw [if_pos e], e⟩)
  · have e : nextErr l i = Lru.trace l := if_neg hc
    exact .inl ⟨hc, by rw [e, if_neg hc], e⟩
theorem nx1 {l : List Int} {i : Int} (h : Lru.trace l ≠ 0) : next l i = 0 ∧ nextErr l i = Lru.trace l := by
  rcases nx_cases l i with ⟨_, b⟩ | ⟨a, _⟩ | ⟨a, _⟩ <;> first | exact b | exact absurd a h
theorem nx2 {l : List Int} {i : Int} (h : Lru.trace l = 0) (h2 : i < 0 ∨ (l.length : Int) ≤ i) : next l i = 0 ∧ nextErr l i = 3 := by
  rcases nx_cases l i with ⟨a, _⟩ | ⟨_, _, b⟩ | ⟨_, a, _⟩ <;> first | exact b | exact absurd h a | omega
theorem nx3 {l : List Int} {i : Int} (h : Lru.trace l = 0) (h2 : 0 ≤ i ∧ i < (l.length : Int)) (hl : i.toNat < l.length) : next l i = (ca l (i.toNat + 1) l[i.toNat] : Nat) ∧ nextErr l i = 0 := by
  rcases nx_cases l i with ⟨a, _⟩ | ⟨_, a, _⟩ | ⟨_, _, b⟩ <;> first | exact absurd h a | omega | (rw [getD_eq hl] at b; exact b)
/-! ### the references -/
structure CI (l : List Int) (f : Nat) (key : Int) (k : Int) : Prop where
  lo : (f : Int) ≤ k
  hi : k ≤ (l.length : Int)
  no : ∀ q (h : q < l.length), f ≤ q → (q : Int) < k → l[q] ≠ key
theorem CI.start {l : List Int} {f : Nat} (key : Int) (h : f ≤ l.length) : CI l f key f := ⟨Int.le_refl _, by omega, fun q h h1 h2 => by omega⟩
theorem CI.next {l : List Int} {f : Nat} {key k : Int} (h : CI l f key k) (hk : k.toNat < l.length) (hx : l[k.toNat] ≠ key) : CI l f key (k + 1) := ⟨by have := h.lo; omega, by have := h.lo; omega, fun q hq h1 h2 => by
  by_cases e : q = k.toNat
  · subst e; exact hx
  · exact h.no q hq h1 (by have := h.lo; omega)⟩
theorem CI.found {l : List Int} {f : Nat} {key k : Int} (h : CI l f key k) (hk : k.toNat < l.length) (hx : l[k.toNat] = key) : k = ((ca l f key : Nat) : Int) := by
  have := ca_found (l := l) (i := f) (j := k.toNat) hk (by have := h.lo; omega) hx (fun q hq h1 h2 => h.no q hq h1 (by have := h.lo; omega))
  rw [this]; have := h.lo; omega
theorem CI.none {l : List Int} {f : Nat} {key k : Int} (h : CI l f key k) (hf : f ≤ l.length) (hk : (l.length : Int) ≤ k) : (l.length : Int) = ((ca l f key : Nat) : Int) := by
  rw [ca_none hf (fun q hq h1 => h.no q hq h1 (by omega))]
structure BI (l : List Int) (i : Nat) (C : List Int) (best k : Int) : Prop where
  lo : 1 ≤ k
  hi : k ≤ (C.length : Int)
  is : best = ((bestTo l i C k.toNat : Nat) : Int)
theorem bestTo_one (l : List Int) (i : Nat) (C : List Int) : bestTo l i C 1 = 0 := by rw [bestTo]; split <;> rfl
theorem BI.start {l : List Int} {i : Nat} {C : List Int} (h : 0 < C.length) : BI l i C 0 1 := ⟨Int.le_refl _, by omega, by rw [show (1 : Int).toNat = 1 from rfl, bestTo_one]; rfl⟩
theorem BI.bd {l : List Int} {i : Nat} {C : List Int} {best k : Int} (h : BI l i C best k) (h0 : 0 < C.length) : 0 ≤ best ∧ best < (C.length : Int) := by
  have := bestTo_lt (l := l) (i := i) (C := C) k.toNat (by have := h.hi; omega) h0
  rw [h.is]; omega
theorem BI.take_ {l : List Int} {i : Nat} {C : List Int} {best k : Int} (h : BI l i C best k) (hk : k.toNat < C.length) (hb : best.toNat < C.length) (hc : ((ca l i C[best.toNat] : Nat) : Int) < ((ca l i C[k.toNat] : Nat) : Int) ∨ (((ca l i C[k.toNat] : Nat) : Int) = ((ca l i C[best.toNat] : Nat) : Int) ∧ C[k.toNat] < C[best.toNat])) : BI l i C k (k + 1) := by
  have h1 := h.lo
  refine ⟨by omega, by omega, ?_⟩
  have eb : bestTo l i C k.toNat = best.toNat := by rw [h.is]; omega
  rw [show (k + 1).toNat = k.toNat + 1 by omega, bestTo, eb, getD_eq hk, getD_eq hb, if_pos (by simp [later]; omega)]; omega
theorem BI.skip {l : List Int} {i : Nat} {C : List Int} {best k : Int} (h : BI l i C best k) (hk : k.toNat < C.length) (hb : best.toNat < C.length) (hc : ((ca l i C[k.toNat] : Nat) : Int) ≤ ((ca l i C[best.toNat] : Nat) : Int) ∧ (((ca l i C[k.toNat] : Nat) : Int) ≠ ((ca l i C[best.toNat] : Nat) : Int) ∨ C[best.toNat] ≤ C[k.toNat])) : BI l i C best (k + 1) := by
  have h1 := h.lo
  refine ⟨by omega, by omega, ?_⟩
  have hb0 : 0 ≤ best := by rw [h.is]; omega
  have eb : bestTo l i C k.toNat = best.toNat := by rw [h.is]; omega
  rw [show (k + 1).toNat = k.toNat + 1 by omega, bestTo, eb, getD_eq hk, getD_eq hb, if_neg (by simp [later]; omega)]; omega
theorem BI.done {l : List Int} {i : Nat} {C : List Int} {best_ k : Int} (h : BI l i C best_ k) (hk : (C.length : Int) ≤ k) : best_ = ((best l i C : Nat) : Int) := by
  have := h.hi; rw [h.is, show k.toNat = C.length by omega]; rfl
structure RI (l : List Int) (room : Int) (C o : List Int) (mis : Int) (i : Nat) : Prop where
  le : i ≤ l.length
  C : C = (go l room i).1
  o : o = (go l room i).2.1
  mis : mis = (go l room i).2.2
theorem RI.start (l : List Int) (room : Int) : RI l room [] [] 0 0 := ⟨Nat.zero_le _, rfl, rfl, rfl⟩
theorem RI.bd {l : List Int} {room : Int} {C o : List Int} {mis : Int} {i : Nat} (h : RI l room C o mis i) (hr : 1 ≤ room) : C.length ≤ i ∧ (C.length : Int) ≤ room ∧ o.length = i ∧ 0 ≤ mis ∧ mis ≤ i := by
  have g := GInv.all hr i h.le
  have h2 : (go l room i).1.length ≤ i := by
    have : ∀ j, j ≤ l.length → (go l room j).1.length ≤ j := by
      intro j
      induction j with
      | zero => intro _; simp [go]
      | succ j ih =>
        intro hj
        have := ih (by omega)
        rw [go_succ]
        rcases step_cases l room j (go l room j).1 (by omega) hr with ⟨_, e⟩ | ⟨_, _, e⟩ | ⟨_, _, _, e⟩ <;> rw [e] <;> simp <;> omega
    exact this i h.le
  rw [h.C, h.o, h.mis]; exact ⟨h2, g.len, g.glen, g.n0, g.n1⟩
theorem RI.hit {l : List Int} {room : Int} {C o : List Int} {mis : Int} {i : Nat} (h : RI l room C o mis i) (hi : i < l.length) (hk : Ref.hasInt C l[i] = true) : RI l room C (o ++ [-1]) mis (i + 1) := by
  have hk2 : l[i] ∈ C := of_decide_eq_true hk
  rw [h.C] at hk2
  have hs : step l room i (go l room i).1 = ((go l room i).1, -1, 0) := by unfold step; rw [getD_eq hi, if_pos hk2]
  exact ⟨by omega, by rw [go_succ, hs, h.C], by rw [go_succ, hs, h.o], by rw [go_succ, hs, h.mis]; simp⟩
theorem RI.add {l : List Int} {room : Int} {C o : List Int} {mis : Int} {i : Nat} (h : RI l room C o mis i) (hi : i < l.length) (hk : Ref.hasInt C l[i] = false) (hl : (C.length : Int) < room) : RI l room (C ++ [l[i]]) (o ++ [-1]) (mis + 1) (i + 1) := by
  have hk2 : l[i] ∉ C := of_decide_eq_false hk
  rw [h.C] at hk2 hl
  have hs : step l room i (go l room i).1 = ((go l room i).1 ++ [l[i]], -1, 1) := by unfold step; rw [getD_eq hi, if_neg hk2, if_pos hl]
  exact ⟨by omega, by rw [go_succ, hs, h.C], by rw [go_succ, hs, h.o], by rw [go_succ, hs, h.mis]⟩
theorem RI.evict {l : List Int} {room : Int} {C o : List Int} {mis : Int} {i : Nat} (h : RI l room C o mis i) (hi : i < l.length) (hk : Ref.hasInt C l[i] = false) (hl : room ≤ (C.length : Int)) {b : Int} (hb : b = ((best l i C : Nat) : Int)) (hbl : b.toNat < C.length) : RI l room (C.set b.toNat l[i]) (o ++ [C[b.toNat]]) (mis + 1) (i + 1) := by
  have hk2 : l[i] ∉ C := of_decide_eq_false hk
  have e : b.toNat = best l i C := by omega
  have hs : step l room i (go l room i).1 = (C.set b.toNat l[i], C[b.toNat], 1) := by
    rw [← h.C]; unfold step; rw [getD_eq hi, if_neg hk2, if_neg (by omega), ← e, getD_eq hbl]
  exact ⟨by omega, by rw [go_succ, hs], by rw [go_succ, hs, h.o], by rw [go_succ, hs, h.mis]⟩
theorem RI.done {l : List Int} {room : Int} {C o : List Int} {mis : Int} {i : Nat} (h : RI l room C o mis i) (hi : l.length ≤ i) : o = (go l room l.length).2.1 ∧ mis = (go l room l.length).2.2 := by
  have : i = l.length := by have := h.le; omega
  subst this; exact ⟨h.o, h.mis⟩
end Go.Sx.Opt
namespace Go.Sx.Opt
theorem quo_bd {a b : Int} (ha : 0 ≤ a) (hb : 1 ≤ b) : 0 ≤ a.tdiv b ∧ a.tdiv b ≤ a := by
  rw [Int.tdiv_eq_ediv_of_nonneg ha]
  exact ⟨Int.ediv_nonneg ha (by omega), Int.ediv_le_self b ha⟩
theorem bd1 {misses room least : Int} (h : ((misses < 0 ∨ 200 < misses) ∨ Lru.okRoom room = false) ∨ Lru.okRoom least = false) : 0 = bound misses room least ∧ 3 = boundErr misses room least := by
  have e : boundErr misses room least = 3 := if_pos h
  exact ⟨by unfold bound; rw [e]; rfl, e.symm⟩
theorem bd2 {misses room least : Int} (h : ((0 ≤ misses ∧ misses ≤ 200) ∧ Lru.okRoom room = true) ∧ Lru.okRoom least = true) (h2 : room < least) : 0 = bound misses room least ∧ 4 = boundErr misses room least := by
  have e : boundErr misses room least = 4 := by unfold boundErr; rw [if_neg (by rcases h with ⟨⟨⟨a, b⟩, c⟩, d⟩; simp [c, d]; omega), if_pos h2]
  exact ⟨by unfold bound; rw [e]; rfl, e.symm⟩
theorem bd3 {misses room least : Int} (h : ((0 ≤ misses ∧ misses ≤ 200) ∧ Lru.okRoom room = true) ∧ Lru.okRoom least = true) (h2 : least ≤ room) : (room * misses).tdiv (room - least + 1) + room = bound misses room least ∧ 0 = boundErr misses room least := by
  have e : boundErr misses room least = 0 := by unfold boundErr; rw [if_neg (by rcases h with ⟨⟨⟨a, b⟩, c⟩, d⟩; simp [c, d]; omega), if_neg (by omega)]
  exact ⟨by unfold bound; rw [if_pos e], e.symm⟩
end Go.Sx.Opt
namespace Go.Sx.Opt
theorem js1 {l : List Int} {room : Int} (h : Lru.trace l = 0) (h2 : room < 1 ∨ 40 < room) : 3 = evErr l room := (ev2 h (by simp only [Lru.okRoom]; rcases h2 with h | h <;> simp <;> omega)).2.symm
theorem js2 {l : List Int} {room : Int} (h : ¬ Lru.trace l = 0 ∨ (1 ≤ room ∧ room ≤ 40)) : Lru.trace l = evErr l room := by
  by_cases h1 : Lru.trace l = 0
  · rw [(ev3 h1 (by simp [Lru.okRoom]; omega)).2, h1]
  · exact (ev1 h1).2.symm
theorem jn1 {l : List Int} {i : Int} (h : Lru.trace l = 0) (h2 : i < 0 ∨ (l.length : Int) ≤ i) : 3 = nextErr l i ∧ 0 = next l i := ⟨(nx2 h h2).2.symm, (nx2 h h2).1.symm⟩
theorem jn2 {l : List Int} {i : Int} (h : Lru.trace l = 0) (h2 : 0 ≤ i ∧ i < (l.length : Int)) : Lru.trace l = nextErr l i ∧ ((ca l (i.toNat + 1) (l.getD i.toNat 0) : Nat) : Int) = next l i := by
  have h3 := nx3 h h2 (by omega)
  rw [getD_eq (by omega)]; exact ⟨by rw [h3.2, h], h3.1.symm⟩
theorem jn3 {l : List Int} {i : Int} (h : ¬ Lru.trace l = 0) : Lru.trace l = nextErr l i ∧ 0 = next l i := ⟨(nx1 h).2.symm, (nx1 h).1.symm⟩
theorem room_yes {n : Int} (h : 1 ≤ n ∧ n ≤ 40) : Lru.okRoom n = true := by simp [Lru.okRoom]; omega
theorem room_no {n : Int} (h : n < 1 ∨ 40 < n) : Lru.okRoom n = false := by simp only [Lru.okRoom]; rcases h with h | h <;> simp <;> omega
theorem jb1 {misses room least : Int} (h : ((((misses < 0 ∨ 200 < misses) ∨ room < 1) ∨ 40 < room) ∨ least < 1) ∨ 40 < least) : 3 = boundErr misses room least ∧ 0 = bound misses room least := by
  have h2 : ((misses < 0 ∨ 200 < misses) ∨ Lru.okRoom room = false) ∨ Lru.okRoom least = false := by
    rcases h with ((((h | h) | h) | h) | h) | h
    · exact .inl (.inl (.inl h))
    · exact .inl (.inl (.inr h))
    · exact .inl (.inr (room_no (.inl h)))
    · exact .inl (.inr (room_no (.inr h)))
    · exact .inr (room_no (.inl h))
    · exact .inr (room_no (.inr h))
  exact ⟨(bd1 h2).2, (bd1 h2).1⟩
structure QI (misses room least b : Int) : Prop where
  m : 0 ≤ misses ∧ misses ≤ 200
  r : 1 ≤ room ∧ room ≤ 40
  h : 1 ≤ least ∧ least ≤ room
  lo : room ≤ b
  le : (b - room) * (room - least + 1) ≤ room * misses
theorem QI.start {misses room least : Int} (h : 0 ≤ misses ∧ misses ≤ 200) (h2 : 1 ≤ room ∧ room ≤ 40) (h3 : 1 ≤ least) (h4 : least ≤ room) : QI misses room least room := ⟨h, h2, ⟨h3, h4⟩, Int.le_refl _, by rw [Int.sub_self, Int.zero_mul]; exact Int.mul_nonneg (by omega) (by omega)⟩
theorem QI.rm {misses room least b : Int} (h : QI misses room least b) : 0 ≤ room * misses ∧ room * misses ≤ 8000 := by
  have h1 := h.m; have h2 := h.r
  exact ⟨Int.mul_nonneg (by omega) (by omega), Int.le_trans (Int.mul_le_mul h2.2 h1.2 (by omega) (by omega)) (by decide)⟩
theorem QI.bd {misses room least b : Int} (h : QI misses room least b) : b - room ≤ 8000 ∧ 0 ≤ (b - room + 1) * (room - least + 1) ∧ (b - room + 1) * (room - least + 1) ≤ 320040 := by
  have h1 := h.rm; have h2 := h.h; have h3 := h.r; have h4 := h.lo
  have h5 : (b - room) * 1 ≤ (b - room) * (room - least + 1) := Int.mul_le_mul_of_nonneg_left (by omega) (by omega)
  have h6 : b - room ≤ 8000 := by have := h.le; omega
  exact ⟨h6, Int.mul_nonneg (by omega) (by omega), Int.le_trans (Int.mul_le_mul (show b - room + 1 ≤ 8001 by omega) (show room - least + 1 ≤ 40 by omega) (by omega) (by omega)) (by decide)⟩
theorem QI.next {misses room least b : Int} (h : QI misses room least b) (hc : (b - room + 1) * (room - least + 1) ≤ room * misses) : QI misses room least (b + 1) := ⟨h.m, h.r, h.h, by have := h.lo; omega, by rw [show b + 1 - room = b - room + 1 by omega]; exact hc⟩
theorem QI.lt {misses room least b : Int} (h : QI misses room least b) (hc : (b - room + 1) * (room - least + 1) ≤ room * misses) : b - room < 8000 := (by have := (h.next hc).bd.1; omega)
theorem QI.done {misses room least b : Int} (h : QI misses room least b) (hc : room * misses < (b - room + 1) * (room - least + 1)) : 0 = boundErr misses room least ∧ b = bound misses room least := by
  have h2 := bd3 (misses := misses) (room := room) (least := least) ⟨⟨h.m, room_yes h.r⟩, room_yes (by have := h.h; have := h.r; omega)⟩ h.h.2
  refine ⟨h2.2, ?_⟩
  rw [← h2.1, Int.tdiv_eq_ediv_of_nonneg h.rm.1]
  have hd : 0 < room - least + 1 := by have := h.h; omega
  have h3 : (room * misses) / (room - least + 1) = b - room := by
    have h4 : b - room ≤ (room * misses) / (room - least + 1) := Int.le_ediv_of_mul_le hd h.le
    have h5 : (room * misses) / (room - least + 1) < b - room + 1 := Int.ediv_lt_of_lt_mul hd hc
    omega
  rw [h3]; omega
theorem jb2 {misses room least : Int} (h : ((((0 ≤ misses ∧ misses ≤ 200) ∧ 1 ≤ room) ∧ room ≤ 40) ∧ 1 ≤ least) ∧ least ≤ 40) (h2 : room < least) : 4 = boundErr misses room least ∧ 0 = bound misses room least := by
  have := bd2 (misses := misses) (room := room) (least := least) ⟨⟨by omega, room_yes (by omega)⟩, room_yes (by omega)⟩ h2
  exact ⟨this.2, this.1⟩
/-! ### the fewest -/
theorem few_bd {room top : Int} (h0 : 0 ≤ top) : ∀ {t C : List Int}, 0 ≤ few room top C t ∧ few room top C t ≤ top + t.length := by
  intro t
  induction t with
  | nil => intro C; rw [show few room top C [] = 0 by unfold few; rfl]; simp only [List.length_nil]; omega
  | cons k t ih =>
    intro C
    rw [few_cons]
    simp only [List.length_cons]
    split
    · have := ih (C := C); omega
    · split
      · have := ih (C := C ++ [k]); omega
      · obtain ⟨a, b, c⟩ := fold_spec (fun j => 1 + few room top (C.set j k) t) top C.length
        rcases c with c | ⟨j, _, c⟩
        · omega
        · have := ih (C := C.set j k); rw [c]; omega
structure WI (l C : List Int) (room top : Int) (a b : Int) : Prop where
  lo : a ≤ b
  hi : b ≤ (l.length : Int)
  eq : few room top C (l.drop b.toNat) = few room top C (l.drop a.toNat)
theorem WI.start {l C : List Int} {room top a : Int} (h : a ≤ (l.length : Int)) : WI l C room top a a := ⟨Int.le_refl _, h, rfl⟩
theorem WI.next {l C : List Int} {room top a b : Int} (h : WI l C room top a b) (ha : 0 ≤ a) (hb : b.toNat < l.length) (hc : Ref.hasInt C (l.getD b.toNat default) = true) : WI l C room top a (b + 1) := ⟨by have := h.lo; omega, by have := h.lo; omega, by
  have h1 := h.lo
  rw [← getd_at hb default] at hc
  rw [← h.eq, show (b + 1).toNat = b.toNat + 1 by omega, List.drop_eq_getElem_cons hb, few_cons, if_pos (of_decide_eq_true hc)]⟩
theorem WI.end_ {l C : List Int} {room top a b : Int} (h : WI l C room top a b) (hb : b = (l.length : Int)) : 0 = few room top C (l.drop a.toNat) := by
  rw [← h.eq, List.drop_of_length_le (by omega)]; unfold few; rfl
theorem WI.no {l C : List Int} {room top a b : Int} (h : WI l C room top a b) (hb : b.toNat < l.length) (hc : Ref.hasInt C (l.getD b.toNat default) = false) : few room top C (l.drop a.toNat) = if (C.length : Int) < room then 1 + few room top (C ++ [l.getD b.toNat default]) (l.drop (b.toNat + 1)) else fold (fun j => 1 + few room top (C.set j (l.getD b.toNat default)) (l.drop (b.toNat + 1))) top C.length := by
  rw [← getd_at hb default] at hc ⊢
  rw [← h.eq, List.drop_eq_getElem_cons hb, few_cons, if_neg (of_decide_eq_false hc)]
theorem fold_next {f : Nat → Int} {top : Int} {k : Nat} : fold f top (k + 1) = if f k < fold f top k then f k else fold f top k := fold_succ f top k
theorem fold_bd {room top : Int} (h0 : 0 ≤ top) {C t : List Int} {x : Int} (k : Nat) : fold (fun j => 1 + few room top (C.set j x) t) top k ≤ top ∧ 0 ≤ fold (fun j => 1 + few room top (C.set j x) t) top k := by
  obtain ⟨a, b, c⟩ := fold_spec (fun j => 1 + few room top (C.set j x) t) top k
  refine ⟨b, ?_⟩
  rcases c with c | ⟨j, _, c⟩
  · omega
  · have := (few_bd (room := room) h0 (t := t) (C := C.set j x)).1; rw [c]; omega
theorem fewest_law {l : List Int} {room : Int} (h : evErr l room = 0) : (ev l room).2 = few room ((l.length : Int) + 1) [] l := by
  obtain ⟨h1, h2, h3⟩ := ev_ok h
  rw [h3]; exact fewest (Lru.room_ok h2).1 (Int.le_refl _)
end Go.Sx.Opt
