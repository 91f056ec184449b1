/- For keys that are accessed once, clock and LRU evict the same keys in the same order. -/
import Derived.Test.YthbfdhphnofacabCkLaw3
import Derived.Test.YthbfdhphnofacabLrLaw
namespace Go.Sx.Fifo
structure FInv (room : Int) (p : List Int) (cc : DClock) (dd : DCache) : Prop where
  bad : Lru.okRoom room = false → cc = ⟨room, 0, []⟩ ∧ dd = ⟨room, []⟩
  ok : Lru.okRoom room = true → Clock.FI room.toNat p cc ∧ Clock.check cc = 0 ∧ dd.room = room ∧ dd.keys = p.reverse.take room.toNat ∧ Lru.check dd = 0
theorem FInv.start (room : Int) : FInv room [] ⟨room, 0, []⟩ ⟨room, []⟩ := by
  refine ⟨fun _ => ⟨rfl, rfl⟩, fun h => ?_⟩
  have hr := Lru.room_ok h
  have e : ((room.toNat : Nat) : Int) = room := by omega
  refine ⟨by have := Clock.FI.start room.toNat (by omega); rw [e] at this; exact this, ?_, rfl, by simp, ?_⟩
  · simp [Clock.check, h, Clock.keysOf, Lru.keys, Lru.keysGo]; omega
  · simp [Lru.check, h, Lru.keys, Lru.keysGo]; omega
theorem err_eq {room key : Int} {p : List Int} {cc : DClock} {dd : DCache} (h : FInv room p cc dd) : Clock.accessErr cc key = Lru.accessErr dd key := by
  cases hr : Lru.okRoom room
  · obtain ⟨rfl, rfl⟩ := h.bad hr
    have h1 : Clock.check ⟨room, 0, []⟩ = 3 := by simp [Clock.check, hr]
    have h2 : Lru.check ⟨room, []⟩ = 3 := by simp [Lru.check, hr]
    unfold Clock.accessErr Lru.accessErr
    rw [h1, h2]
  · obtain ⟨_, h1, _, _, h2⟩ := h.ok hr
    unfold Clock.accessErr Lru.accessErr
    rw [if_pos h1, if_pos h2]
theorem frame_mem {room : Nat} {p : List Int} {c : DClock} (hr : 1 ≤ room) (h : Clock.FI room p c) : ∀ f ∈ c.frames, f.key ∈ p := by
  intro f hf
  obtain ⟨q, hq, rfl⟩ := List.getElem_of_mem hf
  have hl := h.len
  by_cases hp : p.length < room
  · have hqp : q < p.length := by omega
    obtain ⟨h1, h2⟩ := h.keys q hqp (by omega)
    have e : q % room = q := Nat.mod_eq_of_lt (by omega)
    simp only [e] at h2
    rw [h2]; exact List.getElem_mem hqp
  · obtain ⟨j, h1, h2, h3⟩ := Clock.place (b := p.length - room) (q := q) hr (by omega)
    have hj : j < p.length := by omega
    obtain ⟨_, g2⟩ := h.keys j hj (by omega)
    simp only [h3] at g2
    rw [g2]; exact List.getElem_mem hj
theorem step {room key : Int} {p : List Int} {cc : DClock} {dd : DCache} (h : FInv room p cc dd) (h1 : Clock.accessErr cc key = 0) (h2 : Lru.accessErr dd key = 0) (hk : key ∉ p) :
    (Clock.access cc key).2.1 = false ∧ (Lru.access dd key).2.1 = false ∧ (Clock.access cc key).2.2 = (Lru.access dd key).2.2 ∧ FInv room (p ++ [key]) (Clock.access cc key).1 (Lru.access dd key).1 := by
  obtain ⟨c1, c2, c3⟩ := Clock.acc_err h1
  obtain ⟨d1, d2, d3⟩ := Lru.acc_ok h2
  have hroom : Lru.okRoom room = true := by
    cases hr : Lru.okRoom room
    · obtain ⟨rfl, rfl⟩ := h.bad hr
      simp [Lru.check, hr] at d1
    · rfl
  obtain ⟨fi, _, dr, dk, _⟩ := h.ok hroom
  have hr := Lru.room_ok hroom
  have hrn : 1 ≤ room.toNat := by omega
  have hneg : Clock.at_ cc.frames key < 0 := by
    have := frame_mem hrn fi
    rcases idxF_cases (fun f : DFrame => f.key == key) cc.frames with ⟨k, hk2, e, e1, _⟩ | ⟨e, _⟩
    · exfalso; have e2 : cc.frames[k].key = key := by simpa using e1
      exact hk (e2 ▸ this _ (List.getElem_mem hk2))
    · unfold Clock.at_; omega
  have hnd : key ∉ dd.keys := fun hm => by rw [dk] at hm; exact hk (List.mem_reverse.1 (List.mem_of_mem_take hm))
  have hlen := fi.len
  have hcr := fi.room_
  -- the two misses, and what goes
  have hc : (Clock.touch cc key).2.1 = false ∧ (Clock.touch cc key).2.2 = if p.length < room.toNat then -1 else p.getD (p.length - room.toNat) 0 := by
    by_cases hp : p.length < room.toNat
    · rw [Clock.touch_room hneg (by omega), if_pos hp]; exact ⟨rfl, rfl⟩
    · rw [if_neg hp]
      have hh : cc.hand.toNat = p.length % room.toNat := by have := fi.hand; rw [if_neg hp] at this; omega
      have hlt : p.length % room.toNat < cc.frames.length := by have := Nat.mod_lt p.length (show 0 < room.toNat by omega); omega
      have hu := fi.clean _ (List.getElem_mem hlt)
      obtain ⟨_, g2⟩ := fi.keys (p.length - room.toNat) (by omega) (by omega)
      have hm : (p.length - room.toNat) % room.toNat = p.length % room.toNat := by
        conv => rhs; rw [show p.length = (p.length - room.toNat) + room.toNat by omega, Nat.add_mod_right]
      simp only [hm] at g2
      have hpd : p.getD (p.length - room.toNat) 0 = p[p.length - room.toNat]'(by omega) := by simp [List.getD, show p.length - room.toNat < p.length by omega]
      unfold Clock.touch
      rw [if_neg (by unfold Clock.at_ at hneg; omega), if_neg (by omega), hh, Clock.spin_stop hlt hu]
      refine ⟨rfl, ?_⟩
      simp only [hpd, ← g2]
      simp [List.getD, hlt]
  have hd : (Lru.touch dd key).2.1 = false ∧ (Lru.touch dd key).2.2 = if p.length < room.toNat then -1 else p.getD (p.length - room.toNat) 0 := by
    refine ⟨by simp [Lru.touch, hnd], ?_⟩
    show Lru.gone dd.room dd.keys key = _
    unfold Lru.gone
    have hkl : dd.keys.length = min room.toNat p.length := by rw [dk]; simp
    by_cases hp : p.length < room.toNat
    · rw [if_pos hp, if_neg (by rintro ⟨_, e⟩; omega)]
    · rw [if_neg hp, if_pos ⟨hnd, by omega⟩]
      have h3 : dd.keys.length - 1 < dd.keys.length := by omega
      rw [List.getLastD_eq_getLast?, List.getLast?_eq_getElem?, List.getElem?_eq_getElem h3]
      have hpd : p.getD (p.length - room.toNat) 0 = p[p.length - room.toNat]'(by omega) := by simp [List.getD, show p.length - room.toNat < p.length by omega]
      rw [hpd]
      simp only [Option.getD_some]
      have g : ∀ (L : List Int) (a b : Nat) (ha : a < dd.keys.length) (hb : b < L.length), dd.keys = L → a = b → dd.keys[a] = L[b] := by
        intro L a b ha hb e1 e2; subst e2; exact List.getElem_of_eq e1 _
      have e : dd.keys[dd.keys.length - 1] = (p.reverse.take room.toNat)[room.toNat - 1]'(by simp; omega) := g _ _ _ _ _ dk (by omega)
      rw [e, List.getElem_take, List.getElem_reverse]
      congr 1; omega
  rw [c3, d3]
  refine ⟨hc.1, hd.1, by rw [hc.2, hd.2], ⟨fun hb => absurd hb (by simp [hroom]), fun _ => ⟨Clock.FI.next hrn fi hc.1, Clock.check_touch c1 c2, dr, ?_, Lru.check_ok.2 ((Lru.ok_of d1).touch d2)⟩⟩⟩
  show Lru.front dd.room.toNat dd.keys key = _
  rw [dr, dk]
  unfold Lru.front
  rw [List.erase_of_not_mem (by rw [← dk]; exact hnd)]
  obtain ⟨t, ht⟩ : ∃ t, room.toNat = t + 1 := ⟨room.toNat - 1, by omega⟩
  rw [ht, List.reverse_append, List.reverse_singleton, List.singleton_append, List.take_succ_cons, List.take_succ_cons, List.take_take, Nat.min_eq_left (by omega)]
theorem take_snoc {l : List Int} {i : Nat} (h : i < l.length) : l.take i ++ [l[i]] = l.take (i + 1) := (List.take_succ_eq_append_getElem h).symm
theorem step_or {room : Int} {l : List Int} {i : Nat} {cc : DClock} {dd : DCache} (h : FInv room (l.take i) cc dd) (hi : i ≤ l.length) (h2 : i < l.length) (hm : Ref.hasInt (l.take i) l[i] = false)
    (hc : Clock.accessErr cc l[i] = 0 ∧ Lru.accessErr dd l[i] = 0) :
    (Clock.access cc l[i]).2.1 = false ∧ (Lru.access dd l[i]).2.1 = false ∧ (Clock.access cc l[i]).2.2 = (Lru.access dd l[i]).2.2 ∧ FInv room (l.take (i + 1)) (Clock.access cc l[i]).1 (Lru.access dd l[i]).1 := by
  have hk : l[i] ∉ l.take i := by simpa [Ref.hasInt] using hm
  have := step h hc.1 hc.2 hk
  rwa [take_snoc h2] at this
theorem err_dec {room key : Int} {p : List Int} {cc : DClock} {dd : DCache} (h : FInv room p cc dd) : decide (Clock.accessErr cc key = Lru.accessErr dd key) = true := decide_eq_true (err_eq h)
theorem no_or {a b : Bool} {m n : Int} {X : Prop} (h : a = false ∧ b = false ∧ m = n ∧ X) (g : (a = true ∨ b = true) ∨ ¬m = n) : false = true := by
  obtain ⟨rfl, rfl, rfl, _⟩ := h; simp at g
end Go.Sx.Fifo
