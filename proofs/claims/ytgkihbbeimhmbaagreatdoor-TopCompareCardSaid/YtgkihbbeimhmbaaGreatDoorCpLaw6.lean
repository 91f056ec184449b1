/- A comparison of policies: one more at each key changes no number of hits. -/
import Derived.Test.YtgkihbbeimhmbaaGreatDoorOpLaw4M17
namespace Go.Sx.Cmp
def sh (x : Int) : Int := x + 1
theorem sh_inj {a b : Int} : sh a = sh b ↔ a = b := by unfold sh; omega
theorem sh_beq (a b : Int) : (sh a == sh b) = (a == b) := by
  rw [Bool.eq_iff_iff, beq_iff_eq, beq_iff_eq, sh_inj]
theorem sh_mem {l : List Int} {k : Int} : sh k ∈ l.map sh ↔ k ∈ l := by
  rw [List.mem_map]
  exact ⟨fun ⟨x, hx, e⟩ => sh_inj.1 e ▸ hx, fun h => ⟨k, h, rfl⟩⟩
theorem sh_erase (k : Int) : ∀ l : List Int, (l.map sh).erase (sh k) = (l.erase k).map sh
  | [] => rfl
  | x :: l => by
    rw [List.map_cons, List.erase_cons, List.erase_cons, sh_beq]
    split
    · rfl
    · rw [List.map_cons, sh_erase k l]
/-! ### the trace -/
theorem sh_trace {l : List Int} (h : Lru.trace l = 0) (hm : ∀ k ∈ l, k ≠ 1048576) : Lru.trace (l.map sh) = 0 := by
  unfold Lru.trace at h ⊢
  split at h
  · omega
  · rename_i h1
    split at h
    · omega
    · rename_i h2
      rw [if_neg (by simpa using h1), if_neg]
      intro q
      obtain ⟨x, hx, e⟩ := List.any_eq_true.1 q
      obtain ⟨y, hy, rfl⟩ := List.mem_map.1 hx
      refine h2 (List.any_eq_true.2 ⟨y, hy, ?_⟩)
      have := hm y hy
      have e1 : Lru.okKey (sh y) = false := by simpa using e
      have e2 : Lru.okKey y = false := by
        cases hq : Lru.okKey y with
        | false => rfl
        | true =>
          have := Lru.key_ok hq
          have e3 : Lru.okKey (sh y) = true := by unfold Lru.okKey sh; rw [decide_eq_true (by omega), decide_eq_true (by omega)]; rfl
          rw [e1] at e3; cases e3
      rw [e2]; rfl
/-! ### LRU -/
def lruS (c : DCache) : DCache := ⟨c.room, c.keys.map sh⟩
theorem lru_touch (c : DCache) (k : Int) : (Lru.touch (lruS c) (sh k)).1 = lruS (Lru.touch c k).1 ∧ (Lru.touch (lruS c) (sh k)).2.1 = (Lru.touch c k).2.1 := by
  unfold Lru.touch lruS Lru.front
  refine ⟨?_, ?_⟩
  · simp only [DCache.mk.injEq, true_and]
    rw [sh_erase, List.map_take, List.map_cons]
  · simp only [decide_eq_decide]; exact sh_mem
theorem lru_run : ∀ (l : List Int) (c : DCache) (n : Int), (Lru.runGo (lruS c) n (l.map sh)).2 = (Lru.runGo c n l).2
  | [], _, _ => rfl
  | k :: l, c, n => by
    rw [List.map_cons, Lru.runGo, Lru.runGo, (lru_touch c k).1, (lru_touch c k).2]
    exact lru_run l _ _
/-! ### segments -/
def segS (c : DHalls) : DHalls := ⟨c.first, c.second, c.young.map sh, c.old.map sh⟩
theorem seg_touch (c : DHalls) (k : Int) : (Seg.touch (segS c) (sh k)).1 = segS (Seg.touch c k).1 ∧ (Seg.touch (segS c) (sh k)).2.1 = (Seg.touch c k).2.1 := by
  unfold Seg.touch
  have hc : (sh k ∈ (segS c).old ∨ sh k ∈ (segS c).young) ↔ (k ∈ c.old ∨ k ∈ c.young) := by
    unfold segS; rw [sh_mem, sh_mem]
  by_cases h : k ∈ c.old ∨ k ∈ c.young
  · rw [if_pos (hc.2 h), if_pos h]
    refine ⟨?_, rfl⟩
    simp only [segS, DHalls.mk.injEq, true_and]
    exact ⟨sh_erase k _, by rw [sh_erase, List.map_take, List.map_cons]⟩
  · rw [if_neg (fun q => h (hc.1 q)), if_neg h]
    refine ⟨?_, rfl⟩
    simp only [segS, DHalls.mk.injEq, true_and, and_true]
    rw [List.map_take, List.map_cons]
theorem seg_run : ∀ (l : List Int) (c : DHalls) (n : Int), (Seg.runGo (segS c) n (l.map sh)).2 = (Seg.runGo c n l).2
  | [], _, _ => rfl
  | k :: l, c, n => by
    rw [List.map_cons, Seg.runGo, Seg.runGo, (seg_touch c k).1, (seg_touch c k).2]
    exact seg_run l _ _
/-! ### places -/
theorem idxF_map {α β : Type} (f : α → β) (p : β → Bool) (q : α → Bool) (h : ∀ x, p (f x) = q x) (l : List α) : idxF p (l.map f) = idxF q l := by
  have e : (l.map f).findIdx p = l.findIdx q := by
    rw [List.findIdx_map]
    congr 1
    funext x; exact h x
  unfold idxF; rw [e, List.length_map]
theorem getD_map {α β : Type} (f : α → β) {l : List α} {i : Nat} (h : i < l.length) (a : α) (b : β) : (l.map f).getD i b = f (l.getD i a) := by
  rw [List.getD_eq_getElem?_getD, List.getD_eq_getElem?_getD, List.getElem?_map, List.getElem?_eq_getElem h]; rfl
theorem getD_out {α : Type} {l : List α} {i : Nat} (h : ¬ i < l.length) (a : α) : l.getD i a = a := by
  rw [List.getD_eq_getElem?_getD, List.getElem?_eq_none (by omega)]; rfl
theorem eraseIdx_sh {α β : Type} (f : α → β) : ∀ (l : List α) (i : Nat), (l.map f).eraseIdx i = (l.eraseIdx i).map f
  | [], _ => rfl
  | x :: l, 0 => rfl
  | x :: l, i + 1 => by simp only [List.map_cons, List.eraseIdx_cons_succ, eraseIdx_sh f l i]
theorem set_sh {α β : Type} (f : α → β) (x : α) : ∀ (l : List α) (i : Nat), (l.map f).set i (f x) = (l.set i x).map f := fun l i => by rw [List.map_set]
theorem set_out {α : Type} {l : List α} {i : Nat} (h : ¬ i < l.length) (x : α) : l.set i x = l := List.set_eq_of_length_le (by omega)
/-! ### clock -/
def frS (f : DFrame) : DFrame := ⟨sh f.key, f.used⟩
def ckS (c : DClock) : DClock := ⟨c.room, c.hand, c.frames.map frS⟩
theorem fr_used (l : List DFrame) (h : Nat) : ((l.map frS).getD h default).used = (l.getD h default).used := by
  by_cases hl : h < l.length
  · rw [getD_map frS hl default]; rfl
  · rw [getD_out (by simpa using hl), getD_out hl]
theorem fr_set (l : List DFrame) (h : Nat) (b : Bool) : (l.map frS).set h ⟨((l.map frS).getD h default).key, b⟩ = (l.set h ⟨(l.getD h default).key, b⟩).map frS := by
  by_cases hl : h < l.length
  · rw [getD_map frS hl default, ← set_sh]; rfl
  · rw [set_out (by simpa using hl), set_out hl]
theorem spin_sh : ∀ (n : Nat) (l : List DFrame) (h : Nat), Clock.spin n (l.map frS) h = ((Clock.spin n l h).1.map frS, (Clock.spin n l h).2)
  | 0, _, _ => rfl
  | n + 1, l, h => by
    rw [Clock.spin, Clock.spin, fr_used]
    split
    · rw [fr_set, List.length_map]; exact spin_sh n _ _
    · rfl
theorem ck_touch (c : DClock) (k : Int) : (Clock.touch (ckS c) (sh k)).1 = ckS (Clock.touch c k).1 ∧ (Clock.touch (ckS c) (sh k)).2.1 = (Clock.touch c k).2.1 := by
  have e : idxF (fun f => f.key == sh k) (ckS c).frames = idxF (fun f => f.key == k) c.frames := idxF_map frS _ _ (fun x => sh_beq _ _) _
  have e2 : (ckS c).frames.length = c.frames.length := by simp [ckS]
  have e3 : Clock.spin (ckS c).frames.length (ckS c).frames (ckS c).hand.toNat = ((Clock.spin c.frames.length c.frames c.hand.toNat).1.map frS, (Clock.spin c.frames.length c.frames c.hand.toNat).2) := by
    rw [e2]; exact spin_sh _ _ _
  unfold Clock.touch
  rw [e, e2]
  rw [e2] at e3
  split
  · refine ⟨?_, rfl⟩
    show DClock.mk _ _ _ = DClock.mk _ _ _
    rw [DClock.mk.injEq]
    exact ⟨rfl, rfl, fr_set _ _ _⟩
  · have hr : (ckS c).room = c.room := rfl
    rw [hr]
    by_cases h2 : (c.frames.length : Int) < c.room
    · rw [if_pos h2, if_pos h2]
      refine ⟨?_, rfl⟩
      show DClock.mk _ _ _ = DClock.mk _ _ _
      rw [DClock.mk.injEq]
      exact ⟨rfl, rfl, by simp [ckS, frS]⟩
    · rw [if_neg h2, if_neg h2]
      refine ⟨?_, rfl⟩
      rw [e3]
      show DClock.mk _ _ _ = DClock.mk _ _ _
      rw [DClock.mk.injEq]
      exact ⟨rfl, rfl, set_sh frS ⟨k, false⟩ _ _⟩
theorem ck_run : ∀ (l : List Int) (c : DClock) (n : Int), (Clock.runGo (ckS c) n (l.map sh)).2 = (Clock.runGo c n l).2
  | [], _, _ => rfl
  | k :: l, c, n => by
    rw [List.map_cons, Clock.runGo, Clock.runGo, (ck_touch c k).1, (ck_touch c k).2]
    exact ck_run l _ _
/-! ### LFU -/
def usS (f : DUse) : DUse := ⟨sh f.key, f.count⟩
def lfS (c : DUses) : DUses := ⟨c.room, c.list.map usS⟩
theorem us_count (l : List DUse) (h : Nat) : ((l.map usS).getD h default).count = (l.getD h default).count := by
  by_cases hl : h < l.length
  · rw [getD_map usS hl default]; rfl
  · rw [getD_out (by simpa using hl), getD_out hl]
theorem leastTo_sh (l : List DUse) : ∀ k : Nat, Lfu.leastTo (l.map usS) k = Lfu.leastTo l k
  | 0 => rfl
  | k + 1 => by rw [Lfu.leastTo, Lfu.leastTo, leastTo_sh l k, us_count, us_count]
theorem least_sh (l : List DUse) : Lfu.least (l.map usS) = Lfu.least l := by unfold Lfu.least; rw [leastTo_sh, List.length_map]
theorem lf_touch (c : DUses) (k : Int) : (Lfu.touch (lfS c) (sh k)).1 = lfS (Lfu.touch c k).1 ∧ (Lfu.touch (lfS c) (sh k)).2.1 = (Lfu.touch c k).2.1 := by
  have e : Lfu.at_ (lfS c).list (sh k) = Lfu.at_ c.list k := idxF_map usS _ _ (fun x => sh_beq _ _) _
  have e2 : (lfS c).list.length = c.list.length := by simp [lfS]
  have hx := idxF_lt (fun x : DUse => (x.key == k)) c.list
  unfold Lfu.touch
  rw [e, e2]
  by_cases h : 0 ≤ Lfu.at_ c.list k
  · rw [if_pos h, if_pos h]
    have hl : (Lfu.at_ c.list k).toNat < c.list.length := by have h1 := hx.1; have h9 : 0 ≤ idxF (fun x : DUse => (x.key == k)) c.list := h; show (idxF (fun x : DUse => (x.key == k)) c.list).toNat < _; omega
    refine ⟨?_, rfl⟩
    show DUses.mk _ _ = DUses.mk _ _
    rw [DUses.mk.injEq]
    refine ⟨rfl, ?_⟩
    show _ :: (c.list.map usS).eraseIdx _ = _
    rw [eraseIdx_sh, show (lfS c).list.getD (Lfu.at_ c.list k).toNat default = usS (c.list.getD (Lfu.at_ c.list k).toNat default) from getD_map usS hl default default]
    rfl
  · rw [if_neg h, if_neg h]
    have hr : (lfS c).room = c.room := rfl
    rw [hr]
    by_cases h2 : (c.list.length : Int) = c.room
    · rw [if_pos h2, if_pos h2]
      refine ⟨?_, rfl⟩
      show DUses.mk _ _ = DUses.mk _ _
      rw [DUses.mk.injEq]
      refine ⟨rfl, ?_⟩
      show _ :: (c.list.map usS).eraseIdx (Lfu.least (c.list.map usS)) = _
      rw [eraseIdx_sh, least_sh]; rfl
    · rw [if_neg h2, if_neg h2]; exact ⟨rfl, rfl⟩
theorem lf_run : ∀ (l : List Int) (c : DUses) (n : Int), (Lfu.runGo (lfS c) n (l.map sh)).2 = (Lfu.runGo c n l).2
  | [], _, _ => rfl
  | k :: l, c, n => by
    rw [List.map_cons, Lfu.runGo, Lfu.runGo, (lf_touch c k).1, (lf_touch c k).2]
    exact lf_run l _ _
/-! ### the optimal policy -/
theorem idxOf_sh (k : Int) : ∀ l : List Int, (l.map sh).idxOf (sh k) = l.idxOf k
  | [] => rfl
  | x :: l => by
    rw [List.map_cons, List.idxOf_cons, List.idxOf_cons, sh_beq, idxOf_sh k l]
theorem ca_sh (l : List Int) (i : Nat) (k : Int) : Opt.ca (l.map sh) i (sh k) = Opt.ca l i k := by
  unfold Opt.ca; rw [← List.map_drop, idxOf_sh]
theorem later_sh (l : List Int) (i : Nat) (a b : Int) : Opt.later (l.map sh) i (sh a) (sh b) = Opt.later l i a b := by
  unfold Opt.later
  rw [ca_sh, ca_sh]
  have : decide (sh a < sh b) = decide (a < b) := by rw [decide_eq_decide]; unfold sh; omega
  rw [this]
theorem bestTo_le (l : List Int) (i : Nat) (C : List Int) : ∀ k : Nat, Opt.bestTo l i C k ≤ k - 1
  | 0 => Nat.le_refl _
  | k + 1 => by
    rw [Opt.bestTo]
    have := bestTo_le l i C k
    split <;> omega
theorem bestTo_sh (l : List Int) (i : Nat) (C : List Int) : ∀ k : Nat, k ≤ C.length → Opt.bestTo (l.map sh) i (C.map sh) k = Opt.bestTo l i C k
  | 0, _ => rfl
  | k + 1, h => by
    have hb := bestTo_le l i C k
    rw [Opt.bestTo, Opt.bestTo, bestTo_sh l i C k (by omega), getD_map sh (show k < C.length by omega) 0, getD_map sh (show Opt.bestTo l i C k < C.length by omega) 0, later_sh]
theorem step_sh {l : List Int} {i : Nat} (h : i < l.length) (room : Int) (C : List Int) : (Opt.step (l.map sh) room i (C.map sh)).1 = (Opt.step l room i C).1.map sh ∧ (Opt.step (l.map sh) room i (C.map sh)).2.2 = (Opt.step l room i C).2.2 := by
  have e : (l.map sh).getD i 0 = sh (l.getD i 0) := getD_map sh h 0 0
  have eb : Opt.best (l.map sh) i (C.map sh) = Opt.best l i C := by unfold Opt.best; rw [List.length_map]; exact bestTo_sh l i C _ (Nat.le_refl _)
  unfold Opt.step
  rw [e]
  by_cases h1 : l.getD i 0 ∈ C
  · rw [if_pos h1, if_pos (sh_mem.2 h1)]; exact ⟨rfl, rfl⟩
  · rw [if_neg h1, if_neg (fun q => h1 (sh_mem.1 q)), List.length_map]
    by_cases h2 : (C.length : Int) < room
    · rw [if_pos h2, if_pos h2]; exact ⟨by simp, rfl⟩
    · rw [if_neg h2, if_neg h2, eb]
      exact ⟨set_sh sh _ _ _, rfl⟩
theorem go_sh (l : List Int) (room : Int) : ∀ i : Nat, i ≤ l.length → (Opt.go (l.map sh) room i).1 = (Opt.go l room i).1.map sh ∧ (Opt.go (l.map sh) room i).2.2 = (Opt.go l room i).2.2
  | 0, _ => ⟨rfl, rfl⟩
  | i + 1, h => by
    obtain ⟨e1, e2⟩ := go_sh l room i (by omega)
    obtain ⟨s1, s2⟩ := step_sh (l := l) (i := i) (by omega) room (Opt.go l room i).1
    simp only [Opt.go]
    rw [e1, e2, s1, s2]
    exact ⟨rfl, rfl⟩
/-! ### all -/
theorem by_sh {l : List Int} (h : Lru.trace l = 0) (hm : ∀ k ∈ l, k ≠ 1048576) (room k : Int) : by_ (l.map sh) room k = by_ l room k := by
  have ht := sh_trace h hm
  unfold by_
  have a1 : (Lru.run ⟨room, []⟩ (l.map sh)).2 = (Lru.run ⟨room, []⟩ l).2 := by
    have e : Lru.runErr ⟨room, []⟩ (l.map sh) = Lru.runErr ⟨room, []⟩ l := by unfold Lru.runErr; rw [ht, h]
    unfold Lru.run; rw [e]; split
    · exact lru_run l ⟨room, []⟩ 0
    · rfl
  have a2 : (Clock.run ⟨room, 0, []⟩ (l.map sh)).2 = (Clock.run ⟨room, 0, []⟩ l).2 := by
    have e : Clock.runErr ⟨room, 0, []⟩ (l.map sh) = Clock.runErr ⟨room, 0, []⟩ l := by unfold Clock.runErr; rw [ht, h]
    unfold Clock.run; rw [e]; split
    · exact ck_run l ⟨room, 0, []⟩ 0
    · rfl
  have a3 : (Lfu.run ⟨room, []⟩ (l.map sh)).2 = (Lfu.run ⟨room, []⟩ l).2 := by
    have e : Lfu.runErr ⟨room, []⟩ (l.map sh) = Lfu.runErr ⟨room, []⟩ l := by unfold Lfu.runErr; rw [ht, h]
    unfold Lfu.run; rw [e]; split
    · exact lf_run l ⟨room, []⟩ 0
    · rfl
  have a4 : (Seg.run ⟨room.tdiv 2, room - room.tdiv 2, [], []⟩ (l.map sh)).2 = (Seg.run ⟨room.tdiv 2, room - room.tdiv 2, [], []⟩ l).2 := by
    have e : Seg.runErr ⟨room.tdiv 2, room - room.tdiv 2, [], []⟩ (l.map sh) = Seg.runErr ⟨room.tdiv 2, room - room.tdiv 2, [], []⟩ l := by unfold Seg.runErr; rw [ht, h]
    unfold Seg.run; rw [e]; split
    · exact seg_run l ⟨room.tdiv 2, room - room.tdiv 2, [], []⟩ 0
    · rfl
  have a5 : (Opt.ev (l.map sh) room).2 = (Opt.ev l room).2 := by
    have e : Opt.evErr (l.map sh) room = Opt.evErr l room := by unfold Opt.evErr; rw [ht, h]
    unfold Opt.ev; rw [e, List.length_map]; split
    · exact (go_sh l room l.length (Nat.le_refl _)).2
    · rfl
  rw [a1, a2, a3, a4, a5, List.length_map]
theorem hits_sh {l : List Int} (h : Lru.trace l = 0) (hm : ∀ k ∈ l, k ≠ 1048576) (room : Int) : hits (l.map sh) room = hits l room ∧ check (l.map sh) room = check l room := by
  have ht := sh_trace h hm
  have e : check (l.map sh) room = check l room := by unfold check; rw [ht, h]
  refine ⟨?_, e⟩
  unfold hits; rw [e]; split
  · congr 1; funext i; exact by_sh h hm room _
  · rfl
end Go.Sx.Cmp
