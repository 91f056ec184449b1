/- The clock algorithm: the laws. -/
import Derived.Test.YtgjdmnljnimamaaCkLaw
namespace Go.Sx.Clock
theorem md {h i n : Nat} (hh : h < n) (hi : i ≤ n) : (h + i) % n = if h + i < n then h + i else h + i - n := by
  split
  · exact Nat.mod_eq_of_lt (by assumption)
  · rw [Nat.mod_eq_sub_mod (by omega)]; exact Nat.mod_eq_of_lt (by omega)
theorem keysOf_set (l : List DFrame) (i : Nat) (f : DFrame) : keysOf (l.set i f) = (keysOf l).set i f.key := by simp [keysOf, List.map_set]
theorem keysOf_clear {l : List DFrame} {i : Nat} (h : i < l.length) (b : Bool) : keysOf (l.set i ⟨l[i].key, b⟩) = keysOf l := by
  rw [keysOf_set]
  have e : (keysOf l)[i]'(by simpa [keysOf] using h) = l[i].key := by simp [keysOf]
  simp only [← e]; exact List.set_getElem_self _
theorem spin_all {c : DClock} {h : Nat} (hh : h < c.frames.length) : ∀ (f j : Nat) (l : List DFrame), f + j = c.frames.length → (hl : l.length = c.frames.length) → keysOf l = keysOf c.frames →
    (∀ i (hi : j ≤ i ∧ i < c.frames.length), l[(h + i) % c.frames.length]'(by rw [hl]; exact Nat.mod_lt _ (by omega)) = c.frames[(h + i) % c.frames.length]'(Nat.mod_lt _ (by omega))) →
    (∀ i, i < j → (c.frames[(h + i) % c.frames.length]'(Nat.mod_lt _ (by omega))).used = true) →
    ∃ j', j ≤ j' ∧ j' ≤ c.frames.length ∧ (spin f l ((h + j) % c.frames.length)).2 = (h + j') % c.frames.length ∧ keysOf (spin f l ((h + j) % c.frames.length)).1 = keysOf c.frames ∧
      (∀ i, i < j' → (c.frames[(h + i) % c.frames.length]'(Nat.mod_lt _ (by omega))).used = true) ∧ (j' < c.frames.length → (c.frames[(h + j') % c.frames.length]'(Nat.mod_lt _ (by omega))).used = false) := by
  intro f
  induction f with
  | zero => intro j l hf hl hk h1 h2; exact ⟨j, Nat.le_refl _, by omega, rfl, hk, h2, fun h => by omega⟩
  | succ f ih =>
    intro j l hf hl hk h1 h2
    have hlt : (h + j) % c.frames.length < l.length := by rw [hl]; exact Nat.mod_lt _ (by omega)
    have hj := h1 j ⟨Nat.le_refl _, by omega⟩
    cases hu : (l[(h + j) % c.frames.length]'hlt).used
    · rw [spin_stop hlt hu]
      exact ⟨j, Nat.le_refl _, by omega, rfl, hk, h2, fun _ => by rw [← hj]; exact hu⟩
    · rw [spin_step hlt hu, hl, Nat.mod_add_mod, Nat.add_assoc]
      obtain ⟨j', g1, g2⟩ := ih (j + 1) (l.set ((h + j) % c.frames.length) ⟨(l[(h + j) % c.frames.length]'hlt).key, false⟩) (by omega) (by simpa using hl) (by rw [keysOf_clear hlt, hk]) (fun i hi => by
        rw [List.getElem_set_ne (by rw [md hh (by omega), md hh (by omega)]; split <;> split <;> omega)]
        exact h1 i ⟨by omega, hi.2⟩) (fun i hi => by
        by_cases e : i = j
        · subst e; rw [← hj]; exact hu
        · exact h2 i (by omega))
      exact ⟨j', by omega, g2⟩
theorem ok_keys {c : DClock} (h : check c = 0) : (∀ k ∈ keysOf c.frames, Lru.okKey k = true) ∧ (keysOf c.frames).Nodup := by
  unfold check at h
  split at h
  · cases h
  · split at h
    · cases h
    · split at h
      · contradiction
      · rename_i h3; exact Lru.keys_ok.1 (by simpa using h3)
theorem check_of {c : DClock} (h : Ok c) (h1 : ∀ k ∈ keysOf c.frames, Lru.okKey k = true) (h2 : (keysOf c.frames).Nodup) : check c = 0 := by
  obtain ⟨⟨r1, r2⟩, l, a0, a1⟩ := h
  have hk := Lru.keys_ok.2 ⟨h1, h2⟩
  unfold check
  rw [if_neg (by simp [Lru.okRoom]; omega), if_neg (by omega), if_neg (by simpa using hk), if_neg (by omega)]
theorem at_mem {l : List DFrame} {key : Int} (h : at_ l key < 0) : key ∉ keysOf l := by
  rcases idxF_cases (fun f : DFrame => f.key == key) l with ⟨k, hk, e, _⟩ | ⟨_, h1⟩
  · have : at_ l key = k := e
    omega
  · intro hm
    obtain ⟨f, hf, rfl⟩ := List.mem_map.1 hm
    have := h1 f hf
    simp at this
theorem nodup_set {l : List Int} (h : l.Nodup) {a : Int} (ha : a ∉ l) (i : Nat) : (l.set i a).Nodup := by
  refine List.pairwise_iff_getElem.2 fun p q hp hq hpq => ?_
  have hp' : p < l.length := by simpa using hp
  have hq' : q < l.length := by simpa using hq
  have := List.pairwise_iff_getElem.1 h p q hp' hq' hpq
  rw [List.getElem_set, List.getElem_set]
  split <;> split
  · omega
  · exact fun e => ha (e ▸ List.getElem_mem hq')
  · exact fun e => ha (e ▸ List.getElem_mem hp')
  · exact this
theorem mem_set_keys {l : List Int} {a x : Int} {i : Nat} (h : x ∈ l.set i a) : x = a ∨ x ∈ l := by
  rcases List.mem_or_eq_of_mem_set h with h | h
  · exact .inr h
  · exact .inl h
/-- What an eviction is. -/
theorem evict {c : DClock} {key : Int} (h : Ok c) (hn : at_ c.frames key < 0) (h2 : c.room ≤ (c.frames.length : Int)) :
    ∃ (i : Nat) (hi : i < c.frames.length), keysOf (touch c key).1.frames = (keysOf c.frames).set i key ∧ (touch c key).2 = (false, c.frames[i].key) ∧ (touch c key).1.frames.length = c.frames.length ∧ c.frames[i].used = c.frames.all (·.used) := by
  obtain ⟨⟨r1, r2⟩, l, a0, a1⟩ := h
  have hh : c.hand.toNat < c.frames.length := by omega
  obtain ⟨j', _, g1, g2, g3, g4, g5⟩ := spin_all (c := c) hh c.frames.length 0 c.frames rfl rfl rfl (fun _ _ => rfl) (fun i hi => by omega)
  rw [Nat.add_zero, Nat.mod_eq_of_lt hh] at g2 g3
  have hi : (h' : Nat) → h' = (c.hand.toNat + j') % c.frames.length → h' < c.frames.length := fun h' e => by rw [e]; exact Nat.mod_lt _ (by omega)
  have hsl := (spin_len c.frames.length c.frames c.hand.toNat).1
  have htk : touch c key = (⟨c.room, (((spin c.frames.length c.frames c.hand.toNat).2 + 1) % c.frames.length : Nat), (spin c.frames.length c.frames c.hand.toNat).1.set (spin c.frames.length c.frames c.hand.toNat).2 ⟨key, false⟩⟩, false, ((spin c.frames.length c.frames c.hand.toNat).1.getD (spin c.frames.length c.frames c.hand.toNat).2 default).key) := by
    unfold touch; rw [if_neg (by unfold at_ at hn; omega), if_neg (by omega)]
  have hkey : ∀ (l : List DFrame) (i : Nat) (h1 : i < l.length) (h2 : i < c.frames.length), keysOf l = keysOf c.frames → l[i].key = c.frames[i].key := fun l i h1 h2 e => by
    have := congrArg (·[i]?) e
    simpa [keysOf, h1, h2] using this
  generalize hsp : spin c.frames.length c.frames c.hand.toNat = sp at *
  obtain ⟨l', h'⟩ := sp
  simp only at g2 g3 hsl htk
  have hlt := hi h' g2
  refine ⟨h', hlt, ?_, ?_, ?_, ?_⟩
  · rw [htk]; simp only; rw [keysOf_set, g3]
  · rw [htk]; simp only
    have : l'.getD h' default = l'[h']'(by omega) := by simp [List.getD, show h' < l'.length by omega]
    rw [this, hkey l' h' (by omega) hlt g3]
  · rw [htk]; simpa using hsl
  · subst g2
    by_cases hj : j' < c.frames.length
    · rw [g5 hj]
      refine (List.all_eq_false.2 ⟨_, List.getElem_mem hlt, by simp [g5 hj]⟩).symm
    · obtain rfl : j' = c.frames.length := by omega
      have hall : ∀ k (hk : k < c.frames.length), c.frames[k].used = true := fun k hk => by
        have hex : ∃ i, i < c.frames.length ∧ (c.hand.toNat + i) % c.frames.length = k := by
          by_cases hk2 : c.hand.toNat ≤ k
          · exact ⟨k - c.hand.toNat, by omega, by rw [md hh (by omega)]; split <;> omega⟩
          · exact ⟨k + c.frames.length - c.hand.toNat, by omega, by rw [md hh (by omega)]; split <;> omega⟩
        obtain ⟨i, hi1, hi2⟩ := hex
        have := g4 i hi1
        simp only [hi2] at this
        exact this
      rw [hall _ hlt]
      refine (List.all_eq_true.2 fun f hf => ?_).symm
      obtain ⟨k, hk, rfl⟩ := List.getElem_of_mem hf
      exact hall k hk
theorem check_touch {c : DClock} {key : Int} (h : check c = 0) (hk : Lru.okKey key = true) : check (touch c key).1 = 0 := by
  have ho := ok_of h
  obtain ⟨k1, k2⟩ := ok_keys h
  have hot := ho.touch key
  by_cases h1 : 0 ≤ at_ c.frames key
  · have e : keysOf (touch c key).1.frames = keysOf c.frames := by rw [touch_hit h1]; exact keysOf_clear _ true
    exact check_of hot (by rw [e]; exact k1) (by rw [e]; exact k2)
  · have hm := at_mem (l := c.frames) (key := key) (by omega)
    by_cases h2 : (c.frames.length : Int) < c.room
    · have e : keysOf (touch c key).1.frames = keysOf c.frames ++ [key] := by rw [touch_room (by omega) h2]; simp [keysOf]
      refine check_of hot (by rw [e]; intro k hkm; rcases List.mem_append.1 hkm with h | h; exact k1 k h; rw [List.mem_singleton.1 h]; exact hk) ?_
      rw [e]
      refine List.nodup_append.2 ⟨k2, by simp, fun a ha b hb => ?_⟩
      rw [List.mem_singleton.1 hb]; exact fun e => hm (e ▸ ha)
    · obtain ⟨i, hi, e, _⟩ := evict (key := key) ho (by omega) (by omega)
      refine check_of hot (by rw [e]; intro k hkm; rcases mem_set_keys hkm with h | h; rw [h]; exact hk; exact k1 k h) (by rw [e]; exact nodup_set k2 hm i)
theorem count_one {l : List Int} {a : Int} (h : l.Nodup) (ha : a ∈ l) : l.count a = 1 := by
  induction l with
  | nil => cases ha
  | cons b l ih =>
    rw [List.nodup_cons] at h
    by_cases e : b = a
    · subst e; rw [List.count_cons_self, List.count_eq_zero_of_not_mem h.1]
    · rw [List.count_cons_of_ne e]
      exact ih h.2 ((List.mem_cons.1 ha).resolve_left (fun x => e x.symm))
def usedAt (g : Int) (u : Bool) (f : DFrame) : Bool := if f.key = g then f.used else u
theorem foldl_other {g : Int} {l : List DFrame} (h : g ∉ keysOf l) (b : Bool) : l.foldl (usedAt g) b = b := by
  induction l generalizing b with
  | nil => rfl
  | cons f l ih =>
    simp only [keysOf, List.map_cons, List.mem_cons, not_or] at h
    rw [List.foldl_cons, usedAt, if_neg (fun e => h.1 e.symm)]
    exact ih h.2 b
theorem foldl_at {l : List DFrame} {i : Nat} (hi : i < l.length) (hn : (keysOf l).Nodup) (b : Bool) : l.foldl (usedAt l[i].key) b = l[i].used := by
  induction l generalizing i b with
  | nil => simp at hi
  | cons f l ih =>
    simp only [keysOf, List.map_cons, List.nodup_cons] at hn
    cases i with
    | zero =>
      rw [List.foldl_cons]
      simp only [List.getElem_cons_zero, usedAt, if_true]
      exact foldl_other hn.1 _
    | succ i =>
      have hi' : i < l.length := by simpa using hi
      rw [List.foldl_cons]
      simp only [List.getElem_cons_succ]
      exact ih hi' hn.2 _
theorem acc_err {c : DClock} {key : Int} (h : accessErr c key = 0) : check c = 0 ∧ Lru.okKey key = true ∧ access c key = touch c key := by
  rcases acc_cases c key with ⟨a, b, d⟩ | ⟨a, a2, b, d⟩ | ⟨a, a2, b, d⟩
  · omega
  · omega
  · exact ⟨a, by simp [Lru.okKey]; omega, b⟩
theorem spares_check {c : DClock} {key : Int} (h : accessErr c key = 0) : check (access c key).1 = 0 := by
  obtain ⟨h1, h2, h3⟩ := acc_err h
  rw [h3]; exact check_touch h1 h2
theorem spares {c : DClock} {key : Int} (h : accessErr c key = 0) (hh : (access c key).2.1 = false) (hg : 0 ≤ (access c key).2.2) :
    (∀ i (hi : i < (access c key).1.frames.length), (access c key).1.frames[i].key ≠ (access c key).2.2) ∧ c.frames.foldl (usedAt (access c key).2.2) false = c.frames.all (·.used) ∧
    (access c key).1.frames.countP (fun f => f.key == key) = 1 ∧ ((access c key).1.frames.length : Int) = c.room ∧ check (access c key).1 = 0 := by
  have hc := spares_check h
  obtain ⟨h1, h2, h3⟩ := acc_err h
  rw [h3] at hh hg hc ⊢
  have ho := ok_of h1
  obtain ⟨k1, k2⟩ := ok_keys h1
  by_cases q1 : 0 ≤ at_ c.frames key
  · rw [touch_hit q1] at hh; cases hh
  · by_cases q2 : (c.frames.length : Int) < c.room
    · rw [touch_room (by omega) q2] at hg; simp at hg
    · obtain ⟨i, hi, e1, e2, e3, e4⟩ := evict (key := key) ho (by omega) (by omega)
      have hm := at_mem (l := c.frames) (key := key) (by omega)
      have hr := ho.len
      have eg : (touch c key).2.2 = c.frames[i].key := by rw [e2]
      have hik : (keysOf c.frames)[i]'(by simpa [keysOf] using hi) = c.frames[i].key := by simp [keysOf]
      refine ⟨fun p hp hpe => ?_, by rw [eg, foldl_at hi k2, e4], ?_, by omega, hc⟩
      · have hp' : p < (keysOf c.frames).length := by simp [keysOf]; omega
        have hpk : ((keysOf c.frames).set i key)[p]'(by simpa using hp') = c.frames[i].key := by
          have h4 : (keysOf (touch c key).1.frames)[p]'(by simpa [keysOf] using hp) = (touch c key).1.frames[p].key := by simp [keysOf]
          have h5 : (keysOf (touch c key).1.frames)[p]? = ((keysOf c.frames).set i key)[p]? := by rw [e1]
          rw [List.getElem?_eq_getElem (by simpa [keysOf] using hp), List.getElem?_eq_getElem (by simpa using hp'), Option.some.injEq] at h5
          rw [← h5, h4, hpe, eg]
        rw [List.getElem_set] at hpk
        split at hpk
        · exact hm (by rw [hpk, ← hik]; exact List.getElem_mem _)
        · rename_i hne
          rw [← hik] at hpk
          have hnd := List.pairwise_iff_getElem.1 k2
          rcases Nat.lt_or_gt_of_ne hne with hl | hl
          · exact hnd i p (by simpa [keysOf] using hi) hp' hl hpk.symm
          · exact hnd p i hp' (by simpa [keysOf] using hi) hl hpk
      · have hcount : (touch c key).1.frames.countP (fun f => f.key == key) = (keysOf (touch c key).1.frames).count key := by
          unfold keysOf List.count; rw [List.countP_map]; rfl
        rw [hcount, e1]
        exact count_one (nodup_set k2 hm i) (List.mem_set (by simpa [keysOf] using hi) key)
/-! ### In two parts -/
theorem runGo_shift (l : List Int) : ∀ (c : DClock) (n : Int), runGo c n l = ((runGo c 0 l).1, n + (runGo c 0 l).2) := by
  induction l with
  | nil => intro c n; simp [runGo]
  | cons k l ih =>
    intro c n
    rw [runGo, runGo, ih, ih (touch c k).1 (if (touch c k).2.1 then 0 + 1 else 0)]
    split <;> simp [Int.add_assoc]
theorem runGo_append (l m : List Int) : ∀ (c : DClock) (n : Int), runGo c n (l ++ m) = runGo (runGo c n l).1 (runGo c n l).2 m := by
  induction l with
  | nil => intro c n; rfl
  | cons k l ih => intro c n; rw [List.cons_append, runGo, ih, runGo]
theorem check_run (l : List Int) : ∀ (c : DClock) (n : Int), check c = 0 → (∀ k ∈ l, Lru.okKey k = true) → check (runGo c n l).1 = 0 := by
  induction l with
  | nil => intro c n h _; exact h
  | cons k l ih => intro c n h hk; rw [runGo]; exact ih _ _ (check_touch h (hk k (by simp))) (fun j hj => hk j (by simp [hj]))
theorem run_n (l : List Int) : ∀ (c : DClock), 0 ≤ (runGo c 0 l).2 ∧ (runGo c 0 l).2 ≤ l.length := by
  induction l with
  | nil => intro c; simp [runGo]
  | cons k l ih =>
    intro c
    rw [runGo, runGo_shift]
    have := ih (touch c k).1
    split <;> simp <;> omega
theorem run_err {c : DClock} {l : List Int} (h : runErr c l = 0) : check c = 0 ∧ Lru.trace l = 0 ∧ run c l = runGo c 0 l := by
  rcases run_cases c l with ⟨a, b, d⟩ | ⟨a, a2, b, d⟩ | ⟨a, a2, b, d⟩
  · omega
  · omega
  · exact ⟨a, a2, b⟩
theorem run_no {c : DClock} {l : List Int} (h : runErr c l ≠ 0) : run c l = (zero, 0) := by
  rcases run_cases c l with ⟨a, b, d⟩ | ⟨a, a2, b, d⟩ | ⟨a, a2, b, d⟩
  · exact b
  · exact b
  · exact absurd d h
theorem parts_err {c : DClock} {l m : List Int} (h : runErr c l = 0) (h2 : runErr (run c l).1 m ≠ 0 ∨ runErr c (l ++ m) ≠ 0) : runErr (run c l).1 m = runErr c (l ++ m) ∨ runErr c (l ++ m) = 2 := by
  obtain ⟨a1, a2, a3⟩ := run_err h
  obtain ⟨t1, t2⟩ := Lru.trace_ok.1 a2
  have hc := check_run l c 0 a1 t2
  rw [a3] at h2 ⊢
  have e1 : runErr (runGo c 0 l).1 m = Lru.trace m := by unfold runErr; rw [if_pos hc]
  have e2 : runErr c (l ++ m) = Lru.trace (l ++ m) := by unfold runErr; rw [if_pos a1]
  rw [e1, e2]
  by_cases g : 200 < (l ++ m).length
  · right; unfold Lru.trace; rw [if_pos g]
  · left
    have g2 : ¬ 200 < m.length := by rw [List.length_append] at g; omega
    have g3 : (l ++ m).any (fun k => !Lru.okKey k) = m.any (fun k => !Lru.okKey k) := by
      have : l.any (fun k => !Lru.okKey k) = false := List.any_eq_false.2 fun k hk => by simp [t2 k hk]
      rw [List.any_append, this, Bool.false_or]
    unfold Lru.trace; rw [if_neg g, if_neg g2, g3]
theorem parts_ok {c : DClock} {l m : List Int} (h : runErr c l = 0) (h2 : runErr (run c l).1 m = 0) (h3 : runErr c (l ++ m) = 0) :
    (run (run c l).1 m).1 = (run c (l ++ m)).1 ∧ (run c (l ++ m)).2 = (run c l).2 + (run (run c l).1 m).2 ∧ 0 ≤ (run c l).2 ∧ (run c l).2 ≤ 200 ∧ 0 ≤ (run (run c l).1 m).2 ∧ (run (run c l).1 m).2 ≤ 200 := by
  obtain ⟨a1, a2, a3⟩ := run_err h
  obtain ⟨b1, b2, b3⟩ := run_err h2
  obtain ⟨c1, c2, c3⟩ := run_err h3
  have n1 := run_n l c
  have n2 := run_n m (run c l).1
  have t1 := (Lru.trace_ok.1 a2).1
  have t2 := (Lru.trace_ok.1 b2).1
  have e := runGo_append l m c 0
  rw [runGo_shift m] at e
  rw [b3, c3, e, a3] at *
  exact ⟨rfl, rfl, by omega, by omega, by omega, by omega⟩
theorem parts_bool {c : DClock} {l m : List Int} (h : runErr c l = 0) (h2 : runErr (run c l).1 m = 0) (h3 : runErr c ([] ++ l ++ m) = 0) :
    (decide ((run (run c l).1 m).1 = (run c ([] ++ l ++ m)).1) && ((run c ([] ++ l ++ m)).2 == IntKind.i64.wrap ((run c l).2 + (run (run c l).1 m).2))) = true := by
  obtain ⟨p1, p2, p3, p4, p5, p6⟩ := parts_ok (l := l) h h2 h3
  rw [wrap_i64 (by omega)]
  simp only [List.nil_append]
  simp [p1, p2]
theorem parts_bool2 {c : DClock} {l m : List Int} (h : runErr c l = 0) (h2 : runErr (run c l).1 m ≠ 0 ∨ runErr c ([] ++ l ++ m) ≠ 0) : (runErr (run c l).1 m == runErr c ([] ++ l ++ m) || runErr c ([] ++ l ++ m) == 2) = true := by
  rcases parts_err (l := l) h h2 with e | e
  · simp only [List.nil_append]; simp [e]
  · simp only [List.nil_append]; simp [e]
theorem parts_bool3 {c : DClock} {l : List Int} (h : runErr c l ≠ 0) : ((run c l).2 == 0 && (((run c l).1.frames.length : Int) == 0)) = true := by rw [run_no h]; rfl
theorem run_small {c : DClock} {l : List Int} (h : runErr c l = 0) : l.length ≤ 200 := (Lru.trace_ok.1 (run_err h).2.1).1
theorem spares_bool {c : DClock} {key : Int} : (accessErr c key != 0 || check (access c key).1 == 0) = true := by
  by_cases h : accessErr c key = 0
  · simp [spares_check h]
  · simp [h]
structure SpInv (c : DClock) (g : Int) (all_ used_ : Bool) (i : Nat) : Prop where
  le : i ≤ c.frames.length
  al : all_ = (c.frames.take i).all (·.used)
  us : used_ = (c.frames.take i).foldl (usedAt g) false
theorem SpInv.start (c : DClock) (g : Int) : SpInv c g true false 0 := ⟨Nat.zero_le _, rfl, rfl⟩
theorem SpInv.hit {c : DClock} {g : Int} {a u : Bool} {i : Nat} (h : SpInv c g a u i) (hi : i < c.frames.length) (hk : c.frames[i].key = g) : SpInv c g (a && c.frames[i].used) c.frames[i].used (i + 1) :=
  ⟨hi, by rw [List.take_succ_eq_append_getElem hi, List.all_append, ← h.al]; simp, by rw [List.take_succ_eq_append_getElem hi, List.foldl_append, ← h.us]; simp [usedAt, hk]⟩
theorem SpInv.miss {c : DClock} {g : Int} {a u : Bool} {i : Nat} (h : SpInv c g a u i) (hi : i < c.frames.length) (hk : c.frames[i].key ≠ g) : SpInv c g (a && c.frames[i].used) u (i + 1) :=
  ⟨hi, by rw [List.take_succ_eq_append_getElem hi, List.all_append, ← h.al]; simp, by rw [List.take_succ_eq_append_getElem hi, List.foldl_append, ← h.us]; simp [usedAt, hk]⟩
structure SqInv (l : List DFrame) (key : Int) (left : Int) (i : Nat) : Prop where
  le : i ≤ l.length
  eq : left = ((l.take i).countP (fun f => f.key == key) : Nat)
theorem SqInv.start (l : List DFrame) (key : Int) : SqInv l key 0 0 := ⟨Nat.zero_le _, rfl⟩
theorem SqInv.bd {l : List DFrame} {key left : Int} {i : Nat} (h : SqInv l key left i) : 0 ≤ left ∧ left ≤ i := by
  rw [h.eq]; have := List.countP_le_length (p := fun f : DFrame => f.key == key) (l := l.take i); have := List.length_take_le i l; omega
theorem SqInv.hit {l : List DFrame} {key left : Int} {i : Nat} (h : SqInv l key left i) (hi : i < l.length) (hk : l[i].key = key) : SqInv l key (left + 1) (i + 1) :=
  ⟨hi, by rw [List.take_succ_eq_append_getElem hi, List.countP_append, h.eq]; simp [hk]⟩
theorem SqInv.miss {l : List DFrame} {key left : Int} {i : Nat} (h : SqInv l key left i) (hi : i < l.length) (hk : l[i].key ≠ key) : SqInv l key left (i + 1) :=
  ⟨hi, by rw [List.take_succ_eq_append_getElem hi, List.countP_append, h.eq]; simp [hk]⟩
theorem spares_end {c : DClock} {key : Int} {a u : Bool} {left : Int} {i j : Nat} (h : accessErr c key = 0) (hh : (access c key).2.1 = false) (hg : 0 ≤ (access c key).2.2) (h1 : SpInv c (access c key).2.2 a u i) (hi : (c.frames.length : Int) ≤ i)
    (h2 : SqInv (access c key).1.frames key left j) (hj : ((access c key).1.frames.length : Int) ≤ j) : ((((u == a) && (left == 1)) && (((access c key).1.frames.length : Int) == c.room)) && (check (access c key).1 == 0)) = true := by
  obtain ⟨s1, s2, s3, s4, s5⟩ := spares h hh hg
  have ea := h1.al; have eu := h1.us; have el := h2.eq
  rw [List.take_of_length_le (by omega)] at ea eu el
  rw [ea, eu, el, s2, s3, s4, s5]
  simp
end Go.Sx.Clock
