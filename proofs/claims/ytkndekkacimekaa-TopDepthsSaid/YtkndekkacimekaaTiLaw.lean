/- Two-level caches: access and run, the loops of the reference, the laws. -/
import Derived.Test.YtkndekkacimekaaTiPure
namespace Go.Sx.Tier
open Lru (okKey trace)
theorem acc_cases (c : DTiers) (key : Int) : (check c ≠ 0 ∧ access c key = (zero, 0, 0) ∧ accessErr c key = check c) ∨ (check c = 0 ∧ okKey key = false ∧ access c key = (zero, 0, 0) ∧ accessErr c key = 3) ∨ (check c = 0 ∧ okKey key = true ∧ access c key = touch c key ∧ accessErr c key = 0) := by
  unfold access
  by_cases hc : check c = 0
  · cases hr : okKey key
    · have e : accessErr c key = 3 := by unfold accessErr; rw [if_pos hc, if_neg (by simp [hr])]
      exact .inr (.inl ⟨hc, rfl, by rw [e]; rfl, e⟩)
    · have e : accessErr c key = 0 := by unfold accessErr; rw [if_pos hc, if_pos hr]
      exact .inr (.inr ⟨hc, rfl, by rw [if_pos e], e⟩)
  · have e : accessErr c key = check c := by unfold accessErr; rw [if_neg hc]
    exact .inl ⟨hc, by rw [e, if_neg hc], e⟩
theorem acc1 {c : DTiers} {key : Int} (e : check c ≠ 0) : access c key = (zero, 0, 0) ∧ accessErr c key = check c := by
  rcases acc_cases c key with ⟨_, b⟩ | ⟨a, _⟩ | ⟨a, _⟩ <;> first | exact b | exact absurd a e
theorem acc2 {c : DTiers} {key : Int} (e : check c = 0) (h : okKey key = false) : access c key = (zero, 0, 0) ∧ accessErr c key = 3 := by
  rcases acc_cases c key with ⟨a, _⟩ | ⟨_, _, b⟩ | ⟨_, a, _⟩ <;> first | exact b | exact absurd e a | (rw [h] at a; cases a)
theorem acc3 {c : DTiers} {key : Int} (e : check c = 0) (h : okKey key = true) : access c key = touch c key ∧ accessErr c key = 0 := by
  rcases acc_cases c key with ⟨a, _⟩ | ⟨_, a, _⟩ | ⟨_, _, b⟩ <;> first | exact b | exact absurd e a | (rw [h] at a; cases a)
theorem acc_ok {c : DTiers} {key : Int} (e : accessErr c key = 0) : check c = 0 ∧ okKey key = true ∧ access c key = touch c key := by
  rcases acc_cases c key with ⟨a, _, b⟩ | ⟨_, _, _, b⟩ | ⟨a, b, d, _⟩ <;> first | exact ⟨a, b, d⟩ | omega
theorem acc_bad {c : DTiers} {key : Int} (e : accessErr c key ≠ 0) : access c key = (zero, 0, 0) := if_neg e
theorem run_cases (c : DTiers) (l : List Int) : (check c ≠ 0 ∧ run c l = (zero, 0, 0) ∧ runErr c l = check c) ∨ (check c = 0 ∧ trace l ≠ 0 ∧ run c l = (zero, 0, 0) ∧ runErr c l = trace l) ∨ (check c = 0 ∧ trace l = 0 ∧ run c l = runGo c 0 0 l ∧ runErr c l = 0) := by
  unfold run
  by_cases hc : check c = 0
  · have e : runErr c l = trace l := by unfold runErr; rw [if_pos hc]
    by_cases ht : trace l = 0
    · exact .inr (.inr ⟨hc, ht, by rw [e, if_pos ht], e.trans ht⟩)
    · exact .inr (.inl ⟨hc, ht, by rw [e, if_neg ht], e⟩)
  · have e : runErr c l = check c := by unfold runErr; rw [if_neg hc]
    exact .inl ⟨hc, by rw [e, if_neg hc], e⟩
theorem run1 {c : DTiers} {l : List Int} (e : check c ≠ 0) : run c l = (zero, 0, 0) ∧ runErr c l = check c := by
  rcases run_cases c l with ⟨_, b⟩ | ⟨a, _⟩ | ⟨a, _⟩ <;> first | exact b | exact absurd a e
theorem run2 {c : DTiers} {l : List Int} (e : check c = 0) (e2 : trace l ≠ 0) : run c l = (zero, 0, 0) ∧ runErr c l = trace l := by
  rcases run_cases c l with ⟨a, _⟩ | ⟨_, _, b⟩ | ⟨_, a, _⟩ <;> first | exact b | exact absurd e a | exact absurd a e2
theorem run3 {c : DTiers} {l : List Int} (e : check c = 0) (e2 : trace l = 0) : run c l = runGo c 0 0 l ∧ runErr c l = 0 := by
  rcases run_cases c l with ⟨a, _⟩ | ⟨_, a, _⟩ | ⟨_, _, b⟩ <;> first | exact b | exact absurd e a | exact absurd e2 a
theorem run_bad {c : DTiers} {l : List Int} (e : runErr c l ≠ 0) : run c l = (zero, 0, 0) := if_neg e
theorem run_ok {c : DTiers} {l : List Int} (e : runErr c l = 0) : check c = 0 ∧ trace l = 0 ∧ run c l = runGo c 0 0 l := by
  rcases run_cases c l with ⟨a, _, b⟩ | ⟨_, a, _, b⟩ | ⟨a, b, d, _⟩ <;> first | exact ⟨a, b, d⟩ | omega
theorem merged1 {t : DTiers} (h : check t ≠ 0) : merged t = ⟨0, []⟩ := if_neg h
theorem merged2 {t : DTiers} (h : check t = 0) : merged t = ⟨t.near + t.far, t.first ++ t.rest⟩ := if_pos h
/-! ### pushing -/
theorem push_all {l : List Int} {key room : Int} (h : (l.length : Int) + 1 ≤ room) : key :: l = push l key room ∧ -1 = over l key room := by
  refine ⟨?_, (over_none h).symm⟩
  unfold push; rw [List.take_of_length_le (by simp only [List.length_cons]; omega)]
theorem over_at {l : List Int} {key room : Int} (h : room.toNat < (key :: l).length) : (key :: l)[room.toNat] = over l key room := by
  unfold over; rw [List.getD_eq_getElem?_getD, List.getElem?_eq_getElem h]; rfl
theorem ins0 (l : List Int) (k : Int) : l.take (0 : Int).toNat ++ [k] ++ l.drop (0 : Int).toNat = k :: l := rfl
/-! ### the check, in the order of the program -/
theorem chk1 {t : DTiers} (h : okRoom t.near = false ∨ okRoom t.far = false) : 3 = check t := by unfold check; rw [if_pos h]
theorem chk2 {t : DTiers} (h1 : okRoom t.near = true ∧ okRoom t.far = true) (h : t.near < (t.first.length : Int) ∨ t.far < (t.rest.length : Int)) : 2 = check t := by
  unfold check; rw [if_neg (by simp [h1]), if_pos h]
theorem chk3 {t : DTiers} (h1 : okRoom t.near = true ∧ okRoom t.far = true) (h2 : (t.first.length : Int) ≤ t.near ∧ (t.rest.length : Int) ≤ t.far) (h : Lru.keys (t.first ++ t.rest) ≠ 0) : Lru.keys (t.first ++ t.rest) = check t := by
  unfold check; rw [if_neg (by simp [h1]), if_neg (by omega), if_pos h]
theorem chk4 {t : DTiers} (h1 : okRoom t.near = true ∧ okRoom t.far = true) (h2 : (t.first.length : Int) ≤ t.near ∧ (t.rest.length : Int) ≤ t.far) (h3 : Lru.keys (t.first ++ t.rest) = 0) (h : 0 < (t.rest.length : Int) ∧ (t.first.length : Int) < t.near) : 4 = check t := by
  unfold check; rw [if_neg (by simp [h1]), if_neg (by omega), if_neg (fun h => h h3), if_pos h]
theorem chk5 {t : DTiers} (h1 : okRoom t.near = true ∧ okRoom t.far = true) (h2 : (t.first.length : Int) ≤ t.near ∧ (t.rest.length : Int) ≤ t.far) (h3 : Lru.keys (t.first ++ t.rest) = 0) (h : ¬ (0 < (t.rest.length : Int) ∧ (t.first.length : Int) < t.near)) : 0 = check t := by
  unfold check; rw [if_neg (by simp [h1]), if_neg (by omega), if_neg (fun h => h h3), if_neg h]
theorem room_bd {n : Int} (h : okRoom n = true) : 1 ≤ n ∧ n ≤ 20 := by simpa [okRoom] using h
theorem between_room (n : Int) : Ref.between n 1 20 = okRoom n := rfl
/-! ### run -/
structure RInv (c cc : DTiers) (l : List Int) (n m : Int) (k : Nat) : Prop where
  ok : Ok cc
  keys : ∀ x ∈ l, okKey x = true
  n0 : 0 ≤ n ∧ n ≤ k
  m0 : 0 ≤ m ∧ m ≤ k
  le : k ≤ l.length
  go : runGo cc n m (l.drop k) = runGo c 0 0 l
theorem RInv.start {c : DTiers} {l : List Int} (h : Ok c) (hk : ∀ x ∈ l, okKey x = true) : RInv c c l 0 0 0 := ⟨h, hk, ⟨Int.le_refl _, Int.le_refl _⟩, ⟨Int.le_refl _, Int.le_refl _⟩, Nat.zero_le _, rfl⟩
theorem RInv.next {c cc : DTiers} {l : List Int} {n m : Int} {k : Nat} (h : RInv c cc l n m k) (hk : k < l.length) {n' m' : Int} (hn : n' = if place cc l[k] = 1 then n + 1 else n) (hm : m' = if place cc l[k] = 2 then m + 1 else m) : RInv c (touch cc l[k]).1 l n' m' (k + 1) := by
  have h0 := h.n0; have h1 := h.m0
  refine ⟨h.ok.touch (h.keys _ (List.getElem_mem hk)), h.keys, by rw [hn]; split <;> omega, by rw [hm]; split <;> omega, by omega, ?_⟩
  rw [← h.go, List.drop_eq_getElem_cons hk, runGo, hn, hm]
theorem RInv.zero {c cc : DTiers} {l : List Int} {n m : Int} {k : Nat} (h : RInv c cc l n m k) (hk : k < l.length) (e : place cc l[k] = 0) : RInv c (touch cc l[k]).1 l n m (k + 1) := h.next hk (by rw [e]; rfl) (by rw [e]; rfl)
theorem RInv.one {c cc : DTiers} {l : List Int} {n m : Int} {k : Nat} (h : RInv c cc l n m k) (hk : k < l.length) (e : place cc l[k] = 1) : RInv c (touch cc l[k]).1 l (n + 1) m (k + 1) := h.next hk (by rw [e]; rfl) (by rw [e]; rfl)
theorem RInv.two {c cc : DTiers} {l : List Int} {n m : Int} {k : Nat} (h : RInv c cc l n m k) (hk : k < l.length) (e : place cc l[k] = 2) : RInv c (touch cc l[k]).1 l n (m + 1) (k + 1) := h.next hk (by rw [e]; rfl) (by rw [e]; rfl)
theorem RInv.done {c cc : DTiers} {l : List Int} {n m : Int} {k : Nat} (h : RInv c cc l n m k) (hk : l.length ≤ k) : runGo c 0 0 l = (cc, n, m) := by
  rw [← h.go, List.drop_of_length_le hk]; rfl
theorem Ok.runGo {l : List Int} : ∀ {c : DTiers} {n m : Int}, Ok c → (∀ x ∈ l, okKey x = true) → Ok (runGo c n m l).1 := by
  induction l with
  | nil => intro c n m h _; exact h
  | cons k l ih => intro c n m h hk; exact ih (h.touch (hk k (by simp))) (fun x hx => hk x (by simp [hx]))
theorem run_bd {l : List Int} : ∀ {c : DTiers} {n m : Int}, n ≤ (runGo c n m l).2.1 ∧ (runGo c n m l).2.1 ≤ n + l.length ∧ m ≤ (runGo c n m l).2.2 ∧ (runGo c n m l).2.2 ≤ m + l.length := by
  induction l with
  | nil => intro c n m; simp [Tier.runGo]
  | cons k l ih =>
    intro c n m
    have := ih (c := (touch c k).1) (n := if place c k = 1 then n + 1 else n) (m := if place c k = 2 then m + 1 else m)
    simp only [Tier.runGo, List.length_cons]
    generalize hn : (if place c k = 1 then n + 1 else n) = n' at this ⊢
    generalize hm : (if place c k = 2 then m + 1 else m) = m' at this ⊢
    have h1 : n ≤ n' ∧ n' ≤ n + 1 := by rw [← hn]; split <;> omega
    have h2 : m ≤ m' ∧ m' ≤ m + 1 := by rw [← hm]; split <;> omega
    omega
theorem whole_run {l : List Int} : ∀ {t : DTiers} {n m : Int}, Ok t → (∀ x ∈ l, okKey x = true) → Lru.runGo (whole t) (n + m) l = (whole (runGo t n m l).1, (runGo t n m l).2.1 + (runGo t n m l).2.2) := by
  induction l with
  | nil => intro t n m _ _; rfl
  | cons k l ih =>
    intro t n m h hk
    rw [Lru.runGo, ← whole_touch h (hk k (by simp)), whole_hit, Tier.runGo, ← ih (h.touch (hk k (by simp))) (fun x hx => hk x (by simp [hx]))]
    congr 1
    rcases place_is t k with e | e | e <;> simp [e] <;> omega
theorem near_run {l : List Int} : ∀ {t : DTiers} {n m : Int}, Lru.runGo ⟨t.near, t.first⟩ n l = (⟨t.near, (runGo t n m l).1.first⟩, (runGo t n m l).2.1) := by
  induction l with
  | nil => intro t n m; rfl
  | cons k l ih =>
    intro t n m
    have h := ih (t := (touch t k).1) (n := if place t k = 1 then n + 1 else n) (m := if place t k = 2 then m + 1 else m)
    have e : (Lru.touch ⟨t.near, t.first⟩ k).2.1 = decide (place t k = 1) := near_hit t k
    rw [Lru.runGo, Tier.runGo, e]
    refine Eq.trans ?_ h
    show Lru.runGo ⟨t.near, near_ t k⟩ _ l = Lru.runGo ⟨t.near, near_ t k⟩ _ l
    congr 1
    by_cases e2 : place t k = 1 <;> simp [e2]
theorem run_room {l : List Int} : ∀ {t : DTiers} {n m : Int}, (runGo t n m l).1.near = t.near ∧ (runGo t n m l).1.far = t.far := by
  induction l with
  | nil => intro t n m; exact ⟨rfl, rfl⟩
  | cons k l ih => intro t n m; rw [Tier.runGo]; exact ih
/-! ### the reference's touch -/
structure FI (t : DTiers) (key : Int) (f : List Int) (i : Nat) : Prop where
  le : i ≤ t.first.length
  eq : f = key :: (t.first.take i).filter fun x => !(x == key)
theorem FI.start (t : DTiers) (key : Int) : FI t key [key] 0 := ⟨Nat.zero_le _, by simp⟩
theorem FI.add {t : DTiers} {key : Int} {f : List Int} {i : Nat} (h : FI t key f i) (hi : i < t.first.length) (hx : t.first[i] ≠ key) : FI t key (f ++ [t.first[i]]) (i + 1) := ⟨by omega, by rw [Lru.filt_snoc hi hx, h.eq]; simp⟩
theorem filt_skip {l : List Int} {key : Int} {i : Nat} (hi : i < l.length) (hx : l[i] = key) : (l.take (i + 1)).filter (fun x => !(x == key)) = (l.take i).filter fun x => !(x == key) := by
  rw [List.take_succ_eq_append_getElem hi, List.filter_append]; simp [hx]
theorem FI.skip {t : DTiers} {key : Int} {f : List Int} {i : Nat} (h : FI t key f i) (hi : i < t.first.length) (hx : t.first[i] = key) : FI t key f (i + 1) := ⟨by omega, by rw [filt_skip hi hx]; exact h.eq⟩
theorem FI.len {t : DTiers} {key : Int} {f : List Int} {i : Nat} (h : FI t key f i) : 1 ≤ f.length ∧ f.length ≤ i + 1 := by
  rw [h.eq]; have := List.length_filter_le (fun x => !(x == key)) (t.first.take i); simp only [List.length_take] at this; simp only [List.length_cons]; omega
theorem FI.done {t : DTiers} {key : Int} {f : List Int} {i : Nat} (h : FI t key f i) (ho : Ok t) (hi : t.first.length ≤ i) : f = key :: t.first.erase key := by
  rw [h.eq, List.take_of_length_le hi, Lru.filter_erase ho.parts.1]
def pre (t : DTiers) (f : List Int) : List Int := if t.near < (f.length : Int) then [f.getD t.near.toNat (-1)] else []
structure GI (t : DTiers) (key : Int) (f r : List Int) (i : Nat) : Prop where
  le : i ≤ t.rest.length
  eq : r = pre t f ++ (t.rest.take i).filter fun x => !(x == key)
theorem GI.start1 {t : DTiers} {key : Int} {f : List Int} (h : t.near < (f.length : Int)) {j : Nat} (hj : j < f.length) (ej : j = t.near.toNat) : GI t key f [f[j]] 0 := ⟨Nat.zero_le _, by subst ej; unfold pre; rw [if_pos h, List.getD_eq_getElem?_getD, List.getElem?_eq_getElem hj]; simp⟩
theorem GI.start2 {t : DTiers} {key : Int} {f : List Int} (h : (f.length : Int) ≤ t.near) : GI t key f [] 0 := ⟨Nat.zero_le _, by unfold pre; rw [if_neg (by omega)]; simp⟩
theorem GI.add {t : DTiers} {key : Int} {f r : List Int} {i : Nat} (h : GI t key f r i) (hi : i < t.rest.length) (hx : t.rest[i] ≠ key) : GI t key f (r ++ [t.rest[i]]) (i + 1) := ⟨by omega, by rw [Lru.filt_snoc hi hx, h.eq]; simp⟩
theorem GI.skip {t : DTiers} {key : Int} {f r : List Int} {i : Nat} (h : GI t key f r i) (hi : i < t.rest.length) (hx : t.rest[i] = key) : GI t key f r (i + 1) := ⟨by omega, by rw [filt_skip hi hx]; exact h.eq⟩
theorem GI.len {t : DTiers} {key : Int} {f r : List Int} {i : Nat} (h : GI t key f r i) : r.length ≤ i + 1 := by
  rw [h.eq, List.length_append]; have := List.length_filter_le (fun x => !(x == key)) (t.rest.take i); simp only [List.length_take] at this
  have h2 : (pre t f).length ≤ 1 := by unfold pre; split <;> simp
  omega
/-- what the reference's lists are at the end -/
theorem fin {t : DTiers} {key : Int} {f r : List Int} {i : Nat} (ho : Ok t) (hk : okKey key = true) (hf : f = key :: t.first.erase key) (h : GI t key f r i) (hi : t.rest.length ≤ i) :
    f.take t.near.toNat = near_ t key ∧ r.take t.far.toNat = rest_ t key ∧ (t.far < (r.length : Int) → ∀ (j : Nat) (hj : j < r.length), j = t.far.toNat → r[j] = gone t key) ∧ ((r.length : Int) ≤ t.far → gone t key = -1) := by
  have hn := ho.near; have hfa := ho.far; have hl1 := ho.len1; have hl2 := ho.len2
  have h1 := List.length_erase_le (a := key) (l := t.first)
  have h2 := List.length_erase_le (a := key) (l := t.rest)
  have hr : r = pre t f ++ t.rest.erase key := by rw [h.eq, List.take_of_length_le hi, Lru.filter_erase ho.parts.2.1]
  have hd : down t key = f.getD t.near.toNat (-1) := by rw [hf]; rfl
  refine ⟨by rw [hf]; rfl, ?_⟩
  by_cases e : t.near < (f.length : Int)
  · have hp : pre t f = [down t key] := by unfold pre; rw [if_pos e, hd]
    have hlf : ((t.first.erase key).length : Int) = t.near := by rw [hf] at e; simp only [List.length_cons] at e; omega
    have h0 : 0 ≤ down t key := (over_some (l := t.first.erase key) (key := key) (room := t.near) (by omega) (by omega) hk (fun x hx => ho.key x (List.mem_append_left _ (List.mem_of_mem_erase hx)))).1
    have hr2 : r = down t key :: t.rest.erase key := by rw [hr, hp]; rfl
    refine ⟨by rw [hr2]; unfold rest_; rw [if_pos h0]; rfl, fun hlt j hj ej => ?_, fun hle => ?_⟩
    · subst ej; subst hr2
      unfold Tier.gone; rw [if_pos h0]; exact over_at hj
    · unfold Tier.gone; rw [if_pos h0]; exact over_none (by rw [hr2] at hle; simp only [List.length_cons] at hle; omega)
  · have hp : pre t f = [] := if_neg e
    have hlf : ((t.first.erase key).length : Int) + 1 ≤ t.near := by rw [hf] at e; simp only [List.length_cons] at e; omega
    have h0 : down t key = -1 := over_none hlf
    have hr2 : r = t.rest.erase key := by rw [hr, hp]; rfl
    have hg : gone t key = -1 := by unfold Tier.gone; rw [h0, if_neg (by decide)]
    refine ⟨by rw [hr2, List.take_of_length_le (by omega)]; unfold rest_; rw [h0, if_neg (by decide)], fun hlt => by rw [hr2] at hlt; omega, fun _ => hg⟩
theorem place1 {t : DTiers} {key : Int} (h : Ref.hasInt t.first key = true) (ho : Ok t) : Ref.hasInt t.rest key = false ∧ 1 = place t key := by
  have h1 : key ∈ t.first := of_decide_eq_true h
  exact ⟨decide_eq_false (ho.parts.2.2 _ h1), by unfold place; rw [if_pos h1]⟩
theorem place2 {t : DTiers} {key : Int} (h : Ref.hasInt t.first key = false) (h2 : Ref.hasInt t.rest key = true) : 2 = place t key := by
  have h1 : key ∉ t.first := of_decide_eq_false h
  have h3 : key ∈ t.rest := of_decide_eq_true h2
  unfold place; rw [if_neg h1, if_pos h3]
theorem place0 {t : DTiers} {key : Int} (h : Ref.hasInt t.first key = false) (h2 : Ref.hasInt t.rest key = false) : 0 = place t key := by
  have h1 : key ∉ t.first := of_decide_eq_false h
  have h3 : key ∉ t.rest := of_decide_eq_false h2
  unfold place; rw [if_neg h1, if_neg h3]
theorem place_p {t : DTiers} {key : Int} : (key ∈ t.first → 1 = place t key) ∧ (key ∉ t.first → key ∈ t.rest → 2 = place t key) ∧ (key ∉ t.first → key ∉ t.rest → 0 = place t key) := by
  unfold place; exact ⟨fun h => by rw [if_pos h], fun h h2 => by rw [if_neg h, if_pos h2], fun h h2 => by rw [if_neg h, if_neg h2]⟩
theorem same_tiers {a b : DTiers} : a = b ↔ a.near = b.near ∧ a.far = b.far ∧ a.first = b.first ∧ a.rest = b.rest := by
  cases a; cases b; simp
/-! ### what the laws say -/
theorem merged_law {t : DTiers} {l : List Int} (h : runErr t l = 0) : Lru.runErr (whole t) l = 0 ∧ check (run t l).1 = 0 ∧ (run t l).2.1 + (run t l).2.2 = (Lru.run (whole t) l).2 ∧ whole (run t l).1 = (Lru.run (whole t) l).1 ∧ check t = 0 := by
  obtain ⟨h1, h2, h3⟩ := run_ok h
  have hok := ok_of h1
  have hk := (Lru.trace_ok.1 h2).2
  have hw : Lru.check (whole t) = 0 := Lru.check_ok.2 hok.whole
  obtain ⟨e1, e2⟩ := Lru.run3 hw h2
  have hr := whole_run (n := 0) (m := 0) hok hk
  rw [show (0 : Int) + 0 = 0 from rfl] at hr
  refine ⟨e2, ?_, ?_, ?_, h1⟩
  · rw [h3]; exact check_ok.2 (hok.runGo hk)
  · rw [h3, e1, hr]
  · rw [h3, e1, hr]
theorem near_law {t : DTiers} {l : List Int} (h : runErr t l = 0) : Lru.runErr ⟨t.near, t.first⟩ l = 0 ∧ (run t l).2.1 = (Lru.run ⟨t.near, t.first⟩ l).2 ∧ (run t l).1.first = (Lru.run ⟨t.near, t.first⟩ l).1.keys := by
  obtain ⟨h1, h2, h3⟩ := run_ok h
  have hok := ok_of h1
  have hw : Lru.check ⟨t.near, t.first⟩ = 0 := Lru.check_ok.2 hok.nearer
  obtain ⟨e1, e2⟩ := Lru.run3 hw h2
  have hr := near_run (t := t) (l := l) (n := 0) (m := 0)
  exact ⟨e2, by rw [h3, e1, hr], by rw [h3, e1, hr]⟩
theorem moves_law {t : DTiers} {key : Int} (h : accessErr t key = 0) : check (access t key).1 = 0 ∧ (∃ l, (access t key).1.first = key :: l) ∧ ((access t key).2.1 ≠ 0 → (access t key).2.2 = -1) ∧ ∀ x ∈ t.first ++ t.rest, (x ∈ (access t key).1.first ∨ x ∈ (access t key).1.rest ↔ x ≠ (access t key).2.2) := by
  obtain ⟨h1, h2, h3⟩ := acc_ok h
  have hok := ok_of h1
  have hg := hok.gone h2
  rw [h3]
  exact ⟨check_ok.2 (hok.touch h2), first_key t hok key, hg.1, hg.2⟩
end Go.Sx.Tier
namespace Go.Sx.Tier
theorem chk6 {t : DTiers} (h1 : okRoom t.near = true ∧ okRoom t.far = true) (h2 : (t.first.length : Int) ≤ t.near ∧ (t.rest.length : Int) ≤ t.far) (h3 : (¬ Lru.keys (t.first ++ t.rest) = 0 ∨ (t.rest.length : Int) ≤ 0) ∨ t.near ≤ (t.first.length : Int)) : Lru.keys (t.first ++ t.rest) = check t := by
  by_cases e : Lru.keys (t.first ++ t.rest) = 0
  · rw [e]; exact chk5 h1 h2 e (by rcases h3 with (h | h) | h; exact absurd e h; omega; omega)
  · exact chk3 h1 h2 e
theorem place_j {t : DTiers} {key wh v : Int} {b : Bool} (h1 : wh = if Ref.hasInt t.first key = true then 1 else 0) (ho : Ok t) (h2 : Ref.hasInt t.rest key = b) (hv : v = if b = true then 2 else wh) : v = place t key := by
  subst hv
  cases hf : Ref.hasInt t.first key
  · rw [if_neg (by simp [hf])] at h1
    cases b
    · rw [if_neg (by decide), h1]; exact place0 hf h2
    · rw [if_pos rfl]; exact place2 hf h2
  · rw [if_pos hf] at h1
    have := (place1 hf ho)
    rw [h2] at this
    rw [this.1, if_neg (by decide), h1]; exact this.2
end Go.Sx.Tier
namespace Go.Sx.Tier
theorem rows_in {h1 h2 : Hdr} {k : Nat} (hk : k < [h1, h2].length) {i : Nat} (hi : i < ([h1, h2][k]).L.length) : ([h1, h2][k]).L[i] ∈ h1.L ++ h2.L := by
  have hm := List.getElem_mem hi
  rcases mem_rows2 hk with e | e
  · rw [List.mem_append]; left; rw [← e]; exact hm
  · rw [List.mem_append]; right; rw [← e]; exact hm
theorem moves_no {f r : List Int} {x g : Int} (h : x ∈ f ∨ x ∈ r ↔ x ≠ g) (hc : (Ref.hasInt f x || Ref.hasInt r x) = (x == g)) : False := by
  simp only [Ref.hasInt] at hc
  by_cases e : x = g
  · rw [beq_iff_eq.2 e, Bool.or_eq_true, decide_eq_true_eq, decide_eq_true_eq] at hc
    exact h.1 hc e
  · rw [beq_eq_false_iff_ne.2 e, Bool.or_eq_false_iff, decide_eq_false_iff_not, decide_eq_false_iff_not] at hc
    rcases h.2 e with h | h
    · exact hc.1 h
    · exact hc.2 h
theorem run_zero {t : DTiers} {l : List Int} (h : runErr t l ≠ 0 ∨ check t ≠ 0) : run t l = (zero, 0, 0) := by
  rcases h with h | h
  · exact run_bad h
  · exact (run1 h).1
theorem run_small (t : DTiers) (l : List Int) : 0 ≤ (run t l).2.1 ∧ (run t l).2.1 ≤ 200 ∧ 0 ≤ (run t l).2.2 ∧ (run t l).2.2 ≤ 200 := by
  rcases run_cases t l with ⟨_, e, _⟩ | ⟨_, _, e, _⟩ | ⟨_, h, e, _⟩
  · rw [e]; exact ⟨Int.le_refl _, by decide, Int.le_refl _, by decide⟩
  · rw [e]; exact ⟨Int.le_refl _, by decide, Int.le_refl _, by decide⟩
  · rw [e]; have h1 := run_bd (c := t) (n := 0) (m := 0) (l := l); have h2 := (Lru.trace_ok.1 h).1; omega
theorem merged_fin {t : DTiers} {l : List Int} (h : runErr t l = 0) : Lru.runErr (merged t) l = 0 ∧ check (run t l).1 = 0 ∧ (run t l).2.1 + (run t l).2.2 = (Lru.run (merged t) l).2 ∧ merged (run t l).1 = (Lru.run (merged t) l).1 := by
  obtain ⟨m1, m2, m3, m4, m5⟩ := merged_law h
  have e1 : merged t = whole t := if_pos m5
  have e2 : merged (run t l).1 = whole (run t l).1 := if_pos m2
  rw [e1, e2]; exact ⟨m1, m2, m3, m4⟩
end Go.Sx.Tier
