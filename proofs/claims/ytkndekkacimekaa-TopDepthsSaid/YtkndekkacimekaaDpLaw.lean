/- Stack distances: the plain functions and what holds of them. -/
import Derived.Test.YtkndekkacimekaaLrLaw2
namespace Go.Sx.Deep
open Go.Sx.Lru (at_ at_lt at_mem at_idx erase_at)
theorem snoc_ind {α : Type} {P : List α → Prop} (h0 : P []) (h1 : ∀ l k, P l → P (l ++ [k])) : ∀ l, P l := fun l => by
  have h2 : ∀ m : List α, P m.reverse := fun m => by
    induction m with
    | nil => exact h0
    | cons k m ih => rw [List.reverse_cons]; exact h1 _ _ ih
  have := h2 l.reverse; rwa [List.reverse_reverse] at this
/-- one key more: it stands first -/
def push (st : List Int) (k : Int) : List Int := k :: st.erase k
/-- the keys of a trace, the one used last first -/
def stack (l : List Int) : List Int := l.foldl push []
theorem stack_snoc (l : List Int) (k : Int) : stack (l ++ [k]) = push (stack l) k := by simp [stack]
theorem mem_push {st : List Int} {k x : Int} : x ∈ push st k ↔ x = k ∨ x ∈ st := by
  simp only [push, List.mem_cons]
  constructor
  · rintro (h | h); exact .inl h; exact .inr (List.mem_of_mem_erase h)
  · rintro (h | h); exact .inl h
    by_cases e : x = k
    · exact .inl e
    · exact .inr ((List.mem_erase_of_ne e).2 h)
theorem push_nodup {st : List Int} (k : Int) (h : st.Nodup) : (push st k).Nodup := by
  simp only [push, List.nodup_cons]
  exact ⟨h.not_mem_erase, h.erase k⟩
theorem fold_mem {q : List Int} : ∀ {st : List Int} {x : Int}, x ∈ q.foldl push st ↔ x ∈ st ∨ x ∈ q := by
  induction q with
  | nil => simp
  | cons k q ih => intro st x; rw [List.foldl_cons, ih, mem_push, List.mem_cons]; grind
theorem fold_nodup {q : List Int} : ∀ {st : List Int}, st.Nodup → (q.foldl push st).Nodup := by
  induction q with
  | nil => intro st h; exact h
  | cons k q ih => intro st h; exact ih (push_nodup k h)
theorem mem_stack {l : List Int} {x : Int} : x ∈ stack l ↔ x ∈ l := by rw [stack, fold_mem]; simp
theorem stack_nodup (l : List Int) : (stack l).Nodup := fold_nodup List.nodup_nil
/-- how deep a place's key lies (0: it is new) -/
def deep (l : List Int) (i : Nat) : Int := at_ (stack (l.take i)) (l.getD i 0) + 1
def depths (l : List Int) : List Int := (List.range l.length).map (deep l)
theorem depths_len (l : List Int) : (depths l).length = l.length := by simp [depths]
theorem depths_get {l : List Int} {i : Nat} (h : i < (depths l).length) : (depths l)[i] = deep l i := by simp [depths]
/-- behind more keys: those first, then what is left -/
theorem fold_split {q : List Int} : ∀ {st : List Int}, st.Nodup → q.foldl push st = stack q ++ st.filter (fun x => !decide (x ∈ q)) := by
  induction q using snoc_ind with
  | h0 => intro st _; rw [List.filter_eq_self.2 (by simp)]; rfl
  | h1 q k ih =>
    intro st h
    rw [List.foldl_append, List.foldl_cons, List.foldl_nil, ih h, stack_snoc]
    by_cases hk : k ∈ q
    · have e : st.filter (fun x => !decide (x ∈ q ++ [k])) = st.filter (fun x => !decide (x ∈ q)) := by
        apply List.filter_congr; intro x _; simp; grind
      rw [e, push, push, List.erase_append_left _ (mem_stack.2 hk)]; rfl
    · have h2 : k ∉ stack q := fun h => hk (mem_stack.1 h)
      have e : st.filter (fun x => !decide (x ∈ q ++ [k])) = (st.filter (fun x => !decide (x ∈ q))).erase k := by
        rw [List.Nodup.erase_eq_filter (List.Pairwise.filter _ h), List.filter_filter]
        apply List.filter_congr; intro x _; simp; grind
      rw [e, push, push, List.erase_append_right _ h2, List.erase_of_not_mem h2]; rfl
theorem at_none {l : List Int} {x : Int} (h : x ∉ l) : at_ l x = -1 := by
  have h1 := at_lt l x; have h2 := mt at_mem.1 h; omega
theorem at_some {l : List Int} {x : Int} (h : x ∈ l) : at_ l x = (l.idxOf x : Int) := by
  have h1 := at_mem.2 h; have h2 := at_idx h1; omega
/-- where the key used last lies: as many ahead of it as came since -/
theorem at_stack {p q : List Int} {x : Int} (hq : x ∉ q) : at_ (stack (p ++ x :: q)) x = ((stack q).length : Int) := by
  have e : stack (p ++ x :: q) = stack q ++ (stack (p ++ [x])).filter (fun y => !decide (y ∈ q)) := by
    have : p ++ x :: q = (p ++ [x]) ++ q := by simp
    rw [this]; conv => lhs; rw [stack, List.foldl_append]
    exact fold_split (stack_nodup _)
  have e2 : (stack (p ++ [x])).filter (fun y => !decide (y ∈ q)) = x :: ((stack p).erase x).filter (fun y => !decide (y ∈ q)) := by
    rw [stack_snoc, push, List.filter_cons, if_pos (by simp [hq])]
  have hm : x ∈ stack (p ++ x :: q) := mem_stack.2 (by simp)
  rw [at_some hm, e, e2, List.idxOf_append, if_neg (fun h => hq (mem_stack.1 h)), List.idxOf_cons_self]; simp
/-- the last place of a key -/
theorem last_split {l : List Int} {x : Int} (h : x ∈ l) : ∃ p q, l = p ++ x :: q ∧ x ∉ q := by
  induction l using snoc_ind with
  | h0 => cases h
  | h1 l k ih =>
    by_cases e : k = x
    · subst e; exact ⟨l, [], rfl, by simp⟩
    · obtain ⟨p, q, rfl, hq⟩ := ih (by simpa [Ne.symm e] using h)
      exact ⟨p, q ++ [k], by simp, by simp [hq, Ne.symm e]⟩
/-- the different ones, in the order of their first places -/
def uniq (l : List Int) : List Int := l.foldl (fun u k => if k ∈ u then u else u ++ [k]) []
theorem uniq_snoc (l : List Int) (k : Int) : uniq (l ++ [k]) = if k ∈ uniq l then uniq l else uniq l ++ [k] := by rw [uniq, List.foldl_append]; rfl
theorem uniq_all (l : List Int) : (uniq l).Nodup ∧ ∀ x, x ∈ uniq l ↔ x ∈ l := by
  induction l using snoc_ind with
  | h0 => simp [uniq]
  | h1 l k ih =>
    rw [uniq_snoc]
    by_cases h : k ∈ uniq l
    · rw [if_pos h]; refine ⟨ih.1, fun x => ?_⟩
      rw [ih.2, List.mem_append, List.mem_singleton]
      have := (ih.2 k).1 h
      grind
    · rw [if_neg h]; refine ⟨?_, fun x => ?_⟩
      · rw [List.nodup_append]; refine ⟨ih.1, by simp, ?_⟩
        intro a ha b hb; rw [List.mem_singleton] at hb; subst hb; rintro rfl; exact h ha
      · rw [List.mem_append, ih.2, List.mem_append]
theorem nodup_len {a b : List Int} (ha : a.Nodup) (hb : b.Nodup) (h : ∀ x, x ∈ a ↔ x ∈ b) : a.length = b.length :=
  ((List.perm_ext_iff_of_nodup ha hb).2 h).length_eq
theorem uniq_stack (l : List Int) : (uniq l).length = (stack l).length :=
  nodup_len (uniq_all l).1 (stack_nodup l) fun x => by rw [(uniq_all l).2, mem_stack]
theorem stack_cons_len {q : List Int} {x : Int} (h : x ∉ q) : (stack (x :: q)).length = (stack q).length + 1 := by
  have : (stack (x :: q)).length = (x :: stack q).length := by
    apply nodup_len (stack_nodup _)
    · rw [List.nodup_cons]; exact ⟨fun hh => h (mem_stack.1 hh), stack_nodup _⟩
    · intro y; rw [mem_stack, List.mem_cons, List.mem_cons, mem_stack]
  simpa using this
/-- the depth of a key that comes again -/
theorem deep_again {l : List Int} {i : Nat} {p q : List Int} (h : l.take i = p ++ l.getD i 0 :: q) (hq : l.getD i 0 ∉ q) : deep l i = ((uniq (l.getD i 0 :: q)).length : Int) := by
  rw [deep, h, at_stack hq, uniq_stack, stack_cons_len hq]; rfl
theorem deep_new {l : List Int} {i : Nat} (h : l.getD i 0 ∉ l.take i) : deep l i = 0 := by
  rw [deep, at_none (fun hh => h (mem_stack.1 hh))]; rfl
theorem deep_bd (l : List Int) (i : Nat) : 0 ≤ deep l i ∧ deep l i ≤ (stack (l.take i)).length := by
  have := at_lt (stack (l.take i)) (l.getD i 0); simp only [deep]; omega
theorem deep_pos {l : List Int} {i : Nat} : 0 < deep l i ↔ l.getD i 0 ∈ l.take i := by
  rw [← mem_stack, ← at_mem, deep]; omega
theorem stack_len (l : List Int) : (stack l).length ≤ l.length := by
  induction l using snoc_ind with
  | h0 => simp [stack]
  | h1 l k ih =>
    rw [stack_snoc, push, List.length_cons, List.length_append, List.length_singleton]
    have := List.length_erase_le (a := k) (l := stack l); omega
/-- how many of the first k have a depth that is met -/
def many (l : List Int) (p : Int → Bool) : Nat := (depths l).countP p
def hitsAt (l : List Int) (room : Int) : Int := (many l fun d => decide (0 < d) && decide (d ≤ room) : Nat)
def hits (l : List Int) : List Int := (List.range 40).map fun (r : Nat) => hitsAt l ((r : Int) + 1)
theorem hits_len (l : List Int) : (hits l).length = 40 := by simp [hits]
theorem hits_get {l : List Int} {r : Nat} (h : r < (hits l).length) : (hits l)[r] = hitsAt l ((r : Int) + 1) := by simp [hits]
theorem hitsAt_bd (l : List Int) (room : Int) : 0 ≤ hitsAt l room ∧ hitsAt l room ≤ l.length := by
  have h1 := List.countP_le_length (p := fun d : Int => decide (0 < d) && decide (d ≤ room)) (l := depths l)
  rw [depths_len] at h1; simp only [hitsAt, many]; omega
theorem hitsAt_mono (l : List Int) {a b : Int} (h : a ≤ b) : hitsAt l a ≤ hitsAt l b := by
  simp only [hitsAt, many]
  have := List.countP_mono_left (l := depths l) (p := fun d : Int => decide (0 < d) && decide (d ≤ a)) (q := fun d : Int => decide (0 < d) && decide (d ≤ b)) (fun x _ hx => by simp at hx ⊢; omega)
  omega
theorem hitsAt_step (l : List Int) {r : Int} (h : 0 ≤ r) : hitsAt l (r + 1) = hitsAt l r + (many l (fun d => d == r + 1) : Nat) := by
  simp only [hitsAt, many]
  induction depths l with
  | nil => rfl
  | cons d m ih => simp only [List.countP_cons]; grind
theorem hitsAt_zero (l : List Int) : hitsAt l 0 = 0 := by
  simp only [hitsAt, many]
  have : (depths l).countP (fun d : Int => decide (0 < d) && decide (d ≤ 0)) = 0 := by
    rw [List.countP_eq_zero]; intro x _; simp
  omega
/- the program's loops -/
structure PInv (l st out : List Int) (k : Nat) : Prop where
  le : k ≤ l.length
  st_ : st = stack (l.take k)
  len : out.length = l.length
  done_ : ∀ j (h : j < out.length), j < k → out[j] = deep l j
theorem PInv.start (l : List Int) : PInv l [] (List.replicate l.length 0) 0 := ⟨Nat.zero_le _, rfl, by simp, fun j _ h => absurd h (Nat.not_lt_zero _)⟩
theorem PInv.stl {l st out : List Int} {k : Nat} (h : PInv l st out k) : st.length ≤ k := by
  have := stack_len (l.take k); rw [h.st_]; rw [List.length_take] at this; omega
theorem deep_at {l : List Int} {k : Nat} (h : k < l.length) : deep l k = at_ (stack (l.take k)) l[k] + 1 := by
  rw [deep, List.getD_eq_getElem?_getD, List.getElem?_eq_getElem h]; rfl
theorem PInv.next {l st out st' : List Int} {k : Nat} (h : PInv l st out k) (hk : k < l.length) (hs : st' = push st l[k]) : PInv l st' (out.set k (at_ st l[k] + 1)) (k + 1) := by
  refine ⟨by omega, ?_, by simp [h.len], fun j hj hlt => ?_⟩
  · rw [hs, h.st_, List.take_succ_eq_append_getElem hk, stack_snoc]
  · rw [List.length_set] at hj
    by_cases e : j = k
    · subst e; rw [List.getElem_set_self, deep_at hk, h.st_]
    · rw [List.getElem_set_ne (by omega)]; exact h.done_ j hj (by omega)
theorem PInv.hit {l st out : List Int} {k : Nat} (h : PInv l st out k) (hk : k < l.length) (ha : 0 ≤ at_ st l[k]) : PInv l ([l[k]] ++ (st.take (at_ st l[k]).toNat ++ st.drop (at_ st l[k] + 1).toNat)) (out.set k (at_ st l[k] + 1)) (k + 1) := by
  refine h.next hk ?_
  rw [show (at_ st l[k] + 1).toNat = (at_ st l[k]).toNat + 1 by omega, erase_at ha]; rfl
theorem PInv.new {l st out : List Int} {k : Nat} (h : PInv l st out k) (hk : k < l.length) (ha : at_ st l[k] < 0) : PInv l ([l[k]] ++ st) (out.set k (at_ st l[k] + 1)) (k + 1) := by
  refine h.next hk ?_
  have : l[k] ∉ st := fun hm => by have := at_mem.2 hm; omega
  rw [push, List.erase_of_not_mem this]; rfl
theorem PInv.done {l st out : List Int} {k : Nat} (h : PInv l st out k) (hk : (l.length : Int) ≤ k) : out = depths l := by
  apply List.ext_getElem (by rw [h.len, depths_len])
  intro j h1 h2; rw [depths_get]; exact h.done_ j h1 (by have := h.len; omega)
/-- counting the depths -/
structure CInv (l out : List Int) (k : Nat) : Prop where
  le : k ≤ (depths l).length
  len : out.length = 40
  cnt : ∀ j (h : j < out.length), out[j] = (((depths l).take k).countP (fun d => d == (j : Int) + 1) : Nat)
theorem CInv.start (l : List Int) : CInv l (List.replicate 40 0) 0 := ⟨Nat.zero_le _, by rw [List.length_replicate], fun j h => by rw [List.getElem_replicate]; rfl⟩
theorem CInv.bd {l out : List Int} {k j : Nat} (h : CInv l out k) (hj : j < out.length) : 0 ≤ out[j] ∧ out[j] ≤ k := by
  rw [h.cnt]
  have := List.countP_le_length (p := fun d : Int => d == (j : Int) + 1) (l := (depths l).take k)
  rw [List.length_take] at this; omega
theorem CInv.step {l out : List Int} {k : Nat} (h : CInv l out k) (hk : k < (depths l).length) {d : Int} (hd : d = (depths l)[k]) (h1 : 0 < d) (h2 : d ≤ 40) (hi : (d - 1).toNat < out.length) : CInv l (out.set (d - 1).toNat (out[(d - 1).toNat] + 1)) (k + 1) := by
  refine ⟨by omega, by simp [h.len], fun j hj => ?_⟩
  rw [List.length_set] at hj
  rw [List.take_succ_eq_append_getElem hk, List.countP_append, List.countP_singleton, ← hd, List.getElem_set]
  split
  · rename_i e; subst e; rw [h.cnt _ hi]
    rw [if_pos (by simp; omega)]; omega
  · rw [h.cnt _ hj, if_neg (by simp; omega)]; omega
theorem CInv.skip {l out : List Int} {k : Nat} (h : CInv l out k) (hk : k < (depths l).length) (h1 : (depths l)[k] ≤ 0 ∨ 40 < (depths l)[k]) : CInv l out (k + 1) := by
  refine ⟨by omega, h.len, fun j hj => ?_⟩
  have := h.len
  rw [List.take_succ_eq_append_getElem hk, List.countP_append, List.countP_singleton, h.cnt _ hj, if_neg (by simp; omega)]; omega
/-- sums of them -/
structure TInv (l out : List Int) (k : Nat) : Prop where
  le : k ≤ 39
  len : out.length = 40
  done_ : ∀ j (h : j < out.length), j ≤ k → out[j] = hitsAt l ((j : Int) + 1)
  rest : ∀ j (h : j < out.length), k < j → out[j] = (many l (fun d => d == (j : Int) + 1) : Nat)
theorem CInv.done {l out : List Int} {k : Nat} (h : CInv l out k) (hk : ((depths l).length : Int) ≤ k) : TInv l out 0 := by
  have e : (depths l).take k = depths l := List.take_of_length_le (by omega)
  refine ⟨by omega, h.len, fun j hj h0 => ?_, fun j hj _ => by rw [h.cnt, e]; rfl⟩
  obtain rfl : j = 0 := by omega
  rw [h.cnt, e]
  have h1 := hitsAt_step l (r := 0) (by omega); rw [hitsAt_zero] at h1
  simp only [many] at h1 ⊢
  rw [show (((0 : Nat) : Int) + 1) = 0 + 1 by omega, h1]; omega
theorem TInv.bd {l out : List Int} {k j : Nat} (h : TInv l out k) (hj : j < out.length) : 0 ≤ out[j] ∧ out[j] ≤ l.length := by
  by_cases e : j ≤ k
  · rw [h.done_ j hj e]; exact hitsAt_bd _ _
  · rw [h.rest j hj (by omega)]
    have := List.countP_le_length (p := fun d : Int => d == (j : Int) + 1) (l := depths l)
    rw [depths_len] at this; simp only [many]; omega
theorem TInv.next {l out : List Int} {k j : Nat} (h : TInv l out k) (hj : j = k + 1) (hk : k < 39) (h1 : j < out.length) (h2 : k < out.length) : TInv l (out.set j (out[j] + out[k])) (k + 1) := by
  subst hj
  refine ⟨by omega, by simp [h.len], fun j hj hle => ?_, fun j hj hlt => ?_⟩
  · rw [List.length_set] at hj
    rw [List.getElem_set]
    split
    · rename_i e; subst e
      rw [h.rest _ h1 (by omega), h.done_ _ h2 (by omega)]
      have := hitsAt_step l (r := (k : Int) + 1) (by omega)
      rw [show (((k + 1 : Nat) : Int) + 1) = (k : Int) + 1 + 1 by omega, this]; omega
    · exact h.done_ j hj (by omega)
  · rw [List.length_set] at hj
    rw [List.getElem_set_ne (by omega)]; exact h.rest j hj (by omega)
theorem TInv.done {l out : List Int} {k : Nat} (h : TInv l out k) (hk : 39 ≤ k) : out = hits l := by
  apply List.ext_getElem (by rw [h.len, hits_len])
  intro j h1 h2; rw [hits_get]; exact h.done_ j h1 (by have := h.len; omega)
theorem uniq_take (l : List Int) (i : Nat) : (uniq (l.take i)).length ≤ i := by
  rw [uniq_stack]; have := stack_len (l.take i); rw [List.length_take] at this; omega
theorem take_uniq {l u : List Int} {i : Nat} (h : u = uniq (l.take i)) (hi : i < l.length) : (Ref.hasInt u l[i] = false → u ++ [l[i]] = uniq (l.take (i + 1))) ∧ (Ref.hasInt u l[i] = true → u = uniq (l.take (i + 1))) := by
  rw [List.take_succ_eq_append_getElem hi, uniq_snoc, ← h]
  exact ⟨fun hm => by rw [if_neg (of_decide_eq_false hm)], fun hm => by rw [if_pos (of_decide_eq_true hm)]⟩
end Go.Sx.Deep
