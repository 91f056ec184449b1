/- Elements by number; numbers compared. -/
import Derived.Test.YthecfjipaepcgaaSx12M17
import Derived.Test.YthecfjipaepcgaaSx1M11
import Derived.Test.YthecfjipaepcgaaSx31M4
namespace Go.Sx
theorem getd_at {α : Type} {L : List α} {i : Nat} (h : i < L.length) (d : α) : L[i] = L.getD i d := by rw [List.getD_eq_getElem?_getD, List.getElem?_eq_getElem h]; rfl
def cmpI (x y : Int) : Int := if x < y then -1 else if y < x then 1 else 0
theorem cmpI_neg {x y : Int} : cmpI x y < 0 ↔ x < y := by unfold cmpI; split; simp [*]; split <;> simp <;> omega
theorem cmpI_zero {x y : Int} : cmpI x y = 0 ↔ x = y := by unfold cmpI; split; simp; omega; split <;> simp <;> omega
theorem cmp_lt {x y : Int} (h : x < y) : -1 = cmpI x y := by unfold cmpI; rw [if_pos h]
theorem cmp_gt {x y : Int} (h1 : y ≤ x) (h : y < x) : 1 = cmpI x y := by unfold cmpI; rw [if_neg (by omega), if_pos h]
theorem cmp_eq {x y : Int} (h1 : y ≤ x) (h2 : x ≤ y) : 0 = cmpI x y := by unfold cmpI; rw [if_neg (by omega), if_neg (by omega)]
end Go.Sx

/- Insertion sort, as the library does it: the plain function, its loops, and what it gives. -/
namespace Go.Sx.St
section
variable {α : Type}
def insR (f : α → α → Int) (x : α) : List α → List α
  | [] => [x]
  | p :: r => if f x p < 0 then p :: insR f x r else x :: p :: r
def insF (f : α → α → Int) (P : List α) (x : α) : List α := (insR f x P.reverse).reverse
def isort (f : α → α → Int) (l : List α) : List α := l.foldl (insF f) []
theorem insR_perm (f : α → α → Int) (x : α) : ∀ l, (insR f x l).Perm (x :: l)
  | [] => List.Perm.refl _
  | p :: r => by
    simp only [insR]
    split
    · exact ((insR_perm f x r).cons p).trans (List.Perm.swap x p r)
    · exact List.Perm.refl _
theorem insF_perm (f : α → α → Int) (P : List α) (x : α) : (insF f P x).Perm (x :: P) :=
  (List.reverse_perm _).trans ((insR_perm f x _).trans ((List.reverse_perm P).cons x))
theorem rev_ind {p : List α → Prop} (h0 : p []) (h1 : ∀ l x, p l → p (l ++ [x])) (l : List α) : p l := by
  have h : ∀ m : List α, p m.reverse := by
    intro m
    induction m with
    | nil => exact h0
    | cons x m ih => rw [List.reverse_cons]; exact h1 _ _ ih
  have := h l.reverse
  rwa [List.reverse_reverse] at this
theorem isort_snoc (f : α → α → Int) (l : List α) (x : α) : isort f (l ++ [x]) = insF f (isort f l) x := by simp [isort]
theorem isort_perm (f : α → α → Int) (l : List α) : (isort f l).Perm l := by
  refine rev_ind (p := fun l => (isort f l).Perm l) (List.Perm.refl _) (fun l x ih => ?_) l
  · show (isort f (l ++ [x])).Perm (l ++ [x])
    rw [isort_snoc]
    exact (insF_perm f _ x).trans ((ih.cons x).trans (List.perm_append_singleton x l).symm)
theorem isort_len (f : α → α → Int) (l : List α) : (isort f l).length = l.length := (isort_perm f l).length_eq
theorem ite_len (f : α → α → Int) (l : List α) (a : Int) : (if a = 0 then isort f l else l).length = l.length := by split; exact isort_len f l; rfl
theorem isort_mem {f : α → α → Int} {l : List α} {x : α} : x ∈ isort f l ↔ x ∈ l := (isort_perm f l).mem_iff
theorem isort_next (f : α → α → Int) {l : List α} {i : Nat} (h : i < l.length) : isort f (l.take (i + 1)) = insF f (isort f (l.take i)) l[i] := by
  rw [List.take_succ_eq_append_getElem h, isort_snoc]
theorem insR_at {f : α → α → Int} {x : α} : ∀ {r : List α} {k : Nat}, k ≤ r.length → (∀ p ∈ r.take k, f x p < 0) → (∀ (h : k < r.length), ¬ f x r[k] < 0) → insR f x r = r.take k ++ x :: r.drop k
  | [], k, _, _, _ => by simp [insR]
  | p :: r, 0, _, _, h => by simp only [insR]; rw [if_neg (show ¬ f x p < 0 from h (by simp))]; rfl
  | p :: r, k + 1, hk, h1, h2 => by
    simp only [insR]
    rw [if_pos (h1 p (by simp)), insR_at (r := r) (k := k) (by simpa using hk) (fun q hq => h1 q (by simp [hq])) (fun h => by have := h2 (by simpa using h); simpa using this)]
    simp
theorem insF_at {f : α → α → Int} {x : α} {P : List α} {j : Nat} (hj : j ≤ P.length) (h1 : ∀ p ∈ P.drop j, f x p < 0) (h2 : ∀ (h : 0 < j), ¬ f x (P[j - 1]'(by omega)) < 0) : insF f P x = P.take j ++ x :: P.drop j := by
  unfold insF
  rw [insR_at (k := P.length - j) (by simp) (fun p hp => h1 p (by
    rw [List.take_reverse] at hp
    rw [show P.length - (P.length - j) = j by omega] at hp
    simpa using hp)) (fun h => by
    rw [List.getElem_reverse]
    have := h2 (by simp at h; omega)
    have e : P.length - 1 - (P.length - j) = j - 1 := by omega
    simpa only [e] using this)]
  rw [List.take_reverse, List.drop_reverse, show P.length - (P.length - j) = j by omega]
  simp
/-! ### the order -/
theorem insR_sorted {f : α → α → Int} {x : α} {R : α → α → Prop} (ht : ∀ a b c, R a b → R b c → R a c) : ∀ {r : List α}, (∀ p ∈ r, f x p < 0 → R x p) → (∀ p ∈ r, ¬ f x p < 0 → R p x) → r.Pairwise (fun a b => R b a) → (insR f x r).Pairwise (fun a b => R b a)
  | [], _, _, _ => by simp [insR]
  | p :: r, h1, h2, hp => by
    obtain ⟨hp1, hp2⟩ := List.pairwise_cons.1 hp
    simp only [insR]
    split
    · rename_i hn
      refine List.pairwise_cons.2 ⟨fun y hy => ?_, insR_sorted (r := r) ht (fun q hq => h1 q (by simp [hq])) (fun q hq => h2 q (by simp [hq])) hp2⟩
      rcases List.mem_cons.1 ((insR_perm f x r).mem_iff.1 hy) with rfl | hy
      · exact h1 p (by simp) hn
      · exact hp1 y hy
    · rename_i hn
      refine List.pairwise_cons.2 ⟨fun y hy => ?_, hp⟩
      have hpx := h2 p (by simp) hn
      rcases List.mem_cons.1 hy with rfl | hy
      · exact hpx
      · exact ht _ _ _ (hp1 y hy) hpx
theorem insF_sorted {f : α → α → Int} {x : α} {R : α → α → Prop} (ht : ∀ a b c, R a b → R b c → R a c) {P : List α} (h1 : ∀ p ∈ P, f x p < 0 → R x p) (h2 : ∀ p ∈ P, ¬ f x p < 0 → R p x) (hp : P.Pairwise R) : (insF f P x).Pairwise R := by
  unfold insF
  rw [List.pairwise_reverse]
  exact insR_sorted ht (fun p hp => h1 p (by simpa using hp)) (fun p hp => h2 p (by simpa using hp)) (List.pairwise_reverse.2 hp)
/-- O: the order in which the elements stand ahead of the sorting -/
theorem isort_sorted {f : α → α → Int} {R O : α → α → Prop} (ht : ∀ a b c, R a b → R b c → R a c) (h1 : ∀ {x p}, O p x → f x p < 0 → R x p) (h2 : ∀ {x p}, O p x → ¬ f x p < 0 → R p x) (l : List α) (hO : l.Pairwise O) : (isort f l).Pairwise R := by
  revert hO
  refine rev_ind (p := fun l => l.Pairwise O → (isort f l).Pairwise R) (fun _ => List.Pairwise.nil) (fun l x ih hO => ?_) l
  · rw [isort_snoc]
    obtain ⟨ho1, _, ho2⟩ := List.pairwise_append.1 hO
    exact insF_sorted ht (fun p hp => h1 (ho2 p (isort_mem.1 hp) x (by simp))) (fun p hp => h2 (ho2 p (isort_mem.1 hp) x (by simp))) (ih ho1)
/-! ### the loops -/
structure OI (f : α → α → Int) (l : List α) (a : Int) (ls : List α) (i : Int) : Prop where
  lo : a + 1 ≤ i
  hi : i ≤ l.length ∨ i = a + 1
  eq : (a = 0 ∧ ls = isort f (l.take i.toNat) ++ l.drop i.toNat) ∨ (a = l.length ∧ ls = l)
theorem OI.len {f : α → α → Int} {l ls : List α} {a i : Int} (h : OI f l a ls i) : ls.length = l.length := by
  rcases h.eq with ⟨_, e⟩ | ⟨_, e⟩ <;> rw [e]
  rw [List.length_append, isort_len, List.length_take, List.length_drop]; omega
theorem OI.mem {f : α → α → Int} {l ls : List α} {a i : Int} (h : OI f l a ls i) : ls.Perm l := by
  rcases h.eq with ⟨_, e⟩ | ⟨_, e⟩ <;> rw [e]
  exact ((isort_perm f _).append_right _).trans (by rw [List.take_append_drop])
theorem OI.start {f : α → α → Int} {l : List α} {a : Int} (h : a = 0 ∨ a = l.length) : OI f l a l (a + 1) :=
  ⟨Int.le_refl _, .inr rfl, by
    rcases h with h | h
    · left; subst h; refine ⟨rfl, ?_⟩
      show l = isort f (l.take 1) ++ l.drop 1
      match l with
      | [] => rfl
      | [x] => rfl
      | x :: y :: r => rfl
    · right; exact ⟨h, rfl⟩⟩
theorem OI.done {f : α → α → Int} {l ls : List α} {a i : Int} (h : OI f l a ls i) (hi : (l.length : Int) ≤ i) : ls = if a = 0 then isort f l else l := by
  rcases h.eq with ⟨e1, e⟩ | ⟨e1, e⟩
  · rw [if_pos e1, e, List.take_of_length_le (by omega), List.drop_of_length_le (by omega), List.append_nil]
  · rw [e]; split
    · match l with
      | [] => rfl
      | x :: r => simp at e1; omega
    · rfl
theorem plen (f : α → α → Int) {l : List α} {i : Int} (h : 0 < i ∧ i < l.length) : (isort f (l.take i.toNat)).length = i.toNat := by
  rw [isort_len, List.length_take]; omega
theorem swap_mid (A B : List α) (p x : α) {j : Nat} (hj : j = A.length + 1) : ((A ++ p :: x :: B).set j p).set (j - 1) x = A ++ x :: p :: B := by
  subst hj
  rw [List.set_append_right _ _ (by omega), show A.length + 1 - A.length = 1 by omega, List.set_append_right _ _ (by omega), show A.length + 1 - 1 - A.length = 0 by omega]
  rfl
/-- blocks of twenty, at lists of at most twenty -/
inductive BI (f : α → α → Int) (l ls : List α) (a b : Int) : Prop where
  | first (h1 : a = 0) (h2 : b = 20) (h3 : ls = l) : BI f l ls a b
  | then_ (h1 : a = 20) (h2 : b = 40) (h4 : l.length = 20) (h3 : ls = isort f l) : BI f l ls a b
theorem BI.start {f : α → α → Int} {l : List α} : BI f l l 0 20 := .first rfl rfl rfl
theorem BI.len {f : α → α → Int} {l ls : List α} {a b : Int} (h : BI f l ls a b) : ls.length = l.length := by
  rcases h with ⟨_, _, rfl⟩ | ⟨_, _, _, rfl⟩
  · rfl
  · exact isort_len f l
theorem BI.cases {f : α → α → Int} {l ls : List α} {a b : Int} (h : BI f l ls a b) : (a = 0 ∧ b = 20) ∨ (a = 20 ∧ b = 40 ∧ (l.length : Int) = 20) := by
  rcases h with ⟨h1, h2, _⟩ | ⟨h1, h2, h3, _⟩
  · exact .inl ⟨h1, h2⟩
  · exact .inr ⟨h1, h2, by omega⟩
theorem BI.mem {f : α → α → Int} {l ls : List α} {a b : Int} (h : BI f l ls a b) {x : α} : x ∈ ls ↔ x ∈ l := by
  rcases h with ⟨_, _, rfl⟩ | ⟨_, _, _, rfl⟩
  · rfl
  · exact isort_mem
theorem BI.next {f : α → α → Int} {l ls : List α} {a b : Int} (h : BI f l ls a b) (hb : b ≤ 20 ∧ (l.length : Int) = 20) : BI f l (if a = 0 then isort f ls else ls) b (b + 20) := by
  rcases h with ⟨h1, h2, rfl⟩ | ⟨h1, h2, h3, rfl⟩
  · exact .then_ h2 (by omega) (by omega) (by rw [if_pos h1])
  · omega
theorem BI.done {f : α → α → Int} {l ls : List α} {a b : Int} (h : BI f l ls a b) : (if a = 0 then isort f ls else ls) = isort f l := by
  rcases h with ⟨h1, h2, rfl⟩ | ⟨h1, h2, h3, rfl⟩
  · rw [if_pos h1]
  · rw [if_neg (by omega)]
variable [Inhabited α]
structure II (f : α → α → Int) (l : List α) (a : Int) (ls : List α) (i j : Int) : Prop where
  a0 : a = 0
  ilt : 0 < i ∧ i < l.length
  jlo : 0 ≤ j
  jhi : j ≤ i
  eq : ls = (isort f (l.take i.toNat)).take j.toNat ++ (l.getD i.toNat default) :: (isort f (l.take i.toNat)).drop j.toNat ++ l.drop (i.toNat + 1)
  big : ∀ p ∈ (isort f (l.take i.toNat)).drop j.toNat, f (l.getD i.toNat default) p < 0
theorem II.len {f : α → α → Int} {l ls : List α} {a i j : Int} (h : II f l a ls i j) : ls.length = l.length := by
  have := plen f h.ilt; have := h.ilt; have := h.jlo; have := h.jhi
  rw [h.eq]; simp only [List.length_append, List.length_cons, List.length_take, List.length_drop]; omega
theorem II.start {f : α → α → Int} {l ls : List α} {a i : Int} (h : OI f l a ls i) (ha : 0 ≤ a) (hi : i < l.length) : II f l a ls i i := by
  have hlo := h.lo
  rcases h.eq with ⟨e1, e⟩ | ⟨e1, e⟩
  · refine ⟨e1, ⟨by omega, hi⟩, by omega, Int.le_refl _, ?_, ?_⟩
    · have hp := plen f (l := l) (i := i) ⟨by omega, hi⟩
      rw [e, List.take_of_length_le (l := isort f (l.take i.toNat)) (by omega), List.drop_of_length_le (l := isort f (l.take i.toNat)) (by omega), List.append_assoc]
      congr 1
      rw [List.drop_eq_getElem_cons (show i.toNat < l.length by omega), ← getd_at (show i.toNat < l.length by omega) default]
      rfl
    · rw [List.drop_of_length_le (by rw [plen f ⟨by omega, hi⟩]; exact Nat.le_refl _)]
      intro p hp; cases hp
  · omega
theorem II.perm {f : α → α → Int} {l ls : List α} {a i j : Int} (h : II f l a ls i j) : ls.Perm l := by
  have hi := h.ilt
  have e : l = l.take i.toNat ++ (l.getD i.toNat default) :: l.drop (i.toNat + 1) := by
    rw [← getd_at (show i.toNat < l.length by omega) default, ← List.drop_eq_getElem_cons (show i.toNat < l.length by omega), List.take_append_drop]
  have h1 : ls.Perm ((l.getD i.toNat default) :: (isort f (l.take i.toNat)) ++ l.drop (i.toNat + 1)) := by
    rw [h.eq]
    refine List.Perm.append_right _ ?_
    refine List.perm_middle.trans ?_
    rw [List.take_append_drop]
  refine h1.trans ?_
  refine (((isort_perm f (l.take i.toNat)).cons _).append_right _).trans ?_
  have h2 : ((l.getD i.toNat default) :: l.take i.toNat ++ l.drop (i.toNat + 1)).Perm (l.take i.toNat ++ (l.getD i.toNat default) :: l.drop (i.toNat + 1)) := by
    rw [List.cons_append]; exact List.perm_middle.symm
  rw [← e] at h2; exact h2
theorem II.x {f : α → α → Int} {l ls : List α} {a i j : Int} (h : II f l a ls i j) : ls.getD j.toNat default = l.getD i.toNat default := by
  have := plen f h.ilt; have := h.ilt; have := h.jlo; have := h.jhi
  rw [h.eq, List.getD_eq_getElem?_getD, List.append_assoc, List.getElem?_append_right (by rw [List.length_take]; omega)]
  rw [List.length_take, show j.toNat - min j.toNat (isort f (l.take i.toNat)).length = 0 by omega]
  rfl
theorem II.p {f : α → α → Int} {l ls : List α} {a i j : Int} (h : II f l a ls i j) (hj : 0 < j) : ls.getD (j - 1).toNat default = (isort f (l.take i.toNat)).getD (j.toNat - 1) default := by
  have := plen f h.ilt; have := h.ilt; have := h.jlo; have := h.jhi
  rw [h.eq, List.append_assoc, List.getD_eq_getElem?_getD, List.getElem?_append_left (by rw [List.length_take]; omega), List.getElem?_take, if_pos (by omega), List.getD_eq_getElem?_getD, show (j - 1).toNat = j.toNat - 1 by omega]
theorem II.next {f : α → α → Int} {l ls : List α} {a i j : Int} (h : II f l a ls i j) (hj : 0 < j) (hlt : f (ls.getD j.toNat default) (ls.getD (j - 1).toNat default) < 0) : II f l a ((ls.set j.toNat (ls.getD (j - 1).toNat default)).set (j - 1).toNat (ls.getD j.toNat default)) i (j - 1) := by
  have hpl := plen f h.ilt; have hil := h.ilt; have hjl := h.jlo; have hjh := h.jhi
  rw [h.x, h.p hj] at *
  have hdrop : (isort f (l.take i.toNat)).drop (j - 1).toNat = (isort f (l.take i.toNat)).getD (j.toNat - 1) default :: (isort f (l.take i.toNat)).drop j.toNat := by
    rw [show (j - 1).toNat = j.toNat - 1 by omega, List.drop_eq_getElem_cons (show j.toNat - 1 < _ by omega), ← getd_at (show j.toNat - 1 < (isort f (l.take i.toNat)).length by omega) default, show j.toNat - 1 + 1 = j.toNat by omega]
  have htake : (isort f (l.take i.toNat)).take j.toNat = (isort f (l.take i.toNat)).take (j - 1).toNat ++ [(isort f (l.take i.toNat)).getD (j.toNat - 1) default] := by
    rw [show j.toNat = (j - 1).toNat + 1 by omega, List.take_succ_eq_append_getElem (by omega), show (j - 1).toNat + 1 - 1 = (j - 1).toNat by omega, ← getd_at (show (j - 1).toNat < (isort f (l.take i.toNat)).length by omega) default]
  refine ⟨h.a0, hil, by omega, by omega, ?_, ?_⟩
  · rw [h.eq, htake, hdrop]
    simp only [List.append_assoc, List.singleton_append, List.cons_append, List.nil_append]
    have := swap_mid ((isort f (l.take i.toNat)).take (j - 1).toNat) ((isort f (l.take i.toNat)).drop j.toNat ++ l.drop (i.toNat + 1)) ((isort f (l.take i.toNat)).getD (j.toNat - 1) default) (l.getD i.toNat default) (j := j.toNat) (by rw [List.length_take]; omega)
    rw [show (j - 1).toNat = j.toNat - 1 by omega] at *
    exact this
  · rw [hdrop]
    intro p hp
    rcases List.mem_cons.1 hp with rfl | hp
    · exact hlt
    · exact h.big p hp
theorem II.fin {f : α → α → Int} {l ls : List α} {a i j : Int} (h : II f l a ls i j) (he : j ≤ 0 ∨ ¬ f (ls.getD j.toNat default) (ls.getD (j - 1).toNat default) < 0) : OI f l a ls (i + 1) := by
  have hpl := plen f h.ilt; have hil := h.ilt; have hjl := h.jlo; have hjh := h.jhi
  refine ⟨by have := h.a0; omega, .inl (by omega), .inl ⟨h.a0, ?_⟩⟩
  rw [show (i + 1).toNat = i.toNat + 1 by omega, isort_next f (show i.toNat < l.length by omega), getd_at (show i.toNat < l.length by omega) default]
  rw [insF_at (j := j.toNat) (by omega) h.big (fun h0 => ?_), ← h.eq]
  have h1 := he.resolve_left (by omega)
  rw [h.x, h.p (by omega), ← getd_at (show j.toNat - 1 < (isort f (l.take i.toNat)).length by omega) default] at h1
  exact h1
theorem II.both {f : α → α → Int} {l ls : List α} {a i j : Int} (h : II f l a ls i j) {p : α → Prop} (hp : ∀ x ∈ l, p x) (hj : 0 < j) : p (ls.getD j.toNat default) ∧ p (ls.getD (j - 1).toNat default) := by
  have hil := h.ilt; have hjl := h.jlo; have hjh := h.jhi; have hl := h.len
  have key : ∀ k, k < ls.length → p (ls.getD k default) := fun k hk => by
    rw [← getd_at hk default]; exact hp _ (h.perm.mem_iff.1 (List.getElem_mem hk))
  exact ⟨key _ (by omega), key _ (by omega)⟩
end
end Go.Sx.St

/- Hash functions: the plain functions. -/
namespace Go.Sx.Hash
def mix (n : UInt64) : UInt64 :=
  ((((n ^^^ shrU n 30) * 13787848793156543929) ^^^ shrU ((n ^^^ shrU n 30) * 13787848793156543929) 27) * 10723151780598845931) ^^^ shrU ((((n ^^^ shrU n 30) * 13787848793156543929) ^^^ shrU ((n ^^^ shrU n 30) * 13787848793156543929) 27) * 10723151780598845931) 31
def rawTo (s : ByteArray) : Nat → UInt64
  | 0 => 14695981039346656037
  | i + 1 => (rawTo s i ^^^ (byteAt s i).toUInt64) * 1099511628211
def raw (s : ByteArray) : UInt64 := rawTo s s.size
def sum (s : ByteArray) : UInt64 := if 40 < s.size then 0 else raw s
def sumErr (s : ByteArray) : Int := if 40 < s.size then 2 else 0
def undoTo (n : UInt64) (by_ : Nat) : Nat → UInt64
  | 0 => n
  | k + 1 => n ^^^ shrU (undoTo n by_ k) by_
def undo (n : UInt64) (by_ : Int) : UInt64 := undoTo n by_.toNat (64 / by_.toNat)
def invTo (n : UInt64) : Nat → UInt64
  | 0 => n
  | k + 1 => invTo n k * (2 - n * invTo n k)
def inverse (n : UInt64) : UInt64 := invTo n 5
def unmix (n : UInt64) : UInt64 := undo (undo (undo n 31 * inverse 10723151780598845931) 27 * inverse 13787848793156543929) 30
def rawFold (n : UInt64) (most : Int) : Int := IntKind.i64.wrap ((shrU (shrU n 32 * toU most) 32).toNat : Int)
def reduce (n : UInt64) (most : Int) : Int := if most < 1 ∨ 1048576 < most then 0 else rawFold n most
def reduceErr (most : Int) : Int := if most < 1 ∨ 1048576 < most then 3 else 0
def salted (s : ByteArray) (salt : UInt64) : UInt64 := if sumErr s = 0 then mix (sum s ^^^ salt) else 0
theorem half_step (n : UInt64) (i : Nat) : shrU n i / 2 = shrU n (i + 1) := by
  apply UInt64.toNat_inj.1
  rw [UInt64.toNat_div, shrU_toNat, shrU_toNat]
  show n.toNat / 2 ^ min i 64 / 2 = _
  have h := n.toNat_lt
  rcases Nat.lt_or_ge i 64 with h' | h'
  · rw [Nat.min_eq_left (by omega), Nat.min_eq_left (by omega), Nat.div_div_eq_div_mul, Nat.pow_succ]
  · rw [Nat.min_eq_right h', Nat.min_eq_right (by omega), Nat.div_eq_of_lt h]
theorem shrU_zero (n : UInt64) : shrU n 0 = n := by apply UInt64.toNat_inj.1; rw [shrU_toNat]; simp
theorem times_step (a b : UInt64) : a * b = (a + a) * (b / 2) + a * (b % 2) := by
  have h : b = 2 * (b / 2) + b % 2 := by
    apply UInt64.toNat_inj.1
    rw [UInt64.toNat_add, UInt64.toNat_mul, UInt64.toNat_div, UInt64.toNat_mod]
    have := b.toNat_lt
    show b.toNat = (2 * (b.toNat / 2) % 2 ^ 64 + b.toNat % 2) % 2 ^ 64
    omega
  have e : a + a = a * 2 := by
    apply UInt64.toNat_inj.1
    rw [UInt64.toNat_add, UInt64.toNat_mul]
    show _ = a.toNat * 2 % 2 ^ 64
    omega
  rw [e, UInt64.mul_assoc, ← UInt64.mul_add, ← h]
theorem undoBound {b : Int} (h : 1 ≤ b ∧ b ≤ 64) : IntKind.i64.wrap (Int.tdiv 64 b) = ((64 / b.toNat : Nat) : Int) := by
  have e : Int.tdiv 64 b = ((64 / b.toNat : Nat) : Int) := by
    rw [Int.tdiv_eq_ediv_of_nonneg (by omega), Int.natCast_ediv]; congr 1; omega
  have hl : 64 / b.toNat ≤ 64 := Nat.div_le_self _ _
  rw [e]
  generalize 64 / b.toNat = m at *
  rw [wrap_i64 (by omega)]
theorem times_odd {a b s t : UInt64} (hI : s + a * b = t) (h : b % 2 = 1) : s + a + (a + a) * (b / 2) = t := by
  rw [← hI, times_step a b, h, UInt64.mul_one, UInt64.add_assoc, UInt64.add_comm a]
theorem times_even {a b s t : UInt64} (hI : s + a * b = t) (h : ¬ b % 2 = 1) : s + (a + a) * (b / 2) = t := by
  have h0 : b % 2 = 0 := by
    apply UInt64.toNat_inj.1
    have h1 : ¬ (b % 2).toNat = 1 := fun e => h (UInt64.toNat_inj.1 e)
    rw [UInt64.toNat_mod] at h1 ⊢
    have : (2 : UInt64).toNat = 2 := rfl
    rw [this] at h1 ⊢
    show _ = 0
    omega
  rw [← hI, times_step a b, h0, UInt64.mul_zero, UInt64.add_zero]
theorem half_less {b : UInt64} (h : 0 < b) : (b / 2).toNat < b.toNat := by
  have h1 := UInt64.lt_iff_toNat_lt.1 h
  rw [UInt64.toNat_div]
  exact Nat.div_lt_self h1 (by decide)
theorem times_end {a b s t : UInt64} (hI : s + a * b = t) (h : ¬ 0 < b) : s = t := by
  have h0 : b = 0 := by
    apply UInt64.toNat_inj.1
    have : ¬ (0 : UInt64).toNat < b.toNat := fun e => h (UInt64.lt_iff_toNat_lt.2 e)
    show _ = 0
    have e0 : (0 : UInt64).toNat = 0 := rfl
    omega
  rw [← hI, h0, UInt64.mul_zero, UInt64.add_zero]
end Go.Sx.Hash

/- Hash functions: the plain laws. -/
namespace Go.Sx.Hash
theorem sum_long {s : ByteArray} (salt : UInt64) (h : 40 < s.size) : sum s = 0 ∧ sumErr s = 2 ∧ salted s salt = 0 := by
  have e : sumErr s = 2 := if_pos h
  exact ⟨if_pos h, e, by unfold salted; rw [e]; rfl⟩
theorem sum_short {s : ByteArray} (salt : UInt64) (h : ¬ 40 < s.size) : sum s = raw s ∧ sumErr s = 0 ∧ salted s salt = mix (raw s ^^^ salt) := by
  have e : sumErr s = 0 := if_neg h
  have e2 : sum s = raw s := if_neg h
  exact ⟨e2, e, by unfold salted; rw [e, e2]; rfl⟩
theorem reduce_bad (n : UInt64) {most : Int} (h : most < 1 ∨ 1048576 < most) : reduce n most = 0 ∧ reduceErr most = 3 := ⟨if_pos h, if_pos h⟩
theorem reduce_ok (n : UInt64) {most : Int} (h : 1 ≤ most ∧ most ≤ 1048576) : reduce n most = rawFold n most ∧ reduceErr most = 0 := ⟨if_neg (by omega), if_neg (by omega)⟩
theorem sum_cases (s : ByteArray) (salt : UInt64) : (40 < s.size ∧ sum s = 0 ∧ sumErr s = 2 ∧ salted s salt = 0) ∨ (¬ 40 < s.size ∧ sum s = raw s ∧ sumErr s = 0 ∧ salted s salt = mix (raw s ^^^ salt)) := by
  by_cases h : 40 < s.size
  · exact Or.inl ⟨h, sum_long salt h⟩
  · exact Or.inr ⟨h, sum_short salt h⟩
theorem reduce_cases (n : UInt64) (most : Int) : ((most < 1 ∨ 1048576 < most) ∧ reduce n most = 0 ∧ reduceErr most = 3) ∨ ((1 ≤ most ∧ most ≤ 1048576) ∧ reduce n most = rawFold n most ∧ reduceErr most = 0) := by
  by_cases h : most < 1 ∨ 1048576 < most
  · exact Or.inl ⟨h, reduce_bad n h⟩
  · exact Or.inr ⟨by omega, reduce_ok n (by omega)⟩
theorem reduceOk {most : Int} (h : reduceErr most = 0) : 1 ≤ most ∧ most ≤ 1048576 := by
  unfold reduceErr at h; split at h
  · cases h
  · omega

/-! ### Undoing a mix -/
theorem shrU_xor (a b : UInt64) (k : Nat) : shrU (a ^^^ b) k = shrU a k ^^^ shrU b k := by
  apply UInt64.toNat_inj.1
  rw [shrU_toNat, UInt64.toNat_xor, UInt64.toNat_xor, shrU_toNat, shrU_toNat, ← Nat.shiftRight_eq_div_pow, ← Nat.shiftRight_eq_div_pow, ← Nat.shiftRight_eq_div_pow, Nat.shiftRight_xor_distrib]
theorem shrU_big (a : UInt64) {k : Nat} (h : 64 ≤ k) : shrU a k = 0 := by
  apply UInt64.toNat_inj.1
  rw [shrU_toNat, Nat.min_eq_right h, Nat.div_eq_of_lt a.toNat_lt]; rfl
theorem shrU_shrU (a : UInt64) (i j : Nat) : shrU (shrU a i) j = shrU a (i + j) := by
  rcases Nat.lt_or_ge (i + j) 64 with h | h
  · apply UInt64.toNat_inj.1
    rw [shrU_toNat, shrU_toNat, shrU_toNat, Nat.min_eq_left (by omega), Nat.min_eq_left (by omega), Nat.min_eq_left (by omega), Nat.div_div_eq_div_mul, ← Nat.pow_add]
  · rw [shrU_big a h]
    apply UInt64.toNat_inj.1
    rw [shrU_toNat, shrU_toNat]
    show _ = 0
    rw [Nat.div_div_eq_div_mul, ← Nat.pow_add]
    apply Nat.div_eq_of_lt
    exact Nat.lt_of_lt_of_le a.toNat_lt (Nat.pow_le_pow_right (by decide) (by omega))
def fwd (k : Nat) (x : UInt64) : UInt64 := x ^^^ shrU x k
def back (k : Nat) (n : UInt64) : UInt64 := n ^^^ shrU (n ^^^ shrU n k) k
theorem back_fwd (k : Nat) (h : 64 ≤ 3 * k) (x : UInt64) : back k (fwd k x) = x := by
  unfold back fwd
  rw [shrU_xor, shrU_xor, shrU_xor, shrU_shrU, shrU_shrU, shrU_big x (k := k + k + k) (by omega)]
  rw [UInt64.xor_zero]
  generalize shrU x k = b
  generalize shrU x (k + k) = c
  rw [UInt64.xor_assoc x b, show (b ^^^ (b ^^^ c ^^^ c)) = 0 by rw [UInt64.xor_assoc b c c, UInt64.xor_self, UInt64.xor_zero, UInt64.xor_self], UInt64.xor_zero]
theorem fwd_back (k : Nat) (h : 64 ≤ 3 * k) (n : UInt64) : fwd k (back k n) = n := by
  unfold back fwd
  rw [shrU_xor, shrU_shrU, shrU_xor, shrU_xor, shrU_shrU, shrU_shrU, shrU_big n (k := k + k + k) (by omega)]
  rw [UInt64.xor_zero]
  generalize shrU n k = b
  generalize shrU n (k + k) = c
  rw [UInt64.xor_assoc n, UInt64.xor_self, UInt64.xor_zero]
theorem undo_back (n : UInt64) (k : Int) (h : k = 31 ∨ k = 27 ∨ k = 30) : undo n k = back k.toNat n := by
  rcases h with rfl | rfl | rfl <;> rfl
theorem one_inv : (13787848793156543929 : UInt64) * inverse 13787848793156543929 = 1 := by decide +kernel
theorem two_inv : (10723151780598845931 : UInt64) * inverse 10723151780598845931 = 1 := by decide +kernel
theorem mix_eq (n : UInt64) : mix n = fwd 31 (fwd 27 (fwd 30 n * 13787848793156543929) * 10723151780598845931) := rfl
theorem unmix_eq (n : UInt64) : unmix n = back 30 (back 27 (back 31 n * inverse 10723151780598845931) * inverse 13787848793156543929) := rfl
theorem unmix_mix (n : UInt64) : unmix (mix n) = n := by
  rw [mix_eq, unmix_eq, back_fwd 31 (by decide), UInt64.mul_assoc, two_inv, UInt64.mul_one, back_fwd 27 (by decide), UInt64.mul_assoc, one_inv, UInt64.mul_one, back_fwd 30 (by decide)]
theorem mix_unmix (n : UInt64) : mix (unmix n) = n := by
  rw [mix_eq, unmix_eq, fwd_back 30 (by decide), UInt64.mul_assoc, UInt64.mul_comm (inverse 13787848793156543929), one_inv, UInt64.mul_one, fwd_back 27 (by decide), UInt64.mul_assoc, UInt64.mul_comm (inverse 10723151780598845931), two_inv, UInt64.mul_one, fwd_back 31 (by decide)]
theorem mix_inj (a b : UInt64) : (mix a == mix b) = (a == b) := by
  rw [Bool.eq_iff_iff, beq_iff_eq, beq_iff_eq]
  exact ⟨fun h => by rw [← unmix_mix a, ← unmix_mix b, h], fun h => by rw [h]⟩
end Go.Sx.Hash

/- Shards: the plain functions. -/
namespace Go.Sx
structure DShard where
  name : ByteArray
  weight : Int
deriving DecidableEq
instance : Inhabited DShard := ⟨⟨ByteArray.empty, 0⟩⟩
def tShard : Ty DShard := ⟨2, fun c => [.string c.name, .int .i64 c.weight], fun _ => rfl⟩
def cmpU (x y : UInt64) : Int := if x < y then -1 else if y < x then 1 else 0
theorem cmpU_neg {x y : UInt64} : cmpU x y < 0 ↔ x < y := by unfold cmpU; split; simp [*]; split <;> simp <;> exact UInt64.not_lt.1 (by assumption)
theorem u64_irr (x : UInt64) : (x != x) = false := by simp
namespace Shd
def one (s : DShard) : Int := if s.weight < 1 ∨ 8 < s.weight then 3 else if 40 < (s.name.size : Int) then 2 else 0
theorem one1 {s : DShard} (h : s.weight < 1 ∨ 8 < s.weight) : 3 = one s := by unfold one; rw [if_pos h]
theorem one2 {s : DShard} (h : 1 ≤ s.weight ∧ s.weight ≤ 8) (h2 : 40 < (s.name.size : Int)) : 2 = one s := by unfold one; rw [if_neg (by omega), if_pos h2]
theorem one3 {s : DShard} (h : 1 ≤ s.weight ∧ s.weight ≤ 8) (h2 : (s.name.size : Int) ≤ 40) : 0 = one s := by unfold one; rw [if_neg (by omega), if_neg (by omega)]
theorem one_ok {s : DShard} : one s = 0 ↔ (1 ≤ s.weight ∧ s.weight ≤ 8) ∧ s.name.size ≤ 40 := by
  unfold one; split
  · constructor
    · intro h; cases h
    · rintro ⟨h, _⟩; omega
  · split
    · constructor
      · intro h; cases h
      · rintro ⟨_, h⟩; omega
    · refine ⟨fun _ => ⟨by omega, by omega⟩, fun _ => rfl⟩
def checkGo (pre : List ByteArray) : List DShard → Int
  | [] => 0
  | s :: l => if one s ≠ 0 then one s else if s.name ∈ pre then 6 else checkGo (pre ++ [s.name]) l
def check (l : List DShard) : Int := if 20 < (l.length : Int) then 2 else checkGo [] l
def names (l : List DShard) : List ByteArray := l.map (·.name)
structure CI (l : List DShard) (i : Nat) : Prop where
  le : i ≤ l.length
  eq : checkGo (names (l.take i)) (l.drop i) = checkGo [] l
theorem CI.start (l : List DShard) : CI l 0 := ⟨Nat.zero_le _, rfl⟩
theorem go_step {l : List DShard} {i : Nat} (h : i < l.length) : checkGo (names (l.take i)) (l.drop i) = if one l[i] ≠ 0 then one l[i] else if l[i].name ∈ names (l.take i) then 6 else checkGo (names (l.take (i + 1))) (l.drop (i + 1)) := by
  have e : names (l.take (i + 1)) = names (l.take i) ++ [l[i].name] := by unfold names; rw [List.take_succ_eq_append_getElem h, List.map_append]; rfl
  rw [List.drop_eq_getElem_cons h, checkGo, e]
theorem CI.bad {l : List DShard} {i : Nat} (h : CI l i) (hi : i < l.length) (hn : (l.length : Int) ≤ 20) (hb : one l[i] ≠ 0) : one l[i] = check l := by
  rw [check, if_neg (by omega), ← h.eq, go_step hi, if_pos hb]
theorem CI.twice {l : List DShard} {i : Nat} (h : CI l i) (hi : i < l.length) (hn : (l.length : Int) ≤ 20) (hb : one l[i] = 0) (ht : l[i].name ∈ names (l.take i)) : 6 = check l := by
  rw [check, if_neg (by omega), ← h.eq, go_step hi, if_neg (by simp [hb]), if_pos ht]
theorem CI.next {l : List DShard} {i : Nat} (h : CI l i) (hi : i < l.length) (hb : one l[i] = 0) (ht : l[i].name ∉ names (l.take i)) : CI l (i + 1) :=
  ⟨by omega, by rw [← h.eq, go_step hi, if_neg (by simp [hb]), if_neg ht]⟩
theorem CI.done {l : List DShard} {i : Nat} (h : CI l i) (hn : (l.length : Int) ≤ 20) (hi : l.length ≤ i) : 0 = check l := by
  rw [check, if_neg (by omega), ← h.eq, List.drop_of_length_le hi]; rfl
theorem many {l : List DShard} (h : 20 < (l.length : Int)) : 2 = check l := by rw [check, if_pos h]
/-- the map of what was seen -/
def Seen {ν : Type} (m : List (ByteArray × ν)) (l : List DShard) (k : Nat) : Prop := ∀ j, (AL.get m j).isSome = true ↔ j ∈ names (l.take k)
theorem Seen.start {ν : Type} (l : List DShard) : Seen ([] : List (ByteArray × ν)) l 0 := fun j => by simp [AL.get, names]
theorem Seen.next {ν : Type} {m : List (ByteArray × ν)} {l : List DShard} {k : Nat} (h : Seen m l k) (hk : k < l.length) (x : ν) : Seen (AL.set m l[k].name x) l (k + 1) := fun j => by
  rw [AL.get_set, List.take_succ_eq_append_getElem hk, names, List.map_append, List.mem_append]
  have hj := h j
  split
  · simp [*]
  · rw [hj]; simp [names, *]
theorem Seen.no {ν : Type} {m : List (ByteArray × ν)} {l : List DShard} {k : Nat} (h : Seen m l k) {j : ByteArray} (hn : (AL.get m j).isSome = false) : j ∉ names (l.take k) := fun hm => by
  have := (h j).2 hm
  rw [hn] at this; cases this
/-- shards that are right: each right, each name once, at most twenty -/
structure Ok (l : List DShard) : Prop where
  len : l.length ≤ 20
  one : ∀ s ∈ l, one s = 0
  nodup : (names l).Nodup
theorem go_ok : ∀ {l : List DShard} {pre : List ByteArray}, checkGo pre l = 0 ↔ (∀ s ∈ l, Shd.one s = 0) ∧ (∀ k ∈ names l, k ∉ pre) ∧ (names l).Nodup
  | [], pre => by simp [checkGo, names]
  | s :: l, pre => by
    rw [checkGo]
    by_cases h1 : Shd.one s = 0
    · rw [if_neg (by simp [h1])]
      by_cases h2 : s.name ∈ pre
      · rw [if_pos h2]; simp [names, h2]
      · rw [if_neg h2, go_ok]
        simp only [names, List.map_cons, List.mem_cons, List.mem_append, List.nodup_cons, List.mem_nil_iff, or_false]
        constructor
        · rintro ⟨a, b, c⟩
          refine ⟨by rintro j (rfl | hj); exact h1; exact a j hj, by rintro j (rfl | hj); exact h2; exact fun hp => b j hj (.inl hp), fun hk => b s.name hk (.inr rfl), c⟩
        · rintro ⟨a, b, c, d⟩
          refine ⟨fun j hj => a j (.inr hj), fun j hj hp => ?_, d⟩
          rcases hp with hp | hp
          · exact b j (.inr hj) hp
          · exact c (hp ▸ hj)
    · rw [if_pos h1]; simp [h1]
theorem check_ok {l : List DShard} : check l = 0 ↔ Ok l := by
  unfold check
  split
  · constructor
    · intro h; cases h
    · intro h; have := h.len; omega
  · rw [go_ok]
    constructor
    · rintro ⟨a, _, c⟩; exact ⟨by omega, a, c⟩
    · intro h; exact ⟨h.one, fun k _ hk => (by cases hk), h.nodup⟩
theorem Ok.at {l : List DShard} (h : Ok l) {i : Nat} (hi : i < l.length) : (1 ≤ l[i].weight ∧ l[i].weight ≤ 8) ∧ l[i].name.size ≤ 40 := one_ok.1 (h.one _ (List.getElem_mem hi))
theorem Ok.getd {l : List DShard} (h : Ok l) {i : Nat} (hi : i < l.length) : (1 ≤ (l.getD i default).weight ∧ (l.getD i default).weight ≤ 8) ∧ (l.getD i default).name.size ≤ 40 := by rw [← getd_at hi default]; exact h.at hi
/-! ### scores -/
def scoreTo (s : DShard) (key : UInt64) : Nat → UInt64
  | 0 => 0
  | k + 1 => mxU (scoreTo s key k) (Hash.mix (key ^^^ Hash.mix (Hash.raw s.name ^^^ toU (k : Int))))
def score (s : DShard) (key : UInt64) : UInt64 := scoreTo s key s.weight.toNat
theorem score_end {s : DShard} {key best : UInt64} {k : Nat} (h : best = scoreTo s key k) (h1 : s.weight ≤ k) (h2 : k ≤ s.weight.toNat) : best = score s key := by
  rw [h, score, show k = s.weight.toNat by omega]
def scoreErr (s : DShard) (key : ByteArray) : Int := if one s ≠ 0 then one s else if 40 < (key.size : Int) then 2 else 0
def scoreR (s : DShard) (key : ByteArray) : UInt64 := if scoreErr s key = 0 then score s (Hash.raw key) else 0
theorem sc_cases (s : DShard) (key : ByteArray) : (one s ≠ 0 ∧ scoreErr s key = one s ∧ scoreR s key = 0) ∨ (one s = 0 ∧ 40 < (key.size : Int) ∧ scoreErr s key = 2 ∧ scoreR s key = 0) ∨ (one s = 0 ∧ (key.size : Int) ≤ 40 ∧ scoreErr s key = 0 ∧ scoreR s key = score s (Hash.raw key)) := by
  by_cases h : one s = 0
  · by_cases h2 : 40 < (key.size : Int)
    · have e : scoreErr s key = 2 := by unfold scoreErr; rw [if_neg (by simp [h]), if_pos h2]
      exact .inr (.inl ⟨h, h2, e, by unfold scoreR; rw [e]; rfl⟩)
    · have e : scoreErr s key = 0 := by unfold scoreErr; rw [if_neg (by simp [h]), if_neg h2]
      exact .inr (.inr ⟨h, by omega, e, by unfold scoreR; rw [if_pos e]⟩)
  · have e : scoreErr s key = one s := by unfold scoreErr; rw [if_pos h]
    exact .inl ⟨h, e, by unfold scoreR; rw [if_neg (by rw [e]; exact h)]⟩
def cmp (l : List DShard) (n : UInt64) (a b : Int) : Int := cmpU (score (l.getD b.toNat default) n) (score (l.getD a.toNat default) n)
def ranked (l : List DShard) (key : ByteArray) : List Int := St.isort (cmp l (Hash.raw key)) ((List.range l.length).map Int.ofNat)
def ownErr (l : List DShard) (key : ByteArray) : Int := if check l ≠ 0 then check l else if 40 < (key.size : Int) then 2 else if (l.length : Int) = 0 then 5 else 0
theorem oe1 {l : List DShard} (key : ByteArray) (h : check l ≠ 0) : check l = ownErr l key := by unfold ownErr; rw [if_pos h]
theorem oe2 {l : List DShard} {key : ByteArray} (h : check l = 0) (h2 : 40 < (key.size : Int)) : 2 = ownErr l key := by unfold ownErr; rw [if_neg (by simp [h]), if_pos h2]
theorem oe3 {l : List DShard} {key : ByteArray} (h : check l = 0) (h2 : (key.size : Int) ≤ 40) (h3 : (l.length : Int) = 0) : 5 = ownErr l key := by unfold ownErr; rw [if_neg (by simp [h]), if_neg (by omega), if_pos h3]
theorem oe4 {l : List DShard} {key : ByteArray} (h : check l = 0) (h2 : (key.size : Int) ≤ 40) (h3 : (l.length : Int) ≠ 0) : 0 = ownErr l key := by unfold ownErr; rw [if_neg (by simp [h]), if_neg (by omega), if_neg h3]
theorem own_ok {l : List DShard} {key : ByteArray} (h : ownErr l key = 0) : Ok l ∧ key.size ≤ 40 ∧ 0 < l.length := by
  unfold ownErr at h
  split at h
  · rename_i h1; exact absurd h h1
  · rename_i h1
    split at h
    · cases h
    · split at h
      · cases h
      · exact ⟨check_ok.1 (by simpa using h1), by omega, by omega⟩
def owner (l : List DShard) (key : ByteArray) : Int := if ownErr l key = 0 then (ranked l key).getD 0 default else 0
def ownsErr (l : List DShard) (key : ByteArray) (n : Int) : Int := if ownErr l key ≠ 0 then ownErr l key else if n < 1 ∨ (l.length : Int) < n then 3 else 0
def owners (l : List DShard) (key : ByteArray) (n : Int) : List Int := if ownsErr l key n = 0 then (ranked l key).take n.toNat else []
theorem ow_cases (l : List DShard) (key : ByteArray) (n : Int) : (ownErr l key ≠ 0 ∧ ownsErr l key n = ownErr l key ∧ owners l key n = []) ∨ (ownErr l key = 0 ∧ (n < 1 ∨ (l.length : Int) < n) ∧ ownsErr l key n = 3 ∧ owners l key n = []) ∨ (ownErr l key = 0 ∧ (1 ≤ n ∧ n ≤ (l.length : Int)) ∧ ownsErr l key n = 0 ∧ owners l key n = (ranked l key).take n.toNat) := by
  by_cases h : ownErr l key = 0
  · by_cases h2 : n < 1 ∨ (l.length : Int) < n
    · have e : ownsErr l key n = 3 := by unfold ownsErr; rw [if_neg (by simp [h]), if_pos h2]
      exact .inr (.inl ⟨h, h2, e, by unfold owners; rw [e]; rfl⟩)
    · have e : ownsErr l key n = 0 := by unfold ownsErr; rw [if_neg (by simp [h]), if_neg h2]
      exact .inr (.inr ⟨h, by omega, e, by unfold owners; rw [if_pos e]⟩)
  · have e : ownsErr l key n = ownErr l key := by unfold ownsErr; rw [if_pos h]
    exact .inl ⟨h, e, by unfold owners; rw [if_neg (by rw [e]; exact h)]⟩
theorem ranked_len (l : List DShard) (key : ByteArray) : (ranked l key).length = l.length := by rw [ranked, St.isort_len]; simp
/-! ### moves -/
def kerr (l m : List DShard) (key : ByteArray) : Int := if ownErr l key ≠ 0 then ownErr l key else ownErr m key
def firstErr (l m : List DShard) : List ByteArray → Int
  | [] => 0
  | k :: r => if kerr l m k ≠ 0 then kerr l m k else firstErr l m r
def movErr (l m : List DShard) (keys : List ByteArray) : Int := if 200 < (keys.length : Int) then 2 else firstErr l m keys
def differs (l m : List DShard) (key : ByteArray) : Bool := !decide ((l.getD (owner l key).toNat default).name = (m.getD (owner m key).toNat default).name)
def movTo (l m : List DShard) (keys : List ByteArray) (k : Nat) : List Int := ((List.range k).filter fun i => differs l m (keys.getD i default)).map Int.ofNat
def moved (l m : List DShard) (keys : List ByteArray) : List Int := if movErr l m keys = 0 then movTo l m keys keys.length else []
end Shd
end Go.Sx

/- Shards: the order of scores, moves; the loops. -/
namespace Go.Sx.Shd
/-! ### the ranking -/
/-- a stands ahead of b -/
def R (l : List DShard) (n : UInt64) (a b : Int) : Prop := score (l.getD b.toNat default) n < score (l.getD a.toNat default) n ∨ (score (l.getD a.toNat default) n = score (l.getD b.toNat default) n ∧ a < b)
theorem R_trans {l : List DShard} {n : UInt64} (a b c : Int) (h1 : R l n a b) (h2 : R l n b c) : R l n a c := by
  unfold R at *
  simp only [UInt64.lt_iff_toNat_lt, ← UInt64.toNat_inj] at *
  omega
theorem R_irr {l : List DShard} {n : UInt64} (a : Int) : ¬ R l n a a := by
  unfold R
  simp only [UInt64.lt_iff_toNat_lt, ← UInt64.toNat_inj] at *
  omega
theorem R_total {l : List DShard} {n : UInt64} {a b : Int} (h : a ≠ b) : R l n a b ∨ R l n b a := by
  unfold R
  simp only [UInt64.lt_iff_toNat_lt, ← UInt64.toNat_inj] at *
  omega
theorem range_O (k : Nat) : ((List.range k).map Int.ofNat).Pairwise (· < ·) := by
  rw [List.pairwise_map]
  exact List.pairwise_lt_range.imp fun h => Int.ofNat_lt.2 h
theorem ranked_sorted (l : List DShard) (key : ByteArray) : (ranked l key).Pairwise (R l (Hash.raw key)) :=
  St.isort_sorted (O := (· < ·)) (fun a b c => R_trans a b c)
    (fun {x p} _ hn => by
      have := cmpU_neg.1 hn
      exact .inl this)
    (fun {x p} ho hn => by
      have h2 : ¬ _ := fun e => hn (cmpU_neg.2 e)
      unfold R
      simp only [UInt64.lt_iff_toNat_lt, ← UInt64.toNat_inj] at *
      omega) _ (range_O _)
theorem ranked_mem {l : List DShard} {key : ByteArray} {x : Int} : x ∈ ranked l key ↔ 0 ≤ x ∧ x < (l.length : Int) := by
  rw [ranked, St.isort_mem, List.mem_map]
  constructor
  · rintro ⟨i, hi, rfl⟩
    have := List.mem_range.1 hi
    exact ⟨Int.natCast_nonneg _, Int.ofNat_lt.2 this⟩
  · rintro ⟨h1, h2⟩
    exact ⟨x.toNat, List.mem_range.2 (by omega), by show ((x.toNat : Nat) : Int) = x; omega⟩
theorem side {l : List DShard} (h : Ok l) {out : List Int} {k : Nat} (e : out = (List.range k).map Int.ofNat) (hk : k ≤ l.length) : Ok l ∧ ∀ x ∈ out, 0 ≤ x ∧ x < (l.length : Int) := by
  refine ⟨h, fun x hx => ?_⟩
  rw [e, List.mem_map] at hx
  obtain ⟨i, hi, rfl⟩ := hx
  have := List.mem_range.1 hi
  exact ⟨Int.natCast_nonneg _, by show (i : Int) < _; omega⟩
theorem owner_eq {l : List DShard} {key : ByteArray} (h : ownErr l key = 0) : owner l key = (ranked l key).getD 0 default := if_pos h
theorem owner_lt {l : List DShard} {key : ByteArray} (h : ownErr l key = 0) : 0 ≤ owner l key ∧ owner l key < (l.length : Int) := by
  have h3 := (own_ok h).2.2
  have hl := ranked_len l key
  rw [owner_eq h, ← getd_at (show 0 < (ranked l key).length by omega) default]
  exact ranked_mem.1 (List.getElem_mem _)
/-! ### moves -/
theorem mv1 (l m : List DShard) {keys : List ByteArray} (h : 200 < (keys.length : Int)) : moved l m keys = [] ∧ movErr l m keys = 2 := by
  have e : movErr l m keys = 2 := if_pos h
  exact ⟨by unfold moved; rw [e]; rfl, e⟩
structure MI (l m : List DShard) (keys : List ByteArray) (out : List Int) (k : Nat) : Prop where
  le : k ≤ keys.length
  eq : firstErr l m (keys.drop k) = firstErr l m keys
  out : out = movTo l m keys k
theorem MI.start (l m : List DShard) (keys : List ByteArray) : MI l m keys [] 0 := ⟨Nat.zero_le _, rfl, rfl⟩
theorem movTo_len (l m : List DShard) (keys : List ByteArray) (k : Nat) : (movTo l m keys k).length ≤ k := by
  unfold movTo; rw [List.length_map]
  have := List.length_filter_le (fun i => differs l m (keys.getD i default)) (List.range k)
  simpa using this
theorem MI.len {l m : List DShard} {keys : List ByteArray} {out : List Int} {k : Nat} (h : MI l m keys out k) : out.length ≤ k := by rw [h.out]; exact movTo_len l m keys k
theorem first_step {l m : List DShard} {keys : List ByteArray} {k : Nat} (h : k < keys.length) : firstErr l m (keys.drop k) = if kerr l m (keys.getD k default) ≠ 0 then kerr l m (keys.getD k default) else firstErr l m (keys.drop (k + 1)) := by
  rw [List.drop_eq_getElem_cons h, firstErr, getd_at h default]
theorem kerr0 {l m : List DShard} {key : ByteArray} : kerr l m key = 0 ↔ ownErr l key = 0 ∧ ownErr m key = 0 := by
  unfold kerr; split <;> simp_all
theorem mv_bad {l m : List DShard} {keys : List ByteArray} (hn : (keys.length : Int) ≤ 200) {e : Int} (h : firstErr l m keys = e) (he : e ≠ 0) : moved l m keys = [] ∧ movErr l m keys = e := by
  have e1 : movErr l m keys = e := by unfold movErr; rw [if_neg (by omega), h]
  exact ⟨by unfold moved; rw [if_neg (by rw [e1]; exact he)], e1⟩
theorem MI.badl {l m : List DShard} {keys : List ByteArray} {out : List Int} {k : Nat} (h : MI l m keys out k) (hk : k < keys.length) (hn : (keys.length : Int) ≤ 200) (hb : ownErr l (keys.getD k default) ≠ 0) : moved l m keys = [] ∧ movErr l m keys = ownErr l (keys.getD k default) := by
  refine mv_bad hn ?_ hb
  rw [← h.eq, first_step hk]
  have e : kerr l m (keys.getD k default) = ownErr l (keys.getD k default) := if_pos hb
  rw [e, if_pos hb]
theorem MI.badm {l m : List DShard} {keys : List ByteArray} {out : List Int} {k : Nat} (h : MI l m keys out k) (hk : k < keys.length) (hn : (keys.length : Int) ≤ 200) (ha : ownErr l (keys.getD k default) = 0) (hb : ownErr m (keys.getD k default) ≠ 0) : moved l m keys = [] ∧ movErr l m keys = ownErr m (keys.getD k default) := by
  refine mv_bad hn ?_ hb
  rw [← h.eq, first_step hk]
  have e : kerr l m (keys.getD k default) = ownErr m (keys.getD k default) := if_neg (fun q => q ha)
  rw [e, if_pos hb]
theorem movTo_next (l m : List DShard) (keys : List ByteArray) (k : Nat) : movTo l m keys (k + 1) = movTo l m keys k ++ if differs l m (keys.getD k default) = true then [(k : Int)] else [] := by
  unfold movTo
  rw [List.range_succ, List.filter_append, List.map_append]
  congr 1
  by_cases h : differs l m (keys.getD k default) = true
  · rw [if_pos h, List.filter_cons_of_pos (p := fun i => differs l m (keys.getD i default)) h]; rfl
  · rw [if_neg h, List.filter_cons_of_neg (p := fun i => differs l m (keys.getD i default)) h]; rfl
theorem MI.add {l m : List DShard} {keys : List ByteArray} {out : List Int} {k : Nat} (h : MI l m keys out k) (hk : k < keys.length) (ha : ownErr l (keys.getD k default) = 0) (hb : ownErr m (keys.getD k default) = 0)
    (hd : ¬ (l.getD (owner l (keys.getD k default)).toNat default).name = (m.getD (owner m (keys.getD k default)).toNat default).name) : MI l m keys (out ++ [(k : Int)]) (k + 1) :=
  ⟨by omega, by rw [← h.eq, first_step hk, if_neg (fun q => q (kerr0.2 ⟨ha, hb⟩))], by rw [movTo_next, if_pos (by unfold differs; rw [decide_eq_false hd]; rfl), h.out]⟩
theorem MI.skip {l m : List DShard} {keys : List ByteArray} {out : List Int} {k : Nat} (h : MI l m keys out k) (hk : k < keys.length) (ha : ownErr l (keys.getD k default) = 0) (hb : ownErr m (keys.getD k default) = 0)
    (hd : (l.getD (owner l (keys.getD k default)).toNat default).name = (m.getD (owner m (keys.getD k default)).toNat default).name) : MI l m keys out (k + 1) :=
  ⟨by omega, by rw [← h.eq, first_step hk, if_neg (fun q => q (kerr0.2 ⟨ha, hb⟩))], by rw [movTo_next, if_neg (by unfold differs; rw [decide_eq_true hd]; simp), h.out, List.append_nil]⟩
theorem MI.done {l m : List DShard} {keys : List ByteArray} {out : List Int} {k : Nat} (h : MI l m keys out k) (hk : keys.length ≤ k) (hn : (keys.length : Int) ≤ 200) : moved l m keys = out ∧ movErr l m keys = 0 := by
  have e : movErr l m keys = 0 := by unfold movErr; rw [if_neg (by omega), ← h.eq, List.drop_of_length_le hk]; rfl
  refine ⟨?_, e⟩
  unfold moved; rw [if_pos e, h.out, show k = keys.length by have := h.le; omega]
end Go.Sx.Shd

/- Stores with times: the plain functions. -/
namespace Go.Sx
structure DEntry where
  key : Int
  value : Int
  till : Int
deriving DecidableEq
instance : Inhabited DEntry := ⟨⟨0, 0, 0⟩⟩
def tEntry : Ty DEntry := ⟨3, fun c => [.int .i64 c.key, .int .i64 c.value, .int .i64 c.till], fun _ => rfl⟩
structure DStore where
  life : Int
  entries : List DEntry
deriving DecidableEq
/-- the first place that isn't below, in a list where all that is below stands ahead -/
def lowF {α : Type} (f : α → Int) (l : List α) : Nat := (l.takeWhile fun x => decide (f x < 0)).length
structure LowI {α : Type} (f : α → Int) (l : List α) (i j : Int) : Prop where
  i0 : 0 ≤ i
  ij : i ≤ j
  jl : j ≤ (l.length : Int)
  below : ∀ k (h : k < l.length), (k : Int) < i → f l[k] < 0
  above : ∀ k (h : k < l.length), j ≤ (k : Int) → 0 ≤ f l[k]
/-- all that is below stands ahead -/
def Split {α : Type} (f : α → Int) (l : List α) : Prop := ∀ a b (hb : b < l.length) (h : a < b), f l[b] < 0 → f (l[a]'(by omega)) < 0
theorem lowF_eq {α : Type} {f : α → Int} {l : List α} {p : Nat} (hp : p ≤ l.length) (h1 : ∀ k (h : k < l.length), k < p → f l[k] < 0) (h2 : ∀ h : p < l.length, 0 ≤ f l[p]) : lowF f l = p := by
  unfold lowF
  have e : l = l.take p ++ l.drop p := (List.take_append_drop p l).symm
  have h3 : ∀ x ∈ l.take p, decide (f x < 0) = true := fun x hx => by
    obtain ⟨k, hk, rfl⟩ := List.getElem_of_mem hx
    simp only [List.length_take] at hk
    rw [List.getElem_take]; exact decide_eq_true (h1 k (by omega) (by omega))
  conv => lhs; rw [e]
  rw [List.takeWhile_append_of_pos h3]
  have h4 : (l.drop p).takeWhile (fun x => decide (f x < 0)) = [] := by
    by_cases hl : p < l.length
    · rw [List.drop_eq_getElem_cons hl, List.takeWhile_cons, if_neg]
      have := h2 hl; simp; omega
    · rw [List.drop_of_length_le (by omega)]; rfl
  rw [h4, List.append_nil, List.length_take]; omega
theorem lowF_le {α : Type} (f : α → Int) (l : List α) : lowF f l ≤ l.length := by
  unfold lowF; exact (List.takeWhile_sublist _).length_le
theorem LowI.start {α : Type} (f : α → Int) (l : List α) : LowI f l 0 l.length := ⟨Int.le_refl _, by omega, Int.le_refl _, fun k h h2 => by omega, fun k h h2 => by omega⟩
theorem LowI.up {α : Type} {f : α → Int} {l : List α} {i j h : Int} (hI : LowI f l i j) (hs : Split f l) (h1 : i ≤ h) (h2 : h < j) (hl : h.toNat < l.length) (hf : f l[h.toNat] < 0) : LowI f l (h + 1) j :=
  ⟨by have := hI.i0; omega, by omega, hI.jl, fun k hk hlt => by
    by_cases e : k = h.toNat
    · subst e; exact hf
    · exact hs k h.toNat hl (by have := hI.i0; omega) hf, hI.above⟩
theorem LowI.down {α : Type} {f : α → Int} {l : List α} {i j h : Int} (hI : LowI f l i j) (hs : Split f l) (h1 : i ≤ h) (h2 : h < j) (hl : h.toNat < l.length) (hf : 0 ≤ f l[h.toNat]) : LowI f l i h :=
  ⟨hI.i0, h1, by have := hI.jl; omega, hI.below, fun k hk hle => by
    by_cases e : k = h.toNat
    · subst e; exact hf
    · rcases Int.lt_or_le (f l[k]) 0 with h3 | h3
      · have := hs h.toNat k hk (by have := hI.i0; omega) h3; omega
      · exact h3⟩
theorem LowI.done {α : Type} {f : α → Int} {l : List α} {i j : Int} (hI : LowI f l i j) (h : j ≤ i) : i = (lowF f l : Int) := by
  have h0 := hI.i0; have h1 := hI.ij; have h2 := hI.jl
  rw [lowF_eq (p := i.toNat) (by omega) (fun k hk hlt => hI.below k hk (by omega)) (fun hl => hI.above _ hl (by omega))]; omega
namespace Exp
def okEntry (x : DEntry) : Bool := Lru.okKey x.key && decide (-1099511627776 ≤ x.value) && decide (x.value ≤ 1099511627776) && decide (0 ≤ x.till) && decide (x.till ≤ 1100585369600)
def checkGo (last : Int) : List DEntry → Int
  | [] => 0
  | x :: l => if okEntry x = false then 3 else if x.key ≤ last then 4 else checkGo x.key l
def check (s : DStore) : Int := if s.life < 1 ∨ 1073741824 < s.life then 3 else if 40 < s.entries.length then 2 else checkGo (-1) s.entries
structure Ok (s : DStore) : Prop where
  life : 1 ≤ s.life ∧ s.life ≤ 1073741824
  len : s.entries.length ≤ 40
  entry : ∀ x ∈ s.entries, okEntry x = true
  sorted : s.entries.Pairwise fun a b => a.key < b.key
theorem okEntry_iff {x : DEntry} : okEntry x = true ↔ (0 ≤ x.key ∧ x.key ≤ 1048576) ∧ (-1099511627776 ≤ x.value ∧ x.value ≤ 1099511627776) ∧ (0 ≤ x.till ∧ x.till ≤ 1100585369600) := by
  simp [okEntry, Lru.okKey, and_assoc]
theorem checkGo_ok : ∀ (l : List DEntry) (last : Int), checkGo last l = 0 ↔ (∀ x ∈ l, okEntry x = true) ∧ (∀ x ∈ l, last < x.key) ∧ l.Pairwise fun a b => a.key < b.key
  | [], last => by simp [checkGo]
  | x :: l, last => by
    rw [checkGo]
    by_cases h1 : okEntry x = false
    · rw [if_pos h1]; simp [h1]
    · rw [if_neg h1]
      by_cases h2 : x.key ≤ last
      · rw [if_pos h2]
        refine ⟨fun h => absurd h (by decide), fun h => ?_⟩
        have := h.2.1 x (by simp); omega
      · rw [if_neg h2, checkGo_ok l]
        have h1' : okEntry x = true := by simpa using h1
        simp only [List.mem_cons, List.pairwise_cons]
        constructor
        · rintro ⟨a, b, c⟩
          refine ⟨by rintro y (rfl | hy); exact h1'; exact a y hy, ?_, b, c⟩
          rintro y (rfl | hy)
          · omega
          · have := b y hy; omega
        · rintro ⟨a, b, c, d⟩
          exact ⟨fun y hy => a y (.inr hy), c, d⟩
theorem check_ok {s : DStore} : check s = 0 ↔ Ok s := by
  unfold check
  constructor
  · intro e
    split at e
    · cases e
    · split at e
      · cases e
      · have := (checkGo_ok _ _).1 e
        exact ⟨by omega, by omega, this.1, this.2.2⟩
  · rintro ⟨a, b, c, d⟩
    rw [if_neg (by omega), if_neg (by omega)]
    exact (checkGo_ok _ _).2 ⟨c, fun x hx => by have := okEntry_iff.1 (c x hx); omega, d⟩
def live (now : Int) (l : List DEntry) : List DEntry := l.filter fun x => decide (now < x.till)
def over (now : Int) (l : List DEntry) : List Int := (l.filter fun x => decide (x.till ≤ now)).map (·.key)
def okNow (now : Int) : Bool := decide (0 ≤ now) && decide (now ≤ 1099511627776)
def nowErr (s : DStore) (now : Int) : Int := if check s = 0 then (if okNow now then 0 else 3) else check s
def zero : DStore := ⟨0, []⟩
def sweep (s : DStore) (now : Int) : DStore × List Int := if nowErr s now = 0 then (⟨s.life, live now s.entries⟩, over now s.entries) else (zero, [])
def getErr (s : DStore) (key now : Int) : Int := if nowErr s now = 0 then (if Lru.okKey key then 0 else 3) else nowErr s now
def getGo (l : List DEntry) (key now : Int) : Int × Bool := match (live now l).find? (fun x => x.key == key) with | some x => (x.value, true) | none => (0, false)
def get (s : DStore) (key now : Int) : Int × Bool := if getErr s key now = 0 then getGo s.entries key now else (0, false)
def okValue (n : Int) : Bool := decide (-1099511627776 ≤ n) && decide (n ≤ 1099511627776)
def putGo (l : List DEntry) (x : DEntry) : List DEntry := l.filter (fun y => decide (y.key < x.key)) ++ x :: l.filter (fun y => decide (x.key < y.key))
def putErr (s : DStore) (key n now : Int) : Int := if getErr s key now = 0 then (if okValue n then (if 40 < (putGo (live now s.entries) ⟨key, n, now + s.life⟩).length then 8 else 0) else 3) else getErr s key now
def put (s : DStore) (key n now : Int) : DStore := if putErr s key n now = 0 then ⟨s.life, putGo (live now s.entries) ⟨key, n, now + s.life⟩⟩ else zero
def least : List DEntry → Int
  | [] => 0
  | x :: l => l.foldl (fun m y => min m y.till) x.till
def nextErr (s : DStore) : Int := if check s = 0 then (if s.entries.length = 0 then 5 else 0) else check s
def next (s : DStore) : Int := if nextErr s = 0 then least s.entries else 0
end Exp
end Go.Sx

/- Stores with times: searching, sweeping, storing; the loops of the program and of the reference. -/
namespace Go.Sx
/-- where the halving search ends -/
def hitF {α : Type} [Inhabited α] (f : α → Int) (l : List α) : Bool := decide ((lowF f l : Int) < (l.length : Int)) && (f (l.getD (lowF f l) default) == 0)
theorem low_spec {α : Type} {f : α → Int} {l : List α} : (∀ k (h : k < l.length), k < lowF f l → f l[k] < 0) ∧ ∀ h : lowF f l < l.length, 0 ≤ f l[lowF f l] := by
  unfold lowF
  induction l with
  | nil => simp
  | cons x l ih =>
    rw [List.takeWhile_cons]
    by_cases h : f x < 0
    · rw [if_pos (by simp [h])]
      refine ⟨fun k hk hlt => ?_, fun hk => ?_⟩
      · cases k with
        | zero => exact h
        | succ k => exact ih.1 k (by simpa using hk) (by simpa using hlt)
      · exact ih.2 (by simpa using hk)
    · rw [if_neg (by simpa using h)]
      exact ⟨fun k hk hlt => by simp at hlt, fun hk => by simp at hk ⊢; omega⟩
theorem low_above {α : Type} {f : α → Int} {l : List α} (hs : Split f l) {k : Nat} (hk : k < l.length) (h : lowF f l ≤ k) : 0 ≤ f l[k] := by
  have h2 := low_spec (f := f) (l := l)
  by_cases e : lowF f l = k
  · subst e; exact h2.2 hk
  · rcases Int.lt_or_le (f l[k]) 0 with h3 | h3
    · have := hs (lowF f l) k hk (by omega) h3
      have := h2.2 (by omega); omega
    · exact h3
/-- the least one: the first of the least -/
def minTo {α : Type} [Inhabited α] (f : α → α → Int) (l : List α) : Nat → α
  | 0 => l.getD 0 default
  | i + 1 => if f (l.getD (i + 1) default) (minTo f l i) < 0 then l.getD (i + 1) default else minTo f l i
def minF {α : Type} [Inhabited α] (f : α → α → Int) (l : List α) : α := minTo f l (l.length - 1)
theorem half_eq {i j : Int} (h0 : 0 ≤ i) (h1 : i ≤ j) (h2 : j ≤ 140737488355328) : IntKind.i64.wrap ((shrU (toU (i + j)) 1).toNat : Int) = (i + j) / 2 := by
  have e : (toU (i + j)).toNat = (i + j).toNat := by
    have := wrapU_int (i + j)
    have h3 := wrapU_lt (m := (i + j).toNat) (by omega)
    rw [show (((i + j).toNat : Nat) : Int) = i + j by omega] at h3
    omega
  have e2 : (shrU (toU (i + j)) 1).toNat = (i + j).toNat / 2 := by rw [shrU_toNat, e]; rfl
  rw [e2, wrap_i64 (by omega)]; omega
namespace Exp
def le_ (l : List DEntry) : Prop := l.Pairwise fun a b => a.key < b.key
theorem sorted_at {l : List DEntry} (h : le_ l) {i j : Nat} (hi : i < l.length) (hj : j < l.length) (hlt : i < j) : l[i].key < l[j].key := List.pairwise_iff_getElem.1 h i j hi hj hlt
theorem same_at {l : List DEntry} (h : le_ l) {x y : DEntry} (hx : x ∈ l) (hy : y ∈ l) (e : x.key = y.key) : x = y := by
  obtain ⟨i, hi, rfl⟩ := List.getElem_of_mem hx
  obtain ⟨j, hj, rfl⟩ := List.getElem_of_mem hy
  rcases Nat.lt_trichotomy i j with h1 | h1 | h1
  · have := sorted_at h hi hj h1; omega
  · subst h1; rfl
  · have := sorted_at h hj hi h1; omega
theorem split_key {l : List DEntry} (h : le_ l) (key : Int) : Split (fun x : DEntry => cmpI x.key key) l := by
  intro a b hb hlt hn
  simp only [cmpI_neg] at hn ⊢
  have := sorted_at h (show a < l.length by omega) hb hlt; omega
abbrev findAt (l : List DEntry) (key : Int) : Nat := lowF (fun x : DEntry => cmpI x.key key) l
abbrev findIs (l : List DEntry) (key : Int) : Bool := hitF (fun x : DEntry => cmpI x.key key) l
theorem findAt_le (l : List DEntry) (key : Int) : findAt l key ≤ l.length := lowF_le _ _
theorem find_below {l : List DEntry} {key : Int} {k : Nat} (hk : k < l.length) (h : k < findAt l key) : l[k].key < key := cmpI_neg.1 ((low_spec (f := fun x : DEntry => cmpI x.key key)).1 k hk h)
theorem find_above {l : List DEntry} (hs : le_ l) {key : Int} {k : Nat} (hk : k < l.length) (h : findAt l key ≤ k) : key ≤ l[k].key := by
  have := low_above (split_key hs key) hk h
  rcases Int.lt_or_le l[k].key key with h2 | h2
  · have := cmpI_neg.2 h2; omega
  · exact h2
theorem findIs_iff {l : List DEntry} {key : Int} : findIs l key = true ↔ ∃ h : findAt l key < l.length, l[findAt l key].key = key := by
  simp only [findIs, hitF, Bool.and_eq_true, decide_eq_true_eq, beq_iff_eq, cmpI_zero]
  constructor
  · rintro ⟨h1, h2⟩
    have h3 : findAt l key < l.length := Int.ofNat_lt.1 h1
    exact ⟨h3, by rw [getd_at h3 default]; exact h2⟩
  · rintro ⟨h1, h2⟩
    exact ⟨Int.ofNat_lt.2 h1, by rw [← getd_at h1 default]; exact h2⟩
theorem findIs_no {l : List DEntry} (hs : le_ l) {key : Int} (h : findIs l key = false) : ∀ x ∈ l, x.key ≠ key := by
  intro x hx e
  obtain ⟨i, hi, rfl⟩ := List.getElem_of_mem hx
  have h1 : ¬ findIs l key = true := by simp [h]
  apply h1
  rw [findIs_iff]
  have h2 : findAt l key ≤ i := by
    rcases Nat.lt_or_ge i (findAt l key) with h3 | h3
    · have := find_below hi h3; omega
    · exact h3
  have h3 := find_above hs (show findAt l key < l.length by omega) (Nat.le_refl _)
  refine ⟨by omega, ?_⟩
  rcases Nat.eq_or_lt_of_le h2 with h4 | h4
  · simp only [h4]; exact e
  · have := sorted_at hs (show findAt l key < l.length by omega) hi h4; omega
theorem live_sorted {l : List DEntry} (h : le_ l) (now : Int) : le_ (live now l) := List.Pairwise.filter _ h
theorem mem_live {l : List DEntry} {now : Int} {x : DEntry} : x ∈ live now l ↔ x ∈ l ∧ now < x.till := by simp [live]
theorem getGo_some {l : List DEntry} (hs : le_ l) {now : Int} {x : DEntry} (hx : x ∈ l) (ht : now < x.till) : getGo l x.key now = (x.value, true) := by
  unfold getGo
  cases e : (live now l).find? (fun y => y.key == x.key) with
  | none =>
    have := List.find?_eq_none.1 e x (mem_live.2 ⟨hx, ht⟩)
    simp at this
  | some y =>
    have h1 := List.mem_of_find?_eq_some e
    have h2 := List.find?_some e
    have := same_at hs (mem_live.1 h1).1 hx (by simpa using h2)
    subst this; rfl
theorem getGo_none {l : List DEntry} {key now : Int} (h : ∀ x ∈ l, x.key = key → x.till ≤ now) : getGo l key now = (0, false) := by
  unfold getGo
  have : (live now l).find? (fun y => y.key == key) = none := by
    rw [List.find?_eq_none]; intro x hx
    have h1 := mem_live.1 hx
    simp only [beq_iff_eq]; intro e
    have := h x h1.1 e; omega
  rw [this]
theorem getGo_same {l m : List DEntry} (hl : le_ l) (hm : le_ m) {key now : Int} (h : ∀ x, x.key = key → now < x.till → (x ∈ l ↔ x ∈ m)) : getGo l key now = getGo m key now := by
  by_cases e : ∃ x ∈ l, x.key = key ∧ now < x.till
  · obtain ⟨x, hx, rfl, ht⟩ := e
    rw [getGo_some hl hx ht, getGo_some hm ((h x rfl ht).1 hx) ht]
  · rw [getGo_none (l := l) fun x hx hk => ?_, getGo_none (l := m) fun x hx hk => ?_]
    · rcases Int.lt_or_le now x.till with h1 | h1
      · exact absurd ⟨x, (h x hk h1).2 hx, hk, h1⟩ e
      · exact h1
    · rcases Int.lt_or_le now x.till with h1 | h1
      · exact absurd ⟨x, hx, hk, h1⟩ e
      · exact h1
/- Check -/
theorem entry_bad {x : DEntry} (h : ((Lru.okKey x.key = false ∨ okValue x.value = false) ∨ x.till < 0) ∨ 1100585369600 < x.till) : okEntry x = false := by
  by_cases e : okEntry x = true
  · have := okEntry_iff.1 e
    simp [Lru.okKey, okValue] at h; omega
  · simpa using e
theorem entry_fine {x : DEntry} (h : ((Lru.okKey x.key = true ∧ okValue x.value = true) ∧ 0 ≤ x.till) ∧ x.till ≤ 1100585369600) : okEntry x = true := by
  rw [okEntry_iff]; simp [Lru.okKey, okValue] at h; omega
structure CkI (l : List DEntry) (last : Int) (k : Nat) : Prop where
  le : k ≤ l.length
  go : checkGo last (l.drop k) = checkGo (-1) l
theorem CkI.start (l : List DEntry) : CkI l (-1) 0 := ⟨Nat.zero_le _, rfl⟩
theorem CkI.step {l : List DEntry} {last : Int} {k : Nat} (h : CkI l last k) (hk : k < l.length) : checkGo (-1) l = if okEntry l[k] = false then 3 else if l[k].key ≤ last then 4 else checkGo l[k].key (l.drop (k + 1)) := by
  rw [← h.go, List.drop_eq_getElem_cons hk, checkGo]
theorem CkI.bad {l : List DEntry} {last : Int} {k : Nat} (h : CkI l last k) (hk : k < l.length) (hb : okEntry l[k] = false) : 3 = checkGo (-1) l := by rw [h.step hk, if_pos hb]
theorem CkI.low {l : List DEntry} {last : Int} {k : Nat} (h : CkI l last k) (hk : k < l.length) (hb : okEntry l[k] = true) (h2 : l[k].key ≤ last) : 4 = checkGo (-1) l := by rw [h.step hk, if_neg (by simp [hb]), if_pos h2]
theorem CkI.next {l : List DEntry} {last : Int} {k : Nat} (h : CkI l last k) (hk : k < l.length) (hb : okEntry l[k] = true) (h2 : last < l[k].key) : CkI l l[k].key (k + 1) :=
  ⟨by omega, by have := h.step hk; rw [if_neg (by simp [hb]), if_neg (by omega)] at this; exact this.symm⟩
theorem CkI.done {l : List DEntry} {last : Int} {k : Nat} (h : CkI l last k) (hk : (l.length : Int) ≤ k) : 0 = checkGo (-1) l := by rw [← h.go, List.drop_of_length_le (by omega)]; rfl
theorem chk1 {s : DStore} (h : s.life < 1 ∨ 1073741824 < s.life) : 3 = check s := by unfold check; rw [if_pos h]
theorem chk2 {s : DStore} (h : 1 ≤ s.life ∧ s.life ≤ 1073741824) (h2 : 40 < (s.entries.length : Int)) : 2 = check s := by unfold check; rw [if_neg (by omega), if_pos (by omega)]
theorem chk3 {s : DStore} {e : Int} (h : 1 ≤ s.life ∧ s.life ≤ 1073741824) (h2 : (s.entries.length : Int) ≤ 40) (h3 : e = checkGo (-1) s.entries) : e = check s := by unfold check; rw [if_neg (by omega), if_neg (by omega)]; exact h3
/-- the key ahead (the reference) -/
def lastOf (l : List DEntry) (i : Nat) : Int := if i = 0 then -1 else (l.getD (i - 1) default).key
theorem CkI.refLow {l : List DEntry} {i j : Nat} (h : CkI l (lastOf l i) i) (hi : i < l.length) (hb : okEntry l[i] = true) (h0 : 0 < i) (hj : j = i - 1) (hjl : j < l.length) (h2 : l[i].key ≤ l[j].key) : 4 = checkGo (-1) l := by
  refine h.low hi hb ?_
  subst hj; rw [lastOf, if_neg (by omega), ← getd_at hjl default]; exact h2
theorem CkI.refNext {l : List DEntry} {i j : Nat} (h : CkI l (lastOf l i) i) (hi : i < l.length) (hb : okEntry l[i] = true) (hj : j = i - 1) (hjl : j < l.length) (h2 : i = 0 ∨ l[j].key < l[i].key) : CkI l (lastOf l (i + 1)) (i + 1) := by
  have e : lastOf l (i + 1) = l[i].key := by rw [lastOf, if_neg (by omega), Nat.add_sub_cancel, ← getd_at hi default]
  rw [e]
  refine h.next hi hb ?_
  rw [lastOf]; split
  · have := (okEntry_iff.1 hb).1; omega
  · subst hj; rw [← getd_at hjl default]; omega
theorem ref_bad {x : DEntry} (h : (Ref.between x.key 0 1048576 = false ∨ Ref.between x.value (-1099511627776) 1099511627776 = false) ∨ Ref.between x.till 0 1100585369600 = false) : okEntry x = false := by
  by_cases e : okEntry x = true
  · have := okEntry_iff.1 e
    simp [Ref.between] at h; omega
  · simpa using e
theorem ref_fine {x : DEntry} (h : (Ref.between x.key 0 1048576 = true ∧ Ref.between x.value (-1099511627776) 1099511627776 = true) ∧ Ref.between x.till 0 1100585369600 = true) : okEntry x = true := by
  rw [okEntry_iff]; simp [Ref.between] at h; omega
/- sweeping -/
structure SwI (s : DStore) (now : Int) (o : DStore) (gone : List Int) (k : Nat) : Prop where
  le : k ≤ s.entries.length
  life : o.life = s.life
  out : o.entries = live now (s.entries.take k)
  gone_ : gone = over now (s.entries.take k)
theorem SwI.start (s : DStore) (now : Int) : SwI s now ⟨s.life, []⟩ [] 0 := ⟨Nat.zero_le _, rfl, rfl, rfl⟩
theorem SwI.lens {s o : DStore} {now : Int} {gone : List Int} {k : Nat} (h : SwI s now o gone k) : o.entries.length ≤ k ∧ gone.length ≤ k := by
  rw [h.out, h.gone_, live, over, List.length_map]
  have h1 := List.length_filter_le (fun x : DEntry => decide (now < x.till)) (s.entries.take k)
  have h2 := List.length_filter_le (fun x : DEntry => decide (x.till ≤ now)) (s.entries.take k)
  rw [List.length_take] at h1 h2; omega
theorem SwI.keep {s o : DStore} {now : Int} {gone : List Int} {k : Nat} (h : SwI s now o gone k) (hk : k < s.entries.length) (ht : now < s.entries[k].till) : SwI s now ⟨o.life, o.entries ++ [s.entries[k]]⟩ gone (k + 1) := by
  refine ⟨by omega, h.life, ?_, ?_⟩
  · rw [List.take_succ_eq_append_getElem hk, live, List.filter_append, h.out, live]; simp [ht]
  · rw [List.take_succ_eq_append_getElem hk, over, List.filter_append, List.map_append, h.gone_, over]; simp; omega
theorem SwI.drop {s o : DStore} {now : Int} {gone : List Int} {k : Nat} (h : SwI s now o gone k) (hk : k < s.entries.length) (ht : s.entries[k].till ≤ now) : SwI s now o (gone ++ [s.entries[k].key]) (k + 1) := by
  refine ⟨by omega, h.life, ?_, ?_⟩
  · rw [List.take_succ_eq_append_getElem hk, live, List.filter_append, h.out, live]; simp; omega
  · rw [List.take_succ_eq_append_getElem hk, over, List.filter_append, List.map_append, h.gone_, over]; simp [ht]
theorem store_eq {a : DStore} {n : Int} {l : List DEntry} (h : a.life = n) (h2 : a.entries = l) : a = ⟨n, l⟩ := by cases a; simp_all
theorem SwI.done {s o : DStore} {now : Int} {gone : List Int} {k : Nat} (h : SwI s now o gone k) (hk : (s.entries.length : Int) ≤ k) : o = ⟨s.life, live now s.entries⟩ ∧ gone = over now s.entries := by
  have e : s.entries.take k = s.entries := List.take_of_length_le (by omega)
  refine ⟨store_eq h.life (by rw [h.out, e]), by rw [h.gone_, e]⟩
/- errors -/
theorem now_cases (s : DStore) (now : Int) : (check s ≠ 0 ∧ nowErr s now = check s) ∨ (check s = 0 ∧ okNow now = false ∧ nowErr s now = 3) ∨ (check s = 0 ∧ okNow now = true ∧ nowErr s now = 0) := by
  unfold nowErr
  by_cases h : check s = 0
  · rw [if_pos h]
    by_cases h2 : okNow now = true
    · exact .inr (.inr ⟨h, h2, if_pos h2⟩)
    · exact .inr (.inl ⟨h, by simpa using h2, if_neg h2⟩)
  · exact .inl ⟨h, if_neg h⟩
theorem now_ok {s : DStore} {now : Int} (h : nowErr s now = 0) : Ok s ∧ 0 ≤ now ∧ now ≤ 1099511627776 := by
  rcases now_cases s now with ⟨a, b⟩ | ⟨a, b, d⟩ | ⟨a, b, d⟩
  · exact absurd (b.symm.trans h) a
  · rw [h] at d; exact absurd d (by decide)
  · simp [okNow] at b; exact ⟨check_ok.1 a, b.1, b.2⟩
theorem get_ok {s : DStore} {key now : Int} (h : getErr s key now = 0) : nowErr s now = 0 ∧ Lru.okKey key = true := by
  unfold getErr at h
  split at h
  · rename_i h1; split at h
    · rename_i h2; exact ⟨h1, h2⟩
    · exact absurd h (by decide)
  · rename_i h1; exact absurd h h1
theorem put_ok {s : DStore} {key n now : Int} (h : putErr s key n now = 0) : getErr s key now = 0 ∧ okValue n = true ∧ (putGo (live now s.entries) ⟨key, n, now + s.life⟩).length ≤ 40 := by
  unfold putErr at h
  split at h
  · rename_i h1; split at h
    · rename_i h2; split at h
      · exact absurd h (by decide)
      · exact ⟨h1, h2, by omega⟩
    · exact absurd h (by decide)
  · rename_i h1; exact absurd h h1
theorem sweep1 {s : DStore} {now : Int} (h : nowErr s now ≠ 0) : sweep s now = (zero, []) := if_neg h
theorem sweep2 {s : DStore} {now : Int} (h : nowErr s now = 0) : sweep s now = (⟨s.life, live now s.entries⟩, over now s.entries) := if_pos h
/- getting -/
theorem got {l : List DEntry} (hs : le_ l) {key now : Int} (h1 : findIs l key = true) (hl : findAt l key < l.length) (ht : now < l[findAt l key].till) : getGo l key now = (l[findAt l key].value, true) := by
  obtain ⟨h2, e⟩ := findIs_iff.1 h1
  have := getGo_some hs (List.getElem_mem hl) ht
  rw [e] at this; exact this
theorem got_no {l : List DEntry} (hs : le_ l) {key now : Int} (h : findIs l key = false ∨ ∀ hl : findAt l key < l.length, l[findAt l key].till ≤ now) : getGo l key now = (0, false) := by
  by_cases h1 : findIs l key = true
  · obtain ⟨h2, e⟩ := findIs_iff.1 h1
    have h3 := (h.resolve_left (by simp [h1])) h2
    refine getGo_none fun x hx hk => ?_
    have := same_at hs hx (List.getElem_mem h2) (by rw [hk, e])
    rw [this]; exact h3
  · exact getGo_none fun x hx hk => absurd hk (findIs_no hs (by simpa using h1) x hx)
theorem get1 {s : DStore} {key now : Int} (h : getErr s key now ≠ 0) : get s key now = (0, false) := if_neg h
theorem get2 {s : DStore} {key now : Int} (h : getErr s key now = 0) : get s key now = getGo s.entries key now := if_pos h
/- storing -/
theorem below_take {l : List DEntry} (hs : le_ l) (key : Int) : l.filter (fun y => decide (y.key < key)) = l.take (findAt l key) := by
  conv => lhs; rw [← List.take_append_drop (findAt l key) l, List.filter_append]
  have h1 : (l.take (findAt l key)).filter (fun y => decide (y.key < key)) = l.take (findAt l key) := by
    rw [List.filter_eq_self]; intro x hx
    obtain ⟨i, hi, rfl⟩ := List.getElem_of_mem hx
    rw [List.length_take] at hi; rw [List.getElem_take]
    exact decide_eq_true (find_below (by omega) (by omega))
  have h2 : (l.drop (findAt l key)).filter (fun y => decide (y.key < key)) = [] := by
    rw [List.filter_eq_nil_iff]; intro x hx
    obtain ⟨i, hi, rfl⟩ := List.getElem_of_mem hx
    rw [List.length_drop] at hi; rw [List.getElem_drop]
    have := find_above hs (key := key) (show findAt l key + i < l.length by omega) (by omega)
    simp; omega
  rw [h1, h2, List.append_nil]
theorem above_drop {l : List DEntry} (hs : le_ l) (key : Int) : l.filter (fun y => decide (key < y.key)) = l.drop (findAt l key + (if findIs l key = true then 1 else 0)) := by
  have hle := findAt_le l key
  generalize hn : findAt l key + (if findIs l key = true then 1 else 0) = n
  have hcase : (findIs l key = true ∧ n = findAt l key + 1) ∨ (findIs l key = false ∧ n = findAt l key) := by
    cases h : findIs l key
    · right; rw [h] at hn; exact ⟨rfl, by simpa using hn.symm⟩
    · left; rw [h] at hn; exact ⟨rfl, by simpa using hn.symm⟩
  conv => lhs; rw [← List.take_append_drop n l, List.filter_append]
  have h1 : (l.take n).filter (fun y => decide (key < y.key)) = [] := by
    rw [List.filter_eq_nil_iff]; intro x hx
    obtain ⟨i, hi, rfl⟩ := List.getElem_of_mem hx
    rw [List.length_take] at hi; rw [List.getElem_take]
    simp only [decide_eq_true_eq]
    by_cases h : i < findAt l key
    · have := find_below (show i < l.length by omega) h; omega
    · rcases hcase with ⟨h2, h3⟩ | ⟨h2, h3⟩
      · obtain ⟨h4, e⟩ := findIs_iff.1 h2
        have : i = findAt l key := by omega
        subst this; omega
      · omega
  have h2 : (l.drop n).filter (fun y => decide (key < y.key)) = l.drop n := by
    rw [List.filter_eq_self]; intro x hx
    obtain ⟨i, hi, rfl⟩ := List.getElem_of_mem hx
    rw [List.length_drop] at hi; rw [List.getElem_drop]
    apply decide_eq_true
    rcases hcase with ⟨h2, h3⟩ | ⟨h2, h3⟩
    · obtain ⟨h4, e⟩ := findIs_iff.1 h2
      have := sorted_at hs h4 (show n + i < l.length by omega) (by omega); omega
    · have h5 := find_above hs (key := key) (show n + i < l.length by omega) (by omega)
      have h6 := findIs_no hs h2 _ (List.getElem_mem (show n + i < l.length by omega)); omega
  rw [h1, h2, List.nil_append]
theorem put_is {l : List DEntry} (hs : le_ l) {x : DEntry} (h : findIs l x.key = true) : l.set (findAt l x.key) x = putGo l x := by
  obtain ⟨h1, _⟩ := findIs_iff.1 h
  rw [putGo, below_take hs, above_drop hs, if_pos h, List.set_eq_take_append_cons_drop, if_pos h1]
theorem put_not {l : List DEntry} (hs : le_ l) {x : DEntry} (h : findIs l x.key = false) : l.take (findAt l x.key) ++ [x] ++ l.drop (findAt l x.key) = putGo l x := by
  rw [putGo, below_take hs, above_drop hs, if_neg (by simp [h]), List.append_assoc]; rfl
theorem putGo_len {l : List DEntry} (hs : le_ l) (x : DEntry) : (putGo l x).length = if findIs l x.key = true then l.length else l.length + 1 := by
  cases h : findIs l x.key
  · rw [← put_not hs h]
    have := findAt_le l x.key
    simp; omega
  · rw [← put_is hs h]; simp
theorem mem_put {l : List DEntry} {x y : DEntry} : y ∈ putGo l x ↔ y = x ∨ (y ∈ l ∧ y.key ≠ x.key) := by
  simp only [putGo, List.mem_append, List.mem_cons, List.mem_filter, decide_eq_true_eq]
  constructor
  · rintro (⟨h1, h2⟩ | h | ⟨h1, h2⟩)
    · exact .inr ⟨h1, by omega⟩
    · exact .inl h
    · exact .inr ⟨h1, by omega⟩
  · rintro (h | ⟨h1, h2⟩)
    · exact .inr (.inl h)
    · rcases Int.lt_or_gt_of_ne h2 with h3 | h3
      · exact .inl ⟨h1, h3⟩
      · exact .inr (.inr ⟨h1, h3⟩)
theorem put_sorted {l : List DEntry} (hs : le_ l) (x : DEntry) : le_ (putGo l x) := by
  unfold le_ putGo
  rw [List.pairwise_append]
  refine ⟨List.Pairwise.filter _ hs, ?_, ?_⟩
  · rw [List.pairwise_cons]
    exact ⟨fun y hy => by simpa using (List.mem_filter.1 hy).2, List.Pairwise.filter _ hs⟩
  · intro a ha b hb
    have h1 := (List.mem_filter.1 ha).2
    simp only [decide_eq_true_eq] at h1
    rcases List.mem_cons.1 hb with rfl | hb
    · exact h1
    · have h2 := (List.mem_filter.1 hb).2
      simp only [decide_eq_true_eq] at h2; omega
end Exp
end Go.Sx
namespace Go.Sx
theorem hit_eq {α : Type} [Inhabited α] {f : α → Int} {l : List α} {i : Int} (h : i = (lowF f l : Int)) : (decide (i < (l.length : Int)) && (f (l.getD i.toNat default) == 0)) = hitF f l := by subst h; rfl
theorem min_yes {α : Type} [Inhabited α] {f : α → α → Int} {l : List α} {m : α} {i : Nat} (h : m = minTo f l (i - 1)) (h1 : 1 ≤ i) (hlt : f (l.getD i default) m < 0) : l.getD i default = minTo f l (i + 1 - 1) := by
  obtain ⟨j, rfl⟩ := Nat.exists_eq_add_of_le' h1
  rw [Nat.add_sub_cancel] at h ⊢
  rw [minTo, if_pos (by rw [← h]; exact hlt)]
theorem min_no {α : Type} [Inhabited α] {f : α → α → Int} {l : List α} {m : α} {i : Nat} (h : m = minTo f l (i - 1)) (h1 : 1 ≤ i) (hlt : 0 ≤ f (l.getD i default) m) : m = minTo f l (i + 1 - 1) := by
  obtain ⟨j, rfl⟩ := Nat.exists_eq_add_of_le' h1
  rw [Nat.add_sub_cancel] at h ⊢
  rw [minTo, if_neg (by rw [← h]; omega), h]
theorem min_done {α : Type} [Inhabited α] {f : α → α → Int} {l : List α} {m : α} {i : Nat} (h : m = minTo f l (i - 1)) (h1 : (l.length : Int) ≤ i) (h2 : i ≤ l.length) : m = minF f l := by
  rw [h, minF, show i = l.length by omega]
end Go.Sx

/- Rings of points: the plain functions. -/
namespace Go.Sx
structure DPoint where
  at_ : Int
  shard : Int
deriving DecidableEq
instance : Inhabited DPoint := ⟨⟨0, 0⟩⟩
def tPoint : Ty DPoint := ⟨2, fun c => [.int .i64 c.at_, .int .i64 c.shard], fun _ => rfl⟩
namespace Rg
def okAt (n : Int) : Bool := decide (0 ≤ n) && decide (n < 65536)
def okShard (n : Int) : Bool := decide (0 ≤ n) && decide (n < 20)
def okPoint (p : DPoint) : Bool := okShard p.shard && okAt p.at_
def checkGo (last : Int) : List DPoint → Int
  | [] => 0
  | p :: l => if okPoint p = false then 3 else if p.at_ ≤ last then 4 else checkGo p.at_ l
def check (l : List DPoint) : Int := if 60 < l.length then 2 else checkGo (-1) l
def le_ (l : List DPoint) : Prop := l.Pairwise fun a b => a.at_ < b.at_
/-- points that are right, in order -/
structure Fine (l : List DPoint) : Prop where
  point : ∀ p ∈ l, okPoint p = true
  sorted : le_ l
structure Ok (l : List DPoint) : Prop where
  len : l.length ≤ 60
  fine : Fine l
theorem okPoint_iff {p : DPoint} : okPoint p = true ↔ (0 ≤ p.shard ∧ p.shard < 20) ∧ 0 ≤ p.at_ ∧ p.at_ < 65536 := by simp [okPoint, okShard, okAt]
theorem checkGo_ok : ∀ (l : List DPoint) (last : Int), checkGo last l = 0 ↔ (∀ p ∈ l, okPoint p = true) ∧ (∀ p ∈ l, last < p.at_) ∧ le_ l
  | [], last => by simp [checkGo, le_]
  | x :: l, last => by
    rw [checkGo]
    by_cases h1 : okPoint x = false
    · rw [if_pos h1]; simp [h1]
    · rw [if_neg h1]
      by_cases h2 : x.at_ ≤ last
      · rw [if_pos h2]
        refine ⟨fun h => absurd h (by decide), fun h => ?_⟩
        have := h.2.1 x (by simp); omega
      · rw [if_neg h2, checkGo_ok l]
        have h1' : okPoint x = true := by simpa using h1
        simp only [le_, List.mem_cons, List.pairwise_cons]
        constructor
        · rintro ⟨a, b, c⟩
          refine ⟨by rintro y (rfl | hy); exact h1'; exact a y hy, ?_, b, c⟩
          rintro y (rfl | hy)
          · omega
          · have := b y hy; omega
        · rintro ⟨a, b, c, d⟩
          exact ⟨fun y hy => a y (.inr hy), c, d⟩
theorem check_ok {l : List DPoint} : check l = 0 ↔ Ok l := by
  unfold check
  constructor
  · intro e
    split at e
    · cases e
    · have := (checkGo_ok _ _).1 e
      exact ⟨by omega, this.1, this.2.2⟩
  · rintro ⟨a, b, c⟩
    rw [if_neg (by omega)]
    exact (checkGo_ok _ _).2 ⟨b, fun p hp => by have := okPoint_iff.1 (b p hp); omega, c⟩
abbrev low (l : List DPoint) (a : Int) : Nat := lowF (fun x : DPoint => cmpI x.at_ a) l
abbrev hit (l : List DPoint) (a : Int) : Bool := hitF (fun x : DPoint => cmpI x.at_ a) l
def ownIx (l : List DPoint) (a : Int) : Nat := if low l a = l.length then 0 else low l a
def ownGo (l : List DPoint) (a : Int) : Int := (l.getD (ownIx l a) default).shard
def ownErr (l : List DPoint) (a : Int) : Int := if check l = 0 then (if okAt a then (if l.length = 0 then 5 else 0) else 3) else check l
def owner (l : List DPoint) (a : Int) : Int := if ownErr l a = 0 then ownGo l a else 0
def ins (l : List DPoint) (p : DPoint) : List DPoint := l.take (low l p.at_) ++ [p] ++ l.drop (low l p.at_)
def addGo (s : Int) (out : List DPoint) : List Int → Option (List DPoint)
  | [] => some out
  | a :: ps => if hit out a = true then none else addGo s (ins out ⟨a, s⟩) ps
def rightAdd (s : Int) (ps : List Int) : Bool := okShard s && !(ps.any fun a => !okAt a)
def addErr (l : List DPoint) (s : Int) (ps : List Int) : Int :=
  if check l = 0 then (if rightAdd s ps then (match addGo s l ps with | none => 6 | some o => if 60 < o.length then 2 else 0) else 3) else check l
def add (l : List DPoint) (s : Int) (ps : List Int) : List DPoint := if addErr l s ps = 0 then (addGo s l ps).getD [] else []
def dropS (l : List DPoint) (s : Int) : List DPoint := l.filter fun p => !(p.shard == s)
def remErr (l : List DPoint) (s : Int) : Int := if check l = 0 then (if (dropS l s).length = l.length then 5 else 0) else check l
def rem (l : List DPoint) (s : Int) : List DPoint := if remErr l s = 0 then dropS l s else []
def shGo (s : Int) (last : Int) : List DPoint → Int
  | [] => 0
  | p :: l => (if p.shard = s then p.at_ - last else 0) + shGo s p.at_ l
def begun (l : List DPoint) : Int := (l.getD (l.length - 1) default).at_ - 65536
def share (l : List DPoint) (s : Int) : Int := shGo s (begun l) l
def shares20 (l : List DPoint) : List Int := (List.range 20).map fun s => share l (s : Nat)
def shErr (l : List DPoint) (n : Int) : Int := if check l = 0 then (if 1 ≤ n ∧ n ≤ 20 then (if l.length = 0 then 5 else 0) else 3) else check l
def shares (l : List DPoint) (n : Int) : List Int := if shErr l n = 0 then (shares20 l).take n.toNat else []
end Rg
end Go.Sx

/- Rings of points: searching, adding, removing, shares; the loops of the program and of the reference. -/
namespace Go.Sx.Rg
theorem sorted_at {l : List DPoint} (h : le_ l) {i j : Nat} (hi : i < l.length) (hj : j < l.length) (hlt : i < j) : l[i].at_ < l[j].at_ := List.pairwise_iff_getElem.1 h i j hi hj hlt
theorem split_at {l : List DPoint} (h : le_ l) (a : Int) : Split (fun x : DPoint => cmpI x.at_ a) l := by
  intro i b hb hlt hn
  simp only [cmpI_neg] at hn ⊢
  have := sorted_at h (show i < l.length by omega) hb hlt; omega
theorem low_le (l : List DPoint) (a : Int) : low l a ≤ l.length := lowF_le _ _
theorem below {l : List DPoint} {a : Int} {k : Nat} (hk : k < l.length) (h : k < low l a) : l[k].at_ < a := cmpI_neg.1 ((low_spec (f := fun x : DPoint => cmpI x.at_ a)).1 k hk h)
theorem above {l : List DPoint} (hs : le_ l) {a : Int} {k : Nat} (hk : k < l.length) (h : low l a ≤ k) : a ≤ l[k].at_ := by
  have := low_above (split_at hs a) hk h
  rcases Int.lt_or_le l[k].at_ a with h2 | h2
  · have := cmpI_neg.2 h2; omega
  · exact h2
theorem hit_at {l : List DPoint} {a : Int} : hit l a = true ↔ ∃ h : low l a < l.length, l[low l a].at_ = a := by
  simp only [hit, hitF, Bool.and_eq_true, decide_eq_true_eq, beq_iff_eq, cmpI_zero]
  constructor
  · rintro ⟨h1, h2⟩
    have h3 : low l a < l.length := Int.ofNat_lt.1 h1
    exact ⟨h3, by rw [getd_at h3 default]; exact h2⟩
  · rintro ⟨h1, h2⟩
    exact ⟨Int.ofNat_lt.2 h1, by rw [← getd_at h1 default]; exact h2⟩
theorem hit_iff {l : List DPoint} (hs : le_ l) {a : Int} : hit l a = true ↔ a ∈ l.map (·.at_) := by
  rw [hit_at, List.mem_map]
  constructor
  · rintro ⟨h, e⟩; exact ⟨_, List.getElem_mem h, e⟩
  · rintro ⟨x, hx, e⟩
    obtain ⟨i, hi, rfl⟩ := List.getElem_of_mem hx
    have h2 : low l a ≤ i := by
      rcases Nat.lt_or_ge i (low l a) with h3 | h3
      · have := below hi h3; omega
      · exact h3
    have h3 := above hs (show low l a < l.length by omega) (Nat.le_refl _)
    refine ⟨by omega, ?_⟩
    rcases Nat.eq_or_lt_of_le h2 with h4 | h4
    · simp only [h4]; exact e
    · have := sorted_at hs (show low l a < l.length by omega) hi h4; omega
theorem mem_ins {l : List DPoint} {p x : DPoint} : x ∈ ins l p ↔ x = p ∨ x ∈ l := by
  unfold ins
  have e : x ∈ l ↔ x ∈ l.take (low l p.at_) ∨ x ∈ l.drop (low l p.at_) := by rw [← List.mem_append, List.take_append_drop]
  rw [e]; simp only [List.mem_append, List.mem_singleton]
  constructor
  · rintro ((h | h) | h) <;> simp [h]
  · rintro (h | h | h) <;> simp [h]
theorem ins_len (l : List DPoint) (p : DPoint) : (ins l p).length = l.length + 1 := by
  have := low_le l p.at_
  simp only [ins, List.length_append, List.length_take, List.length_drop, List.length_singleton]; omega
theorem ins_sorted {l : List DPoint} (hs : le_ l) {p : DPoint} (hn : p.at_ ∉ l.map (·.at_)) : le_ (ins l p) := by
  unfold ins le_
  rw [List.append_assoc, List.singleton_append, List.pairwise_append]
  refine ⟨List.Pairwise.sublist (List.take_sublist _ _) hs, List.pairwise_cons.2 ⟨fun y hy => ?_, List.Pairwise.sublist (List.drop_sublist _ _) hs⟩, fun x hx y hy => ?_⟩
  · obtain ⟨j, hj, rfl⟩ := List.getElem_of_mem hy
    rw [List.getElem_drop]
    rw [List.length_drop] at hj
    have h1 := above hs (k := low l p.at_ + j) (a := p.at_) (by omega) (by omega)
    have h2 : l[low l p.at_ + j].at_ ≠ p.at_ := fun e => hn (List.mem_map.2 ⟨_, List.getElem_mem (by omega), e⟩)
    omega
  · obtain ⟨i, hi, rfl⟩ := List.getElem_of_mem hx
    rw [List.length_take] at hi
    rw [List.getElem_take]
    have h1 := below (a := p.at_) (k := i) (l := l) (by omega) (by omega)
    rcases List.mem_cons.1 hy with rfl | hy
    · exact h1
    · obtain ⟨j, hj, rfl⟩ := List.getElem_of_mem hy
      rw [List.length_drop] at hj
      rw [List.getElem_drop]
      have h2 := above hs (k := low l p.at_ + j) (a := p.at_) (by omega) (by omega)
      omega
theorem Fine.ins {l : List DPoint} (h : Fine l) {p : DPoint} (hp : okPoint p = true) (hn : p.at_ ∉ l.map (·.at_)) : Fine (ins l p) :=
  ⟨fun x hx => by rcases mem_ins.1 hx with rfl | hx; exact hp; exact h.point x hx, ins_sorted h.sorted hn⟩
theorem at_ge {l : List DPoint} (h : Fine l) : ∀ (i : Nat) (hi : i < l.length), (i : Int) ≤ l[i].at_
  | 0, hi => by have := (okPoint_iff.1 (h.point _ (List.getElem_mem hi))).2; simpa using this.1
  | i + 1, hi => by
    have h1 := at_ge h i (by omega)
    have h2 := sorted_at h.sorted (show i < l.length by omega) hi (by omega)
    omega
theorem Fine.len {l : List DPoint} (h : Fine l) : l.length ≤ 65536 := by
  rcases Nat.eq_zero_or_pos l.length with h0 | h0
  · omega
  · have h1 := at_ge h (l.length - 1) (by omega)
    have h2 := (okPoint_iff.1 (h.point _ (List.getElem_mem (show l.length - 1 < l.length by omega)))).2
    omega
/-- two lists in order with the same points are one -/
theorem same_of_mem : ∀ {l m : List DPoint}, le_ l → le_ m → (∀ x, x ∈ l ↔ x ∈ m) → l = m
  | [], [], _, _, _ => rfl
  | [], y :: m, _, _, h => absurd ((h y).2 (by simp)) (by simp)
  | x :: l, [], _, _, h => absurd ((h x).1 (by simp)) (by simp)
  | x :: l, y :: m, hl, hm, h => by
    have h1 := List.pairwise_cons.1 hl
    have h2 := List.pairwise_cons.1 hm
    have e : x = y := by
      rcases List.mem_cons.1 ((h x).1 (by simp)) with e | e
      · exact e
      · rcases List.mem_cons.1 ((h y).2 (by simp)) with e2 | e2
        · exact e2.symm
        · have := h1.1 y e2; have := h2.1 x e; omega
    subst e
    congr 1
    refine same_of_mem h1.2 h2.2 fun z => ⟨fun hz => ?_, fun hz => ?_⟩
    · rcases List.mem_cons.1 ((h z).1 (by simp [hz])) with e | e
      · subst e; have := h1.1 z hz; omega
      · exact e
    · rcases List.mem_cons.1 ((h z).2 (by simp [hz])) with e | e
      · subst e; have := h2.1 z hz; omega
      · exact e
/-! ### Adding -/
structure Added (l : List DPoint) (s : Int) (ps : List Int) (o : List DPoint) : Prop where
  fine : Fine o
  mem : ∀ x, x ∈ o ↔ x ∈ l ∨ (x.shard = s ∧ x.at_ ∈ ps)
  len : o.length = l.length + ps.length
  less : dropS o s = dropS l s
theorem drop_ins (l : List DPoint) (a s : Int) : dropS (ins l ⟨a, s⟩) s = dropS l s := by
  unfold dropS ins
  simp only [List.filter_append]
  rw [show List.filter (fun p : DPoint => !(p.shard == s)) [⟨a, s⟩] = [] by simp, List.append_nil, ← List.filter_append, List.take_append_drop]
theorem added {s : Int} (h0 : okShard s = true) : ∀ {ps : List Int} {l o : List DPoint}, (∀ a ∈ ps, okAt a = true) → Fine l → addGo s l ps = some o → Added l s ps o
  | [], l, o, _, hl, e => by
    simp only [addGo, Option.some.injEq] at e; subst e
    exact ⟨hl, fun x => by simp, by simp, rfl⟩
  | a :: ps, l, o, hp, hl, e => by
    rw [addGo] at e
    split at e
    · cases e
    · rename_i hh
      have hn : a ∉ l.map (·.at_) := fun h => hh ((hit_iff hl.sorted).2 h)
      have ho : okPoint ⟨a, s⟩ = true := by simp only [okPoint, h0, hp a (by simp), Bool.and_self]
      have h2 := added h0 (fun b hb => hp b (by simp [hb])) (hl.ins ho hn) e
      refine ⟨h2.fine, fun x => ?_, by have := h2.len; rw [ins_len] at this; simp only [List.length_cons]; omega, h2.less.trans (drop_ins _ _ _)⟩
      rw [h2.mem, mem_ins]
      constructor
      · rintro ((h | h) | h)
        · subst h; exact .inr ⟨rfl, by simp⟩
        · exact .inl h
        · exact .inr ⟨h.1, by simp [h.2]⟩
      · rintro (h | ⟨h1, h2⟩)
        · exact .inl (.inr h)
        · rcases List.mem_cons.1 h2 with h | h
          · exact .inl (.inl (by cases x; simp_all))
          · exact .inr ⟨h1, h⟩
def dup (l : List DPoint) (ps : List Int) : Prop := ∃ i, ∃ h : i < ps.length, ps[i] ∈ ps.take i ∨ ps[i] ∈ l.map (·.at_)
theorem none_iff {s : Int} (h0 : okShard s = true) : ∀ {ps : List Int} {l : List DPoint}, (∀ a ∈ ps, okAt a = true) → Fine l → (addGo s l ps = none ↔ dup l ps)
  | [], l, _, _ => ⟨fun h => (by cases h), fun ⟨i, h, _⟩ => absurd h (by simp)⟩
  | a :: ps, l, hp, hl => by
    rw [addGo]
    split
    · rename_i hh
      exact ⟨fun _ => ⟨0, by simp, .inr ((hit_iff hl.sorted).1 hh)⟩, fun _ => rfl⟩
    · rename_i hh
      have hn : a ∉ l.map (·.at_) := fun h => hh ((hit_iff hl.sorted).2 h)
      have ho : okPoint ⟨a, s⟩ = true := by simp only [okPoint, h0, hp a (by simp), Bool.and_self]
      rw [none_iff h0 (fun b hb => hp b (by simp [hb])) (hl.ins ho hn)]
      have hm : ∀ b : Int, b ∈ (ins l ⟨a, s⟩).map (·.at_) ↔ b = a ∨ b ∈ l.map (·.at_) := fun b => by
        simp only [List.mem_map, mem_ins]
        constructor
        · rintro ⟨x, h | h, e⟩
          · subst h; exact .inl e.symm
          · exact .inr ⟨x, h, e⟩
        · rintro (h | ⟨x, h, e⟩)
          · exact ⟨_, .inl rfl, h.symm⟩
          · exact ⟨x, .inr h, e⟩
      constructor
      · rintro ⟨i, hi, h⟩
        refine ⟨i + 1, by simpa using hi, ?_⟩
        simp only [List.getElem_cons_succ, List.take_succ_cons, List.mem_cons]
        rcases h with h | h
        · exact .inl (.inr h)
        · rcases (hm _).1 h with h | h
          · exact .inl (.inl h)
          · exact .inr h
      · rintro ⟨i, hi, h⟩
        cases i with
        | zero => simp only [List.getElem_cons_zero, List.take_zero, List.not_mem_nil, false_or] at h; exact absurd h hn
        | succ i =>
          simp only [List.getElem_cons_succ, List.take_succ_cons, List.mem_cons] at h
          refine ⟨i, by simpa using hi, ?_⟩
          rcases h with (h | h) | h
          · exact .inr ((hm _).2 (.inl h))
          · exact .inl h
          · exact .inr ((hm _).2 (.inr h))
structure AInv (l : List DPoint) (s : Int) (ps : List Int) (out : List DPoint) (k : Nat) : Prop where
  go : addGo s out (ps.drop k) = addGo s l ps
  fine : Fine out
  le : k ≤ ps.length
theorem AInv.start {l : List DPoint} {s : Int} {ps : List Int} (h : Ok l) : AInv l s ps l 0 := ⟨rfl, h.fine, Nat.zero_le _⟩
theorem AInv.len {l out : List DPoint} {s : Int} {ps : List Int} {k : Nat} (h : AInv l s ps out k) : out.length ≤ 65536 := h.fine.len
theorem right_at {s : Int} {ps : List Int} (h : rightAdd s ps = true) : okShard s = true ∧ ∀ a ∈ ps, okAt a = true := by
  simp only [rightAdd, Bool.and_eq_true, Bool.not_eq_true', List.any_eq_false] at h
  exact ⟨h.1, fun a ha => by have := h.2 a ha; simpa using this⟩
theorem AInv.next {l out : List DPoint} {s : Int} {ps : List Int} {k : Nat} (h : AInv l s ps out k) (hk : k < ps.length) (hr : rightAdd s ps = true) (hh : hit out ps[k] = false) : AInv l s ps (out.take (low out ps[k]) ++ [⟨ps[k], s⟩] ++ out.drop (low out ps[k])) (k + 1) := by
  have h1 := right_at hr
  have hn : ps[k] ∉ out.map (·.at_) := fun h2 => by rw [(hit_iff h.fine.sorted).2 h2] at hh; cases hh
  refine ⟨?_, h.fine.ins (p := ⟨ps[k], s⟩) (by simp only [okPoint, h1.1, h1.2 _ (List.getElem_mem hk), Bool.and_self]) hn, by omega⟩
  rw [← h.go, List.drop_eq_getElem_cons hk, addGo, if_neg (by simp [hh])]; rfl
theorem AInv.twice {l out : List DPoint} {s : Int} {ps : List Int} {k : Nat} (h : AInv l s ps out k) (hk : k < ps.length) (hh : hit out ps[k] = true) : addGo s l ps = none := by
  rw [← h.go, List.drop_eq_getElem_cons hk, addGo, if_pos hh]
theorem AInv.done {l out : List DPoint} {s : Int} {ps : List Int} {k : Nat} (h : AInv l s ps out k) (hk : ps.length ≤ k) : addGo s l ps = some out := by
  rw [← h.go, List.drop_of_length_le hk]; rfl
theorem ad1 {l : List DPoint} {s : Int} {ps : List Int} (h : check l ≠ 0) : add l s ps = [] ∧ addErr l s ps = check l := by
  have e : addErr l s ps = check l := if_neg h
  exact ⟨by unfold add; rw [e, if_neg h], e⟩
theorem ad2 {l : List DPoint} {s : Int} {ps : List Int} (h : check l = 0) (h2 : rightAdd s ps = false) : add l s ps = [] ∧ addErr l s ps = 3 := by
  have e : addErr l s ps = 3 := by unfold addErr; rw [if_pos h, if_neg (by simp [h2])]
  exact ⟨by unfold add; rw [e]; rfl, e⟩
theorem ad3 {l : List DPoint} {s : Int} {ps : List Int} (h : check l = 0) (h2 : rightAdd s ps = true) (h3 : addGo s l ps = none) : add l s ps = [] ∧ addErr l s ps = 6 := by
  have e : addErr l s ps = 6 := by unfold addErr; rw [if_pos h, if_pos h2, h3]
  exact ⟨by unfold add; rw [e]; rfl, e⟩
theorem ad4 {l o : List DPoint} {s : Int} {ps : List Int} (h : check l = 0) (h2 : rightAdd s ps = true) (h3 : addGo s l ps = some o) (h4 : 60 < o.length) : add l s ps = [] ∧ addErr l s ps = 2 := by
  have e : addErr l s ps = 2 := by unfold addErr; rw [if_pos h, if_pos h2, h3]; exact if_pos h4
  exact ⟨by unfold add; rw [e]; rfl, e⟩
theorem ad5 {l o : List DPoint} {s : Int} {ps : List Int} (h : check l = 0) (h2 : rightAdd s ps = true) (h3 : addGo s l ps = some o) (h4 : o.length ≤ 60) : add l s ps = o ∧ addErr l s ps = 0 := by
  have e : addErr l s ps = 0 := by unfold addErr; rw [if_pos h, if_pos h2, h3]; exact if_neg (by omega)
  exact ⟨by unfold add; rw [if_pos e, h3]; rfl, e⟩
theorem add_ok {l : List DPoint} {s : Int} {ps : List Int} (h : addErr l s ps = 0) : check l = 0 ∧ rightAdd s ps = true ∧ addGo s l ps = some (add l s ps) ∧ (add l s ps).length ≤ 60 := by
  by_cases h1 : check l = 0
  · cases h2 : rightAdd s ps
    · have := (ad2 h1 h2).2; omega
    · cases h3 : addGo s l ps with
      | none => have := (ad3 h1 h2 h3).2; omega
      | some o =>
        by_cases h4 : 60 < o.length
        · have := (ad4 h1 h2 h3 h4).2; omega
        · have h5 := ad5 h1 h2 h3 (by omega)
          rw [h5.1]; exact ⟨h1, rfl, rfl, by omega⟩
  · have := (ad1 (s := s) (ps := ps) h1).2; omega
theorem add_added {l : List DPoint} {s : Int} {ps : List Int} (h : addErr l s ps = 0) : Added l s ps (add l s ps) ∧ Ok (add l s ps) ∧ Ok l := by
  obtain ⟨h1, h2, h3, h4⟩ := add_ok h
  have h5 := right_at h2
  have h6 := added h5.1 h5.2 (check_ok.1 h1).fine h3
  exact ⟨h6, ⟨h4, h6.fine⟩, check_ok.1 h1⟩
/-! ### check -/
def CkI (l : List DPoint) (last : Int) (k : Nat) : Prop := k ≤ l.length ∧ checkGo last (l.drop k) = checkGo (-1) l
theorem CkI.start (l : List DPoint) : CkI l (-1) 0 := ⟨Nat.zero_le _, rfl⟩
theorem CkI.step {l : List DPoint} {last : Int} {k : Nat} (h : CkI l last k) (hk : k < l.length) : checkGo (-1) l = if okPoint l[k] = false then 3 else if l[k].at_ ≤ last then 4 else checkGo l[k].at_ (l.drop (k + 1)) := by
  rw [← h.2, List.drop_eq_getElem_cons hk, checkGo]
theorem CkI.bad {l : List DPoint} {last : Int} {k : Nat} (h : CkI l last k) (hk : k < l.length) (hl : l.length ≤ 60) (hb : okPoint l[k] = false) : 3 = check l := by unfold check; rw [if_neg (by omega), h.step hk, if_pos hb]
theorem CkI.low {l : List DPoint} {last : Int} {k : Nat} (h : CkI l last k) (hk : k < l.length) (hl : l.length ≤ 60) (hb : okPoint l[k] = true) (hx : l[k].at_ ≤ last) : 4 = check l := by unfold check; rw [if_neg (by omega), h.step hk, if_neg (by simp [hb]), if_pos hx]
theorem CkI.next {l : List DPoint} {last : Int} {k : Nat} (h : CkI l last k) (hk : k < l.length) (hb : okPoint l[k] = true) (hx : last < l[k].at_) : CkI l l[k].at_ (k + 1) := ⟨by omega, by rw [h.step hk, if_neg (by simp [hb]), if_neg (by omega)]⟩
theorem CkI.done {l : List DPoint} {last : Int} {k : Nat} (h : CkI l last k) (hk : l.length ≤ k) (hl : l.length ≤ 60) : 0 = check l := by unfold check; rw [if_neg (by omega), ← h.2, List.drop_of_length_le hk]; rfl
theorem chk2 {l : List DPoint} (h : 60 < (l.length : Int)) : 2 = check l := by unfold check; rw [if_pos (by omega)]
/-- the same loop, with the one before in place of the last one -/
def lastOf (l : List DPoint) (k : Nat) : Int := if k = 0 then -1 else (l.getD (k - 1) default).at_
/-! ### the owner -/
theorem ow_cases (l : List DPoint) (a : Int) : (check l ≠ 0 ∧ owner l a = 0 ∧ ownErr l a = check l) ∨ (check l = 0 ∧ okAt a = false ∧ owner l a = 0 ∧ ownErr l a = 3) ∨ (check l = 0 ∧ okAt a = true ∧ l.length = 0 ∧ owner l a = 0 ∧ ownErr l a = 5) ∨ (check l = 0 ∧ okAt a = true ∧ 0 < l.length ∧ owner l a = ownGo l a ∧ ownErr l a = 0) := by
  unfold owner
  by_cases h1 : check l = 0
  · cases h2 : okAt a
    · have e : ownErr l a = 3 := by unfold ownErr; rw [if_pos h1, if_neg (by simp [h2])]
      exact .inr (.inl ⟨h1, rfl, by rw [e]; rfl, e⟩)
    · by_cases h3 : l.length = 0
      · have e : ownErr l a = 5 := by unfold ownErr; rw [if_pos h1, if_pos h2, if_pos h3]
        exact .inr (.inr (.inl ⟨h1, rfl, h3, by rw [e]; rfl, e⟩))
      · have e : ownErr l a = 0 := by unfold ownErr; rw [if_pos h1, if_pos h2, if_neg h3]
        exact .inr (.inr (.inr ⟨h1, rfl, by omega, by rw [if_pos e], e⟩))
  · have e : ownErr l a = check l := if_neg h1
    exact .inl ⟨h1, by rw [e, if_neg h1], e⟩
theorem ow1 {l : List DPoint} {a : Int} (h : check l ≠ 0) : owner l a = 0 ∧ ownErr l a = check l := by rcases ow_cases l a with ⟨_, b⟩ | ⟨c, _⟩ | ⟨c, _⟩ | ⟨c, _⟩ <;> first | exact b | exact absurd c h
theorem ow2 {l : List DPoint} {a : Int} (h : check l = 0) (h2 : okAt a = false) : owner l a = 0 ∧ ownErr l a = 3 := by rcases ow_cases l a with ⟨c, b⟩ | ⟨_, _, b⟩ | ⟨_, c, _⟩ | ⟨_, c, _⟩ <;> first | exact b | exact absurd h c | (rw [h2] at c; cases c)
theorem ow3 {l : List DPoint} {a : Int} (h : check l = 0) (h2 : okAt a = true) (h3 : l.length = 0) : owner l a = 0 ∧ ownErr l a = 5 := by rcases ow_cases l a with ⟨c, b⟩ | ⟨_, c, b⟩ | ⟨_, _, _, b⟩ | ⟨_, _, c, _⟩ <;> first | exact b | exact absurd h c | (rw [h2] at c; cases c) | omega
theorem ow4 {l : List DPoint} {a : Int} (h : check l = 0) (h2 : okAt a = true) (h3 : 0 < l.length) : owner l a = ownGo l a ∧ ownErr l a = 0 := by rcases ow_cases l a with ⟨c, b⟩ | ⟨_, c, b⟩ | ⟨_, _, c, b⟩ | ⟨_, _, _, b⟩ <;> first | exact b | exact absurd h c | (rw [h2] at c; cases c) | omega
theorem ix_lt {l : List DPoint} (h : 0 < l.length) (a : Int) : ownIx l a < l.length := by unfold ownIx; have := low_le l a; split <;> omega
theorem ix_mod {l : List DPoint} (h : 0 < l.length) (a : Int) : ((low l a : Nat) : Int).tmod (l.length : Int) = (ownIx l a : Int) := by
  have h1 := low_le l a
  unfold ownIx
  split
  · rename_i e; rw [e, Int.tmod_self]; rfl
  · rw [Int.tmod_eq_emod_of_nonneg (by omega), Int.emod_eq_of_lt (by omega) (by omega)]
/-- how far a point stands behind a place, once round -/
def far (a : Int) (p : DPoint) : Int := if a ≤ p.at_ then p.at_ - a else p.at_ + 65536 - a
theorem far_inj {a : Int} (ha : okAt a = true) {p q : DPoint} (hp : okPoint p = true) (hq : okPoint q = true) (h : far a p = far a q) : p.at_ = q.at_ := by
  have h1 := okPoint_iff.1 hp; have h2 := okPoint_iff.1 hq
  simp only [okAt, Bool.and_eq_true, decide_eq_true_eq] at ha
  unfold far at h; split at h <;> split at h <;> omega
theorem near {l : List DPoint} (h : Fine l) (h0 : 0 < l.length) {a : Int} (ha : okAt a = true) : ∃ p ∈ l, ownGo l a = p.shard ∧ ∀ q ∈ l, far a p ≤ far a q := by
  have hx := ix_lt h0 a
  refine ⟨l[ownIx l a], List.getElem_mem hx, by unfold ownGo; rw [← getd_at hx default], fun q hq => ?_⟩
  simp only [okAt, Bool.and_eq_true, decide_eq_true_eq] at ha
  obtain ⟨j, hj, rfl⟩ := List.getElem_of_mem hq
  have h1 := okPoint_iff.1 (h.point _ (List.getElem_mem hx)); have h2 := okPoint_iff.1 (h.point _ (List.getElem_mem hj))
  have hle := low_le l a
  by_cases e : low l a = l.length
  · have hx0 : ownIx l a = 0 := if_pos e
    have h3 := below (a := a) (show j < l.length by omega) (by omega)
    have h4 := below (a := a) (show ownIx l a < l.length by omega) (by omega)
    unfold far; rw [if_neg (by omega), if_neg (by omega)]
    rcases Nat.eq_zero_or_pos j with h5 | h5
    · subst h5; simp only [hx0]; omega
    · have := sorted_at h.sorted hx hj (by omega); omega
  · have hx0 : ownIx l a = low l a := if_neg e
    have h4 := above h.sorted (a := a) hx (by omega)
    unfold far; rw [if_pos h4]
    rcases Nat.lt_or_ge j (low l a) with h5 | h5
    · have := below (a := a) hj h5; rw [if_neg (by omega)]; omega
    · have h6 := above h.sorted (a := a) hj h5
      rw [if_pos h6]
      rcases Nat.eq_or_lt_of_le h5 with h7 | h7
      · have e3 : l[j] = l[ownIx l a] := by congr 1; omega
        rw [e3]; omega
      · have := sorted_at h.sorted hx hj (by omega); omega
theorem same_pt {l : List DPoint} (h : Fine l) {p q : DPoint} (hp : p ∈ l) (hq : q ∈ l) (e : p.at_ = q.at_) : p = q := by
  obtain ⟨i, hi, rfl⟩ := List.getElem_of_mem hp
  obtain ⟨j, hj, rfl⟩ := List.getElem_of_mem hq
  rcases Nat.lt_trichotomy i j with h1 | h1 | h1
  · have := sorted_at h.sorted hi hj h1; omega
  · subst h1; rfl
  · have := sorted_at h.sorted hj hi h1; omega
/-- in a part of the points the nearest one is the nearest of all, or of another kind -/
theorem near_part {l m : List DPoint} (hl : Fine l) (hm : Fine m) (h0 : 0 < l.length) (hlm : ∀ p ∈ l, p ∈ m) {s a : Int} (ha : okAt a = true) (hs : ∀ p ∈ m, p ∉ l → p.shard = s) : ownGo l a = ownGo m a ∨ ownGo m a = s := by
  have hm0 : 0 < m.length := List.length_pos_of_mem (hlm _ (List.getElem_mem h0))
  obtain ⟨p, hp, e1, h1⟩ := near hl h0 ha
  obtain ⟨q, hq, e2, h2⟩ := near hm hm0 ha
  by_cases hql : q ∈ l
  · have h3 := h1 q hql; have h4 := h2 p (hlm p hp)
    have := same_pt hl hp hql (far_inj ha (hl.point p hp) (hl.point q hql) (by omega))
    subst this; exact .inl (by rw [e1, e2])
  · exact .inr (by rw [e2, hs q hq hql])
theorem own_in {l : List DPoint} (h : Fine l) (h0 : 0 < l.length) {a : Int} (ha : okAt a = true) : ∃ p ∈ l, ownGo l a = p.shard := by
  obtain ⟨p, hp, e, _⟩ := near h h0 ha; exact ⟨p, hp, e⟩
/-! ### removing -/
theorem mem_drop {l : List DPoint} {s : Int} {p : DPoint} : p ∈ dropS l s ↔ p ∈ l ∧ p.shard ≠ s := by simp [dropS]
theorem drop_fine {l : List DPoint} (h : Fine l) (s : Int) : Fine (dropS l s) := ⟨fun p hp => h.point p (mem_drop.1 hp).1, List.Pairwise.filter _ h.sorted⟩
theorem drop_len (l : List DPoint) (s : Int) : (dropS l s).length ≤ l.length := List.length_filter_le _ _
theorem re_cases (l : List DPoint) (s : Int) : (check l ≠ 0 ∧ rem l s = [] ∧ remErr l s = check l) ∨ (check l = 0 ∧ (dropS l s).length = l.length ∧ rem l s = [] ∧ remErr l s = 5) ∨ (check l = 0 ∧ (dropS l s).length ≠ l.length ∧ rem l s = dropS l s ∧ remErr l s = 0) := by
  unfold rem
  by_cases h1 : check l = 0
  · by_cases h2 : (dropS l s).length = l.length
    · have e : remErr l s = 5 := by unfold remErr; rw [if_pos h1, if_pos h2]
      exact .inr (.inl ⟨h1, h2, by rw [e]; rfl, e⟩)
    · have e : remErr l s = 0 := by unfold remErr; rw [if_pos h1, if_neg h2]
      exact .inr (.inr ⟨h1, h2, by rw [if_pos e], e⟩)
  · have e : remErr l s = check l := if_neg h1
    exact .inl ⟨h1, by rw [e, if_neg h1], e⟩
theorem re1 {l : List DPoint} {s : Int} (h : check l ≠ 0) : rem l s = [] ∧ remErr l s = check l := by rcases re_cases l s with ⟨_, b⟩ | ⟨c, _⟩ | ⟨c, _⟩ <;> first | exact b | exact absurd c h
theorem re2 {l : List DPoint} {s : Int} (h : check l = 0) (h2 : (dropS l s).length = l.length) : rem l s = [] ∧ remErr l s = 5 := by rcases re_cases l s with ⟨c, b⟩ | ⟨_, _, b⟩ | ⟨_, c, _⟩ <;> first | exact b | exact absurd h c | exact absurd h2 c
theorem re3 {l : List DPoint} {s : Int} (h : check l = 0) (h2 : (dropS l s).length ≠ l.length) : rem l s = dropS l s ∧ remErr l s = 0 := by rcases re_cases l s with ⟨c, b⟩ | ⟨_, c, b⟩ | ⟨_, _, b⟩ <;> first | exact b | exact absurd h c | exact absurd c h2
end Go.Sx.Rg

/- Rings of points: shares; the loops of the references; the laws. -/
namespace Go.Sx.Rg
theorem shGo_append (s : Int) : ∀ (x y : List DPoint) (last : Int), shGo s last (x ++ y) = shGo s last x + shGo s ((x.getLast?.map (·.at_)).getD last) y
  | [], y, last => by simp [shGo]
  | p :: x, y, last => by
    rw [List.cons_append, shGo, shGo, shGo_append s x y]
    have : (((p :: x).getLast?.map (·.at_)).getD last) = ((x.getLast?.map (·.at_)).getD p.at_) := by
      cases x with
      | nil => rfl
      | cons z x => rw [List.getLast?_cons_cons]; simp [List.getLast?_cons]
    rw [this]; omega
theorem last_take {l : List DPoint} {k : Nat} (hk : k ≤ l.length) (d : Int) : (((l.take k).getLast?).map (·.at_)).getD d = if k = 0 then d else (l.getD (k - 1) default).at_ := by
  cases k with
  | zero => simp
  | succ k =>
    rw [if_neg (by omega), List.getLast?_eq_getElem?, List.length_take, Nat.min_eq_left hk, List.getElem?_take, if_pos (by omega), Nat.add_sub_cancel, List.getElem?_eq_getElem (by omega), List.getD_eq_getElem?_getD, List.getElem?_eq_getElem (by omega)]; rfl
/-- the place before place k of the ring -/
def bef (l : List DPoint) (k : Nat) : Int := if k = 0 then begun l else (l.getD (k - 1) default).at_
theorem shGo_next {l : List DPoint} {k : Nat} (s : Int) (hk : k < l.length) : shGo s (begun l) (l.take (k + 1)) = shGo s (begun l) (l.take k) + if l[k].shard = s then l[k].at_ - bef l k else 0 := by
  rw [List.take_succ_eq_append_getElem hk, shGo_append, last_take (by omega)]
  simp only [shGo, bef]; omega
/-- the program's loop -/
structure SInv (l : List DPoint) (out : List Int) (last : Int) (k : Nat) : Prop where
  le : k ≤ l.length
  out : out = (List.range 20).map fun s => shGo (s : Nat) (begun l) (l.take k)
  last : last = bef l k
theorem SInv.len {l : List DPoint} {out : List Int} {last : Int} {k : Nat} (h : SInv l out last k) : out.length = 20 := by rw [h.out]; simp
theorem zero20 (l : List DPoint) : (List.replicate 20 0 : List Int) = (List.range 20).map fun s => shGo (s : Nat) (begun l) (l.take 0) := by
  apply List.ext_getElem
  · simp
  · intro i h1 h2; rw [List.getElem_replicate]; simp [shGo]
theorem SInv.start {l : List DPoint} (hl : 0 < l.length) {last : Int} (h : last = (l.getD (l.length - 1) default).at_ - 65536) : SInv l (List.replicate 20 0) last 0 := ⟨Nat.zero_le _, zero20 l, by rw [h]; rfl⟩
theorem SInv.next {l : List DPoint} {out : List Int} {last : Int} {k : Nat} (h : SInv l out last k) (hk : k < l.length) (hp : 0 ≤ l[k].shard ∧ l[k].shard < 20) {i : Nat} (hi : (i : Int) = l[k].shard) {v : Int} (hx : i < out.length) (hv : v = out[i] + (l[k].at_ - last)) : SInv l (out.set i v) l[k].at_ (k + 1) := by
  refine ⟨by omega, ?_, by unfold bef; rw [if_neg (by omega), Nat.add_sub_cancel, ← getd_at hk default]⟩
  obtain ⟨h1, h2, h3⟩ := h
  subst h2
  apply List.ext_getElem
  · simp
  · intro j g1 g2
    simp only [List.length_map, List.length_range] at g2
    rw [List.getElem_set]
    simp only [List.getElem_map, List.getElem_range, shGo_next _ hk] at hv ⊢
    split
    · rename_i e; subst e; rw [if_pos (by omega), hv, h3]
    · rw [if_neg (by omega)]; omega
theorem SInv.done {l : List DPoint} {out : List Int} {last : Int} {k : Nat} (h : SInv l out last k) (hk : l.length ≤ k) : out = shares20 l := by rw [h.out, List.take_of_length_le hk]; rfl
theorem sh_bd (s : Int) : ∀ {l : List DPoint} {last : Int}, le_ l → (∀ p ∈ l, last < p.at_) → 0 ≤ shGo s last l ∧ shGo s last l ≤ ((l.getLast?.map (·.at_)).getD last) - last
  | [], last, _, _ => by simp [shGo]
  | p :: l, last, h, hl => by
    have h1 := List.pairwise_cons.1 h
    have h2 := sh_bd s h1.2 (last := p.at_) h1.1
    have h3 := hl p (by simp)
    have e : (((p :: l).getLast?.map (·.at_)).getD last) = ((l.getLast?.map (·.at_)).getD p.at_) := by
      cases l with
      | nil => rfl
      | cons z x => rw [List.getLast?_cons_cons]; simp [List.getLast?_cons]
    rw [e, shGo]; split <;> omega
theorem begun_lt {l : List DPoint} (h : Fine l) : ∀ p ∈ l, begun l < p.at_ := by
  intro p hp
  have h0 := List.length_pos_of_mem hp
  have h1 := (okPoint_iff.1 (h.point p hp)).2
  have h2 := (okPoint_iff.1 (h.point _ (List.getElem_mem (show l.length - 1 < l.length by omega)))).2
  unfold begun; rw [← getd_at (by omega) default]; omega
theorem last_is {l : List DPoint} (h0 : 0 < l.length) (d : Int) : ((l.getLast?.map (·.at_)).getD d) = begun l + 65536 := by
  have := last_take (Nat.le_refl l.length) d
  rw [List.take_length, if_neg (by omega)] at this
  rw [this]; unfold begun; omega
theorem take_bd {l : List DPoint} (h : Fine l) (s : Int) {k : Nat} (hk : k ≤ l.length) : 0 ≤ shGo s (begun l) (l.take k) ∧ shGo s (begun l) (l.take k) ≤ 65536 := by
  rcases Nat.eq_zero_or_pos l.length with h0 | h0
  · have : l = [] := List.length_eq_zero_iff.1 h0
    subst this; simp [shGo]
  · have h2 := sh_bd s (l := l.take k) (last := begun l) (List.Pairwise.sublist (List.take_sublist _ _) h.sorted) (fun p hp => begun_lt h p (List.mem_of_mem_take hp))
    refine ⟨h2.1, ?_⟩
    rw [last_take hk] at h2
    split at h2
    · omega
    · have h3 := (okPoint_iff.1 (h.point _ (List.getElem_mem (show k - 1 < l.length by omega)))).2
      have h4 := (okPoint_iff.1 (h.point _ (List.getElem_mem (show l.length - 1 < l.length by omega)))).2
      rw [← getd_at (by omega) default] at h2
      have h5 : begun l = l[l.length - 1].at_ - 65536 := by unfold begun; rw [← getd_at (by omega) default]
      have h6 : l[k - 1].at_ ≤ l[l.length - 1].at_ := by
        rcases Nat.eq_or_lt_of_le (show k - 1 ≤ l.length - 1 by omega) with e | e
        · have : l[k - 1] = l[l.length - 1] := by congr 1
          rw [this]; omega
        · have := sorted_at h.sorted (show k - 1 < l.length by omega) (show l.length - 1 < l.length by omega) e; omega
      omega
theorem share_bd {l : List DPoint} (h : Fine l) (s : Int) : 0 ≤ share l s ∧ share l s ≤ 65536 := by
  have := take_bd h s (Nat.le_refl l.length); rwa [List.take_length] at this
theorem SInv.bd {l : List DPoint} {out : List Int} {last : Int} {k : Nat} (h : SInv l out last k) (hf : Fine l) {j : Nat} (hj : j < out.length) : 0 ≤ out[j] ∧ out[j] ≤ 65536 := by
  have e : out[j] = shGo (j : Nat) (begun l) (l.take k) := by
    have := h.out; subst this; simp
  rw [e]; exact take_bd hf _ h.le
theorem bef_bd {l : List DPoint} (hf : Fine l) {k : Nat} (hk : k < l.length) : -65536 ≤ bef l k ∧ bef l k < l[k].at_ ∧ 0 ≤ l[k].at_ ∧ l[k].at_ < 65536 := by
  have h3 := (okPoint_iff.1 (hf.point _ (List.getElem_mem hk))).2
  unfold bef
  split
  · have h4 := begun_lt hf _ (List.getElem_mem hk)
    have h5 := (okPoint_iff.1 (hf.point _ (List.getElem_mem (show l.length - 1 < l.length by omega)))).2
    have h6 : begun l = l[l.length - 1].at_ - 65536 := by unfold begun; rw [← getd_at (by omega) default]
    omega
  · have h5 := (okPoint_iff.1 (hf.point _ (List.getElem_mem (show k - 1 < l.length by omega)))).2
    rw [← getd_at (show k - 1 < l.length by omega) default]
    have := sorted_at hf.sorted (show k - 1 < l.length by omega) hk (by omega)
    omega
theorem sh_cases (l : List DPoint) (n : Int) : (check l ≠ 0 ∧ shares l n = [] ∧ shErr l n = check l) ∨ (check l = 0 ∧ ¬ (1 ≤ n ∧ n ≤ 20) ∧ shares l n = [] ∧ shErr l n = 3) ∨ (check l = 0 ∧ (1 ≤ n ∧ n ≤ 20) ∧ l.length = 0 ∧ shares l n = [] ∧ shErr l n = 5) ∨ (check l = 0 ∧ (1 ≤ n ∧ n ≤ 20) ∧ 0 < l.length ∧ shares l n = (shares20 l).take n.toNat ∧ shErr l n = 0) := by
  unfold shares
  by_cases h1 : check l = 0
  · by_cases h2 : 1 ≤ n ∧ n ≤ 20
    · by_cases h3 : l.length = 0
      · have e : shErr l n = 5 := by unfold shErr; rw [if_pos h1, if_pos h2, if_pos h3]
        exact .inr (.inr (.inl ⟨h1, h2, h3, by rw [e]; rfl, e⟩))
      · have e : shErr l n = 0 := by unfold shErr; rw [if_pos h1, if_pos h2, if_neg h3]
        exact .inr (.inr (.inr ⟨h1, h2, by omega, by rw [if_pos e], e⟩))
    · have e : shErr l n = 3 := by unfold shErr; rw [if_pos h1, if_neg h2]
      exact .inr (.inl ⟨h1, h2, by rw [e]; rfl, e⟩)
  · have e : shErr l n = check l := if_neg h1
    exact .inl ⟨h1, by rw [e, if_neg h1], e⟩
theorem sh1 {l : List DPoint} {n : Int} (h : check l ≠ 0) : shares l n = [] ∧ shErr l n = check l := by rcases sh_cases l n with ⟨_, b⟩ | ⟨c, _⟩ | ⟨c, _⟩ | ⟨c, _⟩ <;> first | exact b | exact absurd c h
theorem sh2 {l : List DPoint} {n : Int} (h : check l = 0) (h2 : ¬ (1 ≤ n ∧ n ≤ 20)) : shares l n = [] ∧ shErr l n = 3 := by rcases sh_cases l n with ⟨c, b⟩ | ⟨_, _, b⟩ | ⟨_, c, _⟩ | ⟨_, c, _⟩ <;> first | exact b | exact absurd h c | exact absurd c h2
theorem sh3 {l : List DPoint} {n : Int} (h : check l = 0) (h2 : 1 ≤ n ∧ n ≤ 20) (h3 : l.length = 0) : shares l n = [] ∧ shErr l n = 5 := by rcases sh_cases l n with ⟨c, b⟩ | ⟨_, c, b⟩ | ⟨_, _, _, b⟩ | ⟨_, _, c, _⟩ <;> first | exact b | exact absurd h c | exact absurd h2 c | omega
theorem sh4 {l : List DPoint} {n : Int} (h : check l = 0) (h2 : 1 ≤ n ∧ n ≤ 20) (h3 : 0 < l.length) : shares l n = (shares20 l).take n.toNat ∧ shErr l n = 0 := by rcases sh_cases l n with ⟨c, b⟩ | ⟨_, c, b⟩ | ⟨_, _, c, b⟩ | ⟨_, _, _, b⟩ <;> first | exact b | exact absurd h c | exact absurd h2 c | omega
/-! ### the reference's loops -/
/-- RingOwner -/
def OInv (l : List DPoint) (a : Int) (i : Nat) : Prop := i ≤ l.length ∧ ∀ j (h : j < l.length), j < i → l[j].at_ < a
theorem OInv.start (l : List DPoint) (a : Int) : OInv l a 0 := ⟨Nat.zero_le _, fun j h h2 => by omega⟩
theorem OInv.next {l : List DPoint} {a : Int} {i : Nat} (h : OInv l a i) (hi : i < l.length) (hx : l[i].at_ < a) : OInv l a (i + 1) := ⟨by omega, fun j hj h2 => by
  by_cases e : j = i
  · subst e; exact hx
  · exact h.2 j hj (by omega)⟩
theorem OInv.found {l : List DPoint} {a : Int} {i : Nat} (h : OInv l a i) (hi : i < l.length) (hx : a ≤ l[i].at_) : l[i].shard = ownGo l a := by
  have e : low l a = i := lowF_eq (by omega) (fun k hk h2 => cmpI_neg.2 (h.2 k hk h2)) (fun hi => by
    rcases Int.lt_or_le (cmpI l[i].at_ a) 0 with h3 | h3
    · have := cmpI_neg.1 h3; omega
    · exact h3)
  unfold ownGo ownIx; rw [e, if_neg (by omega), ← getd_at hi default]
theorem OInv.none {l : List DPoint} {a : Int} {i : Nat} (h : OInv l a i) (hi : l.length ≤ i) (h0 : 0 < l.length) : (l[0]).shard = ownGo l a := by
  have e : low l a = l.length := lowF_eq (Nat.le_refl _) (fun k hk h2 => cmpI_neg.2 (h.2 k hk (by omega))) (fun hi => absurd hi (by omega))
  unfold ownGo ownIx; rw [if_pos e, ← getd_at h0 default]
/-- RingShare -/
def HInv (l : List DPoint) (s n : Int) (i : Nat) : Prop := i ≤ l.length ∧ n = shGo s (begun l) (l.take i)
theorem HInv.start (l : List DPoint) (s : Int) : HInv l s 0 0 := ⟨Nat.zero_le _, rfl⟩
theorem HInv.skip {l : List DPoint} {s n : Int} {i : Nat} (h : HInv l s n i) (hi : i < l.length) (hx : l[i].shard ≠ s) : HInv l s n (i + 1) := ⟨by omega, by rw [shGo_next s hi, if_neg hx, ← h.2]; omega⟩
theorem HInv.first {l : List DPoint} {s n : Int} {i : Nat} (h : HInv l s n i) (hi : i < l.length) (hx : l[i].shard = s) (h0 : i = 0) {v : Int} (hv : v = n + (l[i].at_ + 65536 - (l.getD (l.length - 1) default).at_)) : HInv l s v (i + 1) := ⟨by omega, by rw [shGo_next s hi, if_pos hx, ← h.2, hv]; unfold bef begun; rw [if_pos h0]; omega⟩
theorem HInv.then {l : List DPoint} {s n : Int} {i : Nat} (h : HInv l s n i) (hi : i < l.length) (hx : l[i].shard = s) (h0 : i ≠ 0) {v : Int} (hj : i - 1 < l.length) (hv : v = n + (l[i].at_ - l[i - 1].at_)) : HInv l s v (i + 1) := ⟨by omega, by rw [shGo_next s hi, if_pos hx, ← h.2, hv]; unfold bef; rw [if_neg h0, ← getd_at hj default]⟩
theorem HInv.done {l : List DPoint} {s n : Int} {i : Nat} (h : HInv l s n i) (hi : l.length ≤ i) : n = share l s := by rw [h.2, List.take_of_length_le hi]; rfl
/-- RingAdd: is something twice? -/
theorem right_of {s : Int} {ps : List Int} (h : okShard s = true) {i : Nat} (hi : ps.length ≤ i) (hI : ∀ j (hj : j < ps.length), j < i → okAt ps[j] = true) : rightAdd s ps = true := by
  simp only [rightAdd, h, Bool.true_and, Bool.not_eq_true', List.any_eq_false]
  intro a ha
  obtain ⟨j, hj, rfl⟩ := List.getElem_of_mem ha
  simp [hI j hj (by omega)]
theorem wrong_of {s : Int} {ps : List Int} {i : Nat} (hi : i < ps.length) (h : okAt ps[i] = false) : rightAdd s ps = false := by
  have : (ps.any fun a => !okAt a) = true := List.any_eq_true.2 ⟨_, List.getElem_mem hi, by simp [h]⟩
  simp [rightAdd, this]
theorem wrong_shard {s : Int} {ps : List Int} (h : okShard s = false) : rightAdd s ps = false := by simp [rightAdd, h]
def DInv (l : List DPoint) (ps : List Int) (i : Nat) : Prop := i ≤ ps.length ∧ ∀ j (h : j < ps.length), j < i → ps[j] ∉ ps.take j ∧ ps[j] ∉ l.map (·.at_)
theorem DInv.start (l : List DPoint) (ps : List Int) : DInv l ps 0 := ⟨Nat.zero_le _, fun j h h2 => by omega⟩
theorem DInv.next {l : List DPoint} {ps : List Int} {i : Nat} (h : DInv l ps i) (hi : i < ps.length) (h1 : ps[i] ∉ ps.take i) (h2 : ps[i] ∉ l.map (·.at_)) : DInv l ps (i + 1) := ⟨by omega, fun j hj h3 => by
  by_cases e : j = i
  · subst e; exact ⟨h1, h2⟩
  · exact h.2 j hj (by omega)⟩
theorem DInv.some {l : List DPoint} {s : Int} {ps : List Int} {i : Nat} (h : DInv l ps i) (hi : ps.length ≤ i) (hr : rightAdd s ps = true) (hl : Fine l) : ∃ o, addGo s l ps = some o := by
  cases e : addGo s l ps with
  | some o => exact ⟨o, rfl⟩
  | none =>
    obtain ⟨j, hj, hd⟩ := (none_iff (right_at hr).1 (right_at hr).2 hl).1 e
    have := h.2 j hj (by omega)
    rcases hd with hd | hd
    · exact absurd hd this.1
    · exact absurd hd this.2
theorem twice_p {l : List DPoint} {s : Int} {ps : List Int} {i k : Nat} (hr : rightAdd s ps = true) (hl : Fine l) (hi : i < ps.length) (hk : k < i) (h : ps[k] = ps[i]) : addGo s l ps = none :=
  (none_iff (right_at hr).1 (right_at hr).2 hl).2 ⟨i, hi, .inl (by rw [List.mem_take_iff_getElem]; exact ⟨k, by omega, h⟩)⟩
theorem twice_l {l : List DPoint} {s : Int} {ps : List Int} {i k : Nat} (hr : rightAdd s ps = true) (hl : Fine l) (hi : i < ps.length) (hk : k < l.length) (h : l[k].at_ = ps[i]) : addGo s l ps = none :=
  (none_iff (right_at hr).1 (right_at hr).2 hl).2 ⟨i, hi, .inr (List.mem_map.2 ⟨_, List.getElem_mem hk, h⟩)⟩
def EInv (ps : List Int) (i k : Nat) (h : i < ps.length) : Prop := k ≤ i ∧ ∀ j (hj : j < i), j < k → ps[j] ≠ ps[i]
theorem EInv.start {ps : List Int} {i : Nat} (h : i < ps.length) : EInv ps i 0 h := ⟨Nat.zero_le _, fun j hj h2 => by omega⟩
theorem EInv.next {ps : List Int} {i k : Nat} {h : i < ps.length} (hI : EInv ps i k h) (hk : k < i) (hx : ps[k] ≠ ps[i]) : EInv ps i (k + 1) h := ⟨by omega, fun j hj h2 => by
  by_cases e : j = k
  · subst e; exact hx
  · exact hI.2 j hj (by omega)⟩
theorem EInv.done {ps : List Int} {i k : Nat} {h : i < ps.length} (hI : EInv ps i k h) (hk : i ≤ k) : ps[i] ∉ ps.take i := by
  rw [List.mem_take_iff_getElem]; rintro ⟨j, hj, e⟩
  exact hI.2 j (by omega) (by omega) e
def GInv (l : List DPoint) (a : Int) (k : Nat) : Prop := k ≤ l.length ∧ ∀ j (h : j < l.length), j < k → l[j].at_ ≠ a
theorem GInv.start (l : List DPoint) (a : Int) : GInv l a 0 := ⟨Nat.zero_le _, fun j h h2 => by omega⟩
theorem GInv.next {l : List DPoint} {a : Int} {k : Nat} (h : GInv l a k) (hk : k < l.length) (hx : l[k].at_ ≠ a) : GInv l a (k + 1) := ⟨by omega, fun j hj h2 => by
  by_cases e : j = k
  · subst e; exact hx
  · exact h.2 j hj (by omega)⟩
theorem GInv.done {l : List DPoint} {a : Int} {k : Nat} (h : GInv l a k) (hk : l.length ≤ k) : a ∉ l.map (·.at_) := by
  rw [List.mem_map]; rintro ⟨x, hx, e⟩
  obtain ⟨j, hj, rfl⟩ := List.getElem_of_mem hx
  exact h.2 j hj (by omega) e
/-- all points, one behind the other -/
def allP (l : List DPoint) (s : Int) (ps : List Int) : List DPoint := l ++ ps.map fun a => ⟨a, s⟩
theorem allP_len (l : List DPoint) (s : Int) (ps : List Int) : (allP l s ps).length = l.length + ps.length := by simp [allP]
theorem allP_next {l : List DPoint} {s : Int} {ps : List Int} {i : Nat} (hi : i < ps.length) : l ++ (ps.take i).map (fun a => (⟨a, s⟩ : DPoint)) ++ [⟨ps[i], s⟩] = l ++ (ps.take (i + 1)).map fun a => (⟨a, s⟩ : DPoint) := by
  rw [List.take_succ_eq_append_getElem hi, List.map_append, List.append_assoc]; rfl
theorem allP_done {l : List DPoint} {s : Int} {ps : List Int} {i : Nat} (hi : ps.length ≤ i) : l ++ (ps.take i).map (fun a => (⟨a, s⟩ : DPoint)) = allP l s ps := by rw [List.take_of_length_le hi]; rfl
theorem mem_allP {l : List DPoint} {s : Int} {ps : List Int} {x : DPoint} : x ∈ allP l s ps ↔ x ∈ l ∨ (x.shard = s ∧ x.at_ ∈ ps) := by
  simp only [allP, List.mem_append, List.mem_map]
  constructor
  · rintro (h | ⟨a, ha, e⟩)
    · exact .inl h
    · subst e; exact .inr ⟨rfl, ha⟩
  · rintro (h | ⟨h, ha⟩)
    · exact .inl h
    · exact .inr ⟨_, ha, by cases x; simp_all⟩
/-- the sorted list, built from its begin -/
structure TInv (t all out : List DPoint) (last : Int) : Prop where
  le : out.length ≤ t.length
  pre : out = t.take out.length
  last : last = if out.length = 0 then -1 else (t.getD (out.length - 1) default).at_
structure MInv (all : List DPoint) (last best : Int) (i : Nat) : Prop where
  le : i ≤ all.length
  lo : -1 ≤ best ∧ best < i
  none : best < 0 → ∀ j (h : j < all.length), j < i → all[j].at_ ≤ last
  some : ∀ b : Nat, (b : Int) = best → ∃ h : b < all.length, last < all[b].at_ ∧ ∀ j (h2 : j < all.length), j < i → last < all[j].at_ → all[b].at_ ≤ all[j].at_
theorem TInv.start (t all : List DPoint) : TInv t all [] (-1) := ⟨Nat.zero_le _, by simp, rfl⟩
theorem MInv.start (all : List DPoint) (last : Int) : MInv all last (-1) 0 := ⟨Nat.zero_le _, ⟨Int.le_refl _, by omega⟩, fun _ j h h2 => by omega, fun b hb => by omega⟩
theorem MInv.skip {all : List DPoint} {last best : Int} {i : Nat} (h : MInv all last best i) (hi : i < all.length) (hx : all[i].at_ ≤ last ∨ (0 ≤ best ∧ ∃ h2 : best.toNat < all.length, all[best.toNat].at_ ≤ all[i].at_)) : MInv all last best (i + 1) := by
  refine ⟨by omega, ⟨h.lo.1, by have := h.lo.2; omega⟩, fun hb j hj h2 => ?_, fun b hb => ?_⟩
  · by_cases e : j = i
    · subst e; rcases hx with hx | hx; exact hx; omega
    · exact h.none hb j hj (by omega)
  · obtain ⟨h1, h2, h3⟩ := h.some b hb
    refine ⟨h1, h2, fun j hj hlt hl => ?_⟩
    by_cases e : j = i
    · subst e
      rcases hx with hx | ⟨_, h4, h5⟩
      · omega
      · have : best.toNat = b := by omega
        subst this; exact h5
    · exact h3 j hj (by omega) hl
theorem MInv.take_ {all : List DPoint} {last best : Int} {i : Nat} (h : MInv all last best i) (hi : i < all.length) (hl : last < all[i].at_) (hx : best < 0 ∨ ∃ h2 : best.toNat < all.length, all[i].at_ < all[best.toNat].at_) : MInv all last (i : Int) (i + 1) := by
  refine ⟨by omega, ⟨by omega, by omega⟩, fun hb => by omega, fun b hb => ?_⟩
  have : b = i := by omega
  subst this
  refine ⟨hi, hl, fun j hj hlt hlj => ?_⟩
  by_cases e : j = b
  · subst e; omega
  · rcases hx with hx | ⟨h4, h5⟩
    · have := h.none hx j hj (by omega); omega
    · obtain ⟨h6, h7, h8⟩ := h.some best.toNat (by
        rcases Int.lt_or_le best 0 with h9 | h9
        · have := h.none h9 j hj (by omega); omega
        · omega)
      have := h8 j hj (by omega) hlj; omega
theorem TInv.pick {t all out : List DPoint} {last best : Int} {i : Nat} (h : TInv t all out last) (ht : Fine t) (hm : ∀ x, x ∈ t ↔ x ∈ all) (hlt : out.length < t.length) (hI : MInv all last best i) (hi : all.length ≤ i) : 0 ≤ best ∧ ∃ hb : best.toNat < all.length, all[best.toNat] = t[out.length] := by
  have h1 : last < t[out.length].at_ := by
    rw [h.last]; split
    · have := (okPoint_iff.1 (ht.point _ (List.getElem_mem hlt))).2; omega
    · rw [← getd_at (show out.length - 1 < t.length by omega) default]; exact sorted_at ht.sorted _ hlt (by omega)
  obtain ⟨j, hj, e⟩ := List.getElem_of_mem ((hm _).1 (List.getElem_mem hlt))
  have hb : 0 ≤ best := by
    rcases Int.lt_or_le best 0 with h9 | h9
    · have := hI.none h9 j hj (by omega); rw [e] at this; omega
    · exact h9
  obtain ⟨g1, g2, g3⟩ := hI.some best.toNat (by omega)
  refine ⟨hb, g1, ?_⟩
  have g4 := g3 j hj (by omega) (by rw [e]; exact h1)
  rw [e] at g4
  obtain ⟨k, hk, e2⟩ := List.getElem_of_mem ((hm _).2 (List.getElem_mem g1))
  rw [← e2] at g2 g4 ⊢
  have hko : out.length ≤ k := by
    rcases Nat.lt_or_ge k out.length with h9 | h9
    · exfalso
      rw [h.last, if_neg (by omega), ← getd_at (show out.length - 1 < t.length by omega) default] at g2
      rcases Nat.eq_or_lt_of_le (show k ≤ out.length - 1 by omega) with e3 | e3
      · subst e3; omega
      · have := sorted_at ht.sorted hk (show out.length - 1 < t.length by omega) e3; omega
    · exact h9
  rcases Nat.eq_or_lt_of_le hko with e3 | e3
  · simp only [e3]
  · have := sorted_at ht.sorted hlt hk e3; omega
theorem TInv.next {t all out : List DPoint} {last : Int} (h : TInv t all out last) (hlt : out.length < t.length) {p : DPoint} (hp : p = t[out.length]) : TInv t all (out ++ [p]) p.at_ := by
  subst hp
  refine ⟨by simp; omega, ?_, ?_⟩
  · rw [List.length_append, List.length_singleton, List.take_succ_eq_append_getElem hlt, ← h.pre]
  · rw [List.length_append, List.length_singleton, if_neg (by omega), Nat.add_sub_cancel, ← getd_at hlt default]
theorem TInv.done {t all out : List DPoint} {last : Int} (h : TInv t all out last) (hlt : t.length ≤ out.length) : out = t := by
  rw [h.pre, List.take_of_length_le hlt]
end Go.Sx.Rg

/- Rings of points: what the laws say. -/
namespace Go.Sx.Rg
theorem own_ok {l : List DPoint} {a : Int} (h : ownErr l a = 0) : Ok l ∧ okAt a = true ∧ 0 < l.length ∧ owner l a = ownGo l a := by
  rcases ow_cases l a with ⟨c, _, e⟩ | ⟨_, _, _, e⟩ | ⟨_, _, _, _, e⟩ | ⟨c, d, f, g, _⟩
  · omega
  · omega
  · omega
  · exact ⟨check_ok.1 c, d, f, g⟩
theorem moves1 {l : List DPoint} {s a : Int} {ps : List Int} (h : addErr l s ps = 0) (h2 : ownErr l a = 0) : ownErr (add l s ps) a = 0 ∧ (owner l a = owner (add l s ps) a ∨ owner (add l s ps) a = s) := by
  obtain ⟨h3, h4, h5⟩ := add_added h
  obtain ⟨h6, h7, h8, h9⟩ := own_ok h2
  have h10 : 0 < (add l s ps).length := by have := h3.len; omega
  obtain ⟨e1, e2⟩ := ow4 (check_ok.2 h4) h7 h10
  refine ⟨e2, ?_⟩
  rw [h9, e1]
  exact near_part h6.fine h4.fine h8 (fun p hp => (h3.mem p).2 (.inl hp)) h7 (fun p hp hn => ((h3.mem p).1 hp).elim (fun h => absurd h hn) (·.1))
theorem moves2 {l : List DPoint} {s a : Int} (h : remErr l s = 0) (h2 : ownErr l a = 0) (h0 : 0 < (rem l s).length) : ownErr (rem l s) a = 0 ∧ (owner l a = owner (rem l s) a ∨ owner l a = s) ∧ owner (rem l s) a ≠ s := by
  obtain ⟨h6, h7, h8, h9⟩ := own_ok h2
  have hr : rem l s = dropS l s := by
    rcases re_cases l s with ⟨_, _, e⟩ | ⟨_, _, _, e⟩ | ⟨_, _, e, _⟩
    · have := check_ok.2 h6; omega
    · omega
    · exact e
  rw [hr] at h0 ⊢
  have h4 : Ok (dropS l s) := ⟨by have := drop_len l s; have := h6.len; omega, drop_fine h6.fine s⟩
  obtain ⟨e1, e2⟩ := ow4 (check_ok.2 h4) h7 h0
  refine ⟨e2, ?_, ?_⟩
  · rw [h9, e1]
    rcases near_part (s := s) h4.fine h6.fine h0 (fun p hp => (mem_drop.1 hp).1) h7 (fun p hp hn => by
      by_cases e : p.shard = s
      · exact e
      · exact absurd (mem_drop.2 ⟨hp, e⟩) hn) with h | h
    · exact .inl h.symm
    · exact .inr h
  · rw [e1]
    obtain ⟨p, hp, e⟩ := own_in h4.fine h0 h7
    rw [e]; exact (mem_drop.1 hp).2
theorem restores {l : List DPoint} {s : Int} {ps : List Int} (h : addErr l s ps = 0) (h2 : remErr l s = 5) (h0 : ps ≠ []) : remErr (add l s ps) s = 0 ∧ rem (add l s ps) s = l := by
  obtain ⟨h3, h4, h5⟩ := add_added h
  have h0' := List.length_pos_iff.2 h0
  have hd : dropS l s = l := by
    rcases re_cases l s with ⟨c, _, e⟩ | ⟨_, c, _, _⟩ | ⟨_, _, _, e⟩
    · exact absurd (check_ok.2 h5) c
    · exact List.filter_sublist.eq_of_length c
    · omega
  have hl : (dropS (add l s ps) s).length ≠ (add l s ps).length := by rw [h3.less, hd, h3.len]; omega
  obtain ⟨e1, e2⟩ := re3 (check_ok.2 h4) hl
  exact ⟨e2, by rw [e1, h3.less, hd]⟩
/-! ### shares -/
theorem sum_add (f g : Nat → Int) : ∀ n : Nat, ((List.range n).map fun s => f s + g s).sum = ((List.range n).map f).sum + ((List.range n).map g).sum
  | 0 => rfl
  | n + 1 => by
    simp only [List.range_succ, List.map_append, List.sum_append, sum_add f g n, List.map_cons, List.map_nil, List.sum_cons, List.sum_nil]; omega
theorem sum_one (x c : Int) : ∀ n : Nat, ((List.range n).map fun s : Nat => if x = (s : Int) then c else 0).sum = if 0 ≤ x ∧ x < n then c else 0
  | 0 => by simp; omega
  | n + 1 => by
    simp only [List.range_succ, List.map_append, List.sum_append, sum_one x c n, List.map_cons, List.map_nil, List.sum_cons, List.sum_nil]
    split <;> split <;> split <;> omega
theorem sum_zero : ∀ n : Nat, ((List.range n).map fun _ : Nat => (0 : Int)).sum = 0
  | 0 => rfl
  | n + 1 => by simp [List.range_succ, sum_zero n]
theorem sum_go : ∀ (l : List DPoint) (last : Int), (∀ p ∈ l, okPoint p = true) → ((List.range 20).map fun s : Nat => shGo (s : Int) last l).sum = ((l.getLast?.map (·.at_)).getD last) - last
  | [], last, _ => by simp only [shGo]; rw [sum_zero]; simp
  | p :: l, last, h => by
    have e : (((p :: l).getLast?.map (·.at_)).getD last) = ((l.getLast?.map (·.at_)).getD p.at_) := by
      cases l with
      | nil => rfl
      | cons z x => rw [List.getLast?_cons_cons]; simp [List.getLast?_cons]
    simp only [shGo]
    rw [sum_add (fun s : Nat => if p.shard = (s : Int) then p.at_ - last else 0), sum_one, sum_go l p.at_ (fun q hq => h q (by simp [hq])), e]
    have := (okPoint_iff.1 (h p (by simp))).1
    rw [if_pos (by omega)]; omega
theorem sum20 {l : List DPoint} (h : Fine l) (h0 : 0 < l.length) : (shares20 l).sum = 65536 := by
  unfold shares20 share
  rw [sum_go l _ h.point, last_is h0]; omega
theorem shares_ok {l : List DPoint} (h : shErr l 20 = 0) : shares l 20 = shares20 l ∧ Ok l ∧ 0 < l.length := by
  rcases sh_cases l 20 with ⟨c, _, e⟩ | ⟨_, _, _, e⟩ | ⟨_, _, _, _, e⟩ | ⟨c, _, d, e, _⟩
  · omega
  · omega
  · omega
  · refine ⟨?_, check_ok.1 c, d⟩
    rw [e, List.take_of_length_le]; simp [shares20]
theorem shares_len {l : List DPoint} (h : shErr l 20 = 0) : (shares l 20).length = 20 := by rw [(shares_ok h).1]; simp [shares20]
theorem shares_bd {l : List DPoint} (h : shErr l 20 = 0) {j : Nat} (hj : j < (shares l 20).length) : 0 ≤ (shares l 20)[j] ∧ (shares l 20)[j] ≤ 65536 := by
  obtain ⟨h1, h2, h3⟩ := shares_ok h
  have e : (shares l 20)[j] = share l (j : Nat) := by simp only [h1, shares20, List.getElem_map, List.getElem_range]
  rw [e]; exact share_bd h2.fine _
theorem shares_bad {l : List DPoint} {n : Int} (h : shErr l n ≠ 0) : shares l n = [] := by unfold shares; rw [if_neg h]
/-- the sum of the first ones -/
def UInv (x : List Int) (all : Int) (i : Nat) : Prop := i ≤ x.length ∧ all = (x.take i).sum
theorem UInv.start (x : List Int) : UInv x 0 0 := ⟨Nat.zero_le _, by simp⟩
theorem UInv.next {x : List Int} {all : Int} {i : Nat} (h : UInv x all i) (hi : i < x.length) : UInv x (all + x[i]) (i + 1) := ⟨by omega, by rw [List.take_succ_eq_append_getElem hi, List.sum_append, h.2]; simp⟩
theorem sum_le {x : List Int} (h : ∀ j (hj : j < x.length), 0 ≤ x[j] ∧ x[j] ≤ 65536) : ∀ (i : Nat), i ≤ x.length → 0 ≤ (x.take i).sum ∧ (x.take i).sum ≤ 65536 * (i : Int)
  | 0, _ => by simp
  | i + 1, hi => by
    have h1 := sum_le h i (by omega)
    have h2 := h i (by omega)
    rw [List.take_succ_eq_append_getElem (by omega), List.sum_append]
    simp only [List.sum_cons, List.sum_nil]; omega
theorem UInv.bd {l : List DPoint} {all : Int} {i : Nat} (h : UInv (shares l 20) all i) (h2 : shErr l 20 = 0) : 0 ≤ all ∧ all ≤ 1310720 := by
  have h3 := sum_le (fun j hj => shares_bd h2 hj) i h.1
  rw [← h.2] at h3
  have := h.1; rw [shares_len h2] at this; omega
theorem UInv.done {l : List DPoint} {all : Int} {i : Nat} (h : UInv (shares l 20) all i) (h2 : shErr l 20 = 0) (hi : (shares l 20).length ≤ i) : all = 65536 := by
  rw [h.2, List.take_of_length_le hi, (shares_ok h2).1]; exact sum20 (shares_ok h2).2.1.fine (shares_ok h2).2.2
theorem sh_same {s : Int} : ∀ (x : List DPoint) {a b : Int}, x ≠ [] → shGo s a x - shGo s b x = if (x.head?.map (·.shard)) = some s then b - a else 0
  | [], _, _, h => absurd rfl h
  | p :: x, a, b, _ => by
    simp only [shGo, List.head?_cons, Option.map_some, Option.some.injEq]
    split <;> omega
theorem share_ins {l : List DPoint} (h : Fine l) (h0 : 0 < l.length) {p : DPoint} (hp : okPoint p = true) (hn : p.at_ ∉ l.map (·.at_)) (s : Int) : (s ≠ p.shard → share (ins l p) s ≤ share l s) ∧ (s = p.shard → share l s ≤ share (ins l p) s) := by
  have hle := low_le l p.at_
  have hlp := (okPoint_iff.1 hp).2
  rcases Nat.eq_or_lt_of_le hle with e | e
  · -- behind all others
    have hi : ins l p = l ++ [p] := by unfold ins; rw [e]; simp
    have hb1 : begun (l ++ [p]) = p.at_ - 65536 := by unfold begun; simp
    have hla : ((l.getLast?.map (·.at_)).getD (p.at_ - 65536)) = begun l + 65536 := last_is h0 _
    have hlt : begun l + 65536 < p.at_ := by
      have := below (a := p.at_) (k := l.length - 1) (l := l) (by omega) (by omega)
      unfold begun; rw [← getd_at (by omega) default]; omega
    have hs := sh_same (s := s) l (a := p.at_ - 65536) (b := begun l) (List.length_pos_iff.1 h0)
    rw [hi]; unfold share; rw [hb1, shGo_append, hla]
    simp only [shGo]
    constructor
    · intro hs2; rw [if_neg (fun h => hs2 h.symm)]; split at hs <;> omega
    · intro hs2; rw [if_pos hs2.symm]; split at hs <;> omega
  · -- ahead of another
    have hd : l.drop (low l p.at_) = l[low l p.at_] :: l.drop (low l p.at_ + 1) := List.drop_eq_getElem_cons e
    have hi : ins l p = l.take (low l p.at_) ++ (p :: l[low l p.at_] :: l.drop (low l p.at_ + 1)) := by unfold ins; rw [hd]; simp
    have hl : l = l.take (low l p.at_) ++ (l[low l p.at_] :: l.drop (low l p.at_ + 1)) := by rw [← hd, List.take_append_drop]
    have hb : begun (ins l p) = begun l := by
      have e9 : low l p.at_ + (l.length - (l.take (low l p.at_) ++ [p]).length) = l.length - 1 := by simp only [List.length_append, List.length_take, List.length_singleton]; omega
      unfold begun
      rw [ins_len, Nat.add_sub_cancel, List.getD_eq_getElem?_getD, List.getD_eq_getElem?_getD]
      unfold ins
      rw [List.getElem?_append_right (by simp only [List.length_append, List.length_take, List.length_singleton]; omega), List.getElem?_drop, e9]
    have h1 := above h.sorted (a := p.at_) e (Nat.le_refl _)
    have h2 : l[low l p.at_].at_ ≠ p.at_ := fun e2 => hn (List.mem_map.2 ⟨_, List.getElem_mem e, e2⟩)
    have h3 : (((l.take (low l p.at_)).getLast?.map (·.at_)).getD (begun l)) < p.at_ := by
      rw [last_take hle]; split
      · rename_i h4
        have h5 := begun_lt h _ (List.getElem_mem e)
        have h6 := (okPoint_iff.1 (h.point _ (List.getElem_mem (show l.length - 1 < l.length by omega)))).2
        have h7 : begun l = l[l.length - 1].at_ - 65536 := by unfold begun; rw [← getd_at (by omega) default]
        omega
      · rw [← getd_at (by omega) default]; exact below (by omega) (by omega)
    have e1 : share l s = shGo s (begun l) (l.take (low l p.at_)) + ((if l[low l p.at_].shard = s then l[low l p.at_].at_ - (((l.take (low l p.at_)).getLast?.map (·.at_)).getD (begun l)) else 0) + shGo s l[low l p.at_].at_ (l.drop (low l p.at_ + 1))) := by
      unfold share
      conv => lhs; arg 3; rw [hl]
      rw [shGo_append]; rfl
    have e2 : share (ins l p) s = shGo s (begun l) (l.take (low l p.at_)) + ((if p.shard = s then p.at_ - (((l.take (low l p.at_)).getLast?.map (·.at_)).getD (begun l)) else 0) + ((if l[low l p.at_].shard = s then l[low l p.at_].at_ - p.at_ else 0) + shGo s l[low l p.at_].at_ (l.drop (low l p.at_ + 1)))) := by
      unfold share
      rw [hb, hi, shGo_append]; rfl
    rw [e1, e2]
    constructor
    · intro hs2; rw [if_neg (fun h => hs2 h.symm)]; split <;> omega
    · intro hs2; rw [if_pos hs2.symm]; split <;> omega
theorem share_add {s : Int} (h0 : okShard s = true) : ∀ {ps : List Int} {l o : List DPoint}, (∀ a ∈ ps, okAt a = true) → Fine l → 0 < l.length → addGo s l ps = some o → ∀ i : Int, (i ≠ s → share o i ≤ share l i) ∧ (i = s → share l i ≤ share o i)
  | [], l, o, _, _, _, e, i => by simp only [addGo, Option.some.injEq] at e; subst e; exact ⟨fun _ => Int.le_refl _, fun _ => Int.le_refl _⟩
  | a :: ps, l, o, hp, hl, hl0, e, i => by
    rw [addGo] at e
    split at e
    · cases e
    · rename_i hh
      have hn : a ∉ l.map (·.at_) := fun h => hh ((hit_iff hl.sorted).2 h)
      have ho : okPoint ⟨a, s⟩ = true := by simp only [okPoint, h0, hp a (by simp), Bool.and_self]
      have h1 := share_ins hl hl0 ho hn i
      have h2 := share_add h0 (fun b hb => hp b (by simp [hb])) (hl.ins ho hn) (by rw [ins_len]; omega) e i
      exact ⟨fun h => Int.le_trans (h2.1 h) (h1.1 h), fun h => Int.le_trans (h1.2 h) (h2.2 h)⟩
theorem shares_add {l : List DPoint} {s : Int} {ps : List Int} (h : shErr l 20 = 0) (h2 : addErr l s ps = 0) : shErr (add l s ps) 20 = 0 ∧ (shares (add l s ps) 20).length = 20 ∧ ∀ (i : Nat) (hi : i < (shares l 20).length) (hj : i < (shares (add l s ps) 20).length), ((i : Int) ≠ s → (shares (add l s ps) 20)[i] ≤ (shares l 20)[i]) ∧ ((i : Int) = s → (shares l 20)[i] ≤ (shares (add l s ps) 20)[i]) := by
  obtain ⟨h3, h4, h5⟩ := shares_ok h
  obtain ⟨g1, g2, _⟩ := add_added h2
  have g3 : shErr (add l s ps) 20 = 0 := (sh4 (check_ok.2 g2) (by decide) (by have := g1.len; omega)).2
  obtain ⟨h6, _, _⟩ := shares_ok g3
  refine ⟨g3, shares_len g3, fun i hi hj => ?_⟩
  have hi' := hi; rw [shares_len h] at hi'
  have e1 : (shares l 20)[i] = share l (i : Nat) := by simp only [h3, shares20, List.getElem_map, List.getElem_range]
  have e2 : (shares (add l s ps) 20)[i] = share (add l s ps) (i : Nat) := by simp only [h6, shares20, List.getElem_map, List.getElem_range]
  rw [e1, e2]
  obtain ⟨k1, k2, k3, _⟩ := add_ok h2
  exact share_add (right_at k2).1 (right_at k2).2 h4.fine h5 k3 _
end Go.Sx.Rg
namespace Go.Sx.Rg
/-! ### what the walks need -/
theorem between_at (n : Int) : Ref.between n 0 65535 = okAt n := by simp only [Ref.between, okAt]; congr 1; exact decide_eq_decide.2 (by omega)
theorem between_sh (n : Int) : Ref.between n 0 19 = okShard n := by simp only [Ref.between, okShard]; congr 1; exact decide_eq_decide.2 (by omega)
theorem bad_of {l : List DPoint} {i : Nat} (hi : i < l.length) (h : Ref.between l[i].shard 0 19 = false ∨ Ref.between l[i].at_ 0 65535 = false) : okPoint l[i] = false := by
  rw [between_sh, between_at] at h; unfold okPoint; rcases h with h | h <;> simp [h]
theorem fine_of {l : List DPoint} {i : Nat} (hi : i < l.length) (h : Ref.between l[i].shard 0 19 = true ∧ Ref.between l[i].at_ 0 65535 = true) : okPoint l[i] = true := by
  rw [between_sh, between_at] at h; unfold okPoint; simp [h]
theorem bad_p {l : List DPoint} {i : Nat} (hi : i < l.length) (h : okShard l[i].shard = false ∨ okAt l[i].at_ = false) : okPoint l[i] = false := by
  unfold okPoint; rcases h with h | h <;> simp [h]
theorem fine_p {l : List DPoint} {i : Nat} (hi : i < l.length) (h : okShard l[i].shard = true ∧ okAt l[i].at_ = true) : okPoint l[i] = true := by
  unfold okPoint; simp [h]
/-- RingCheck: the one before in place of the last one -/
def RkI (l : List DPoint) (i : Nat) : Prop := CkI l (lastOf l i) i
theorem RkI.start (l : List DPoint) : RkI l 0 := CkI.start l
theorem RkI.bad {l : List DPoint} {i : Nat} (h : RkI l i) (hi : i < l.length) (hl : l.length ≤ 60) (hb : okPoint l[i] = false) : 3 = check l := CkI.bad h hi hl hb
theorem RkI.low {l : List DPoint} {i : Nat} (h : RkI l i) (hi : i < l.length) (hl : l.length ≤ 60) (hb : okPoint l[i] = true) (h0 : 0 < i) {j : Nat} (ej : j = i - 1) (hj : j < l.length) (hx : l[i].at_ ≤ l[j].at_) : 4 = check l := by
  subst ej
  exact CkI.low h hi hl hb (by unfold lastOf; rw [if_neg (by omega), ← getd_at hj default]; exact hx)
theorem RkI.next {l : List DPoint} {i : Nat} (h : RkI l i) (hi : i < l.length) (hb : okPoint l[i] = true) (hx : i ≤ 0 ∨ ∃ j, ∃ hj : j < l.length, j = i - 1 ∧ l[j].at_ < l[i].at_) : RkI l (i + 1) := by
  have e : lastOf l (i + 1) = l[i].at_ := by unfold lastOf; rw [if_neg (by omega), Nat.add_sub_cancel, ← getd_at hi default]
  unfold RkI; rw [e]
  refine CkI.next h hi hb ?_
  unfold lastOf
  split
  · have := (okPoint_iff.1 hb).2; omega
  · rcases hx with hx | ⟨j, hj, rfl, hx⟩
    · omega
    · rw [← getd_at hj default]; exact hx
theorem RkI.done {l : List DPoint} {i : Nat} (h : RkI l i) (hi : l.length ≤ i) (hl : l.length ≤ 60) : 0 = check l := CkI.done h hi hl
theorem RkI.le {l : List DPoint} {i : Nat} (h : RkI l i) : i ≤ l.length := h.1
/-- places that are right, so far -/
def PlI (ps : List Int) (i : Nat) : Prop := i ≤ ps.length ∧ ∀ j (h : j < ps.length), j < i → okAt ps[j] = true
theorem PlI.start (ps : List Int) : PlI ps 0 := ⟨Nat.zero_le _, fun j h h2 => by omega⟩
theorem PlI.next {ps : List Int} {i : Nat} (h : PlI ps i) (hi : i < ps.length) (hx : Ref.between ps[i] 0 65535 = true) : PlI ps (i + 1) := ⟨by omega, fun j hj h2 => by
  by_cases e : j = i
  · subst e; rw [← between_at]; exact hx
  · exact h.2 j hj (by omega)⟩
theorem PlI.bad {s : Int} {ps : List Int} {i : Nat} (hi : i < ps.length) (hx : Ref.between ps[i] 0 65535 = false) : rightAdd s ps = false := wrong_of hi (by rw [← between_at]; exact hx)
/-- what RingAdd gives, of points that are right -/
theorem ref_done {l t all out : List DPoint} {s last : Int} {ps : List Int} (hck : check l = 0) (hr : rightAdd s ps = true) (ht : addGo s l ps = some t) (hall : all = allP l s ps) (hlen : (l.length : Int) + ps.length ≤ 60) (h : TInv t all out last) (ho : all.length ≤ out.length) : add l s ps = out ∧ addErr l s ps = 0 := by
  have h1 := added (right_at hr).1 (right_at hr).2 (check_ok.1 hck).fine ht
  have h2 : t.length = all.length := by rw [hall, allP_len]; exact h1.len
  have h3 := h.done (by omega)
  subst h3
  exact ad5 hck hr ht (by have := h1.len; omega)
theorem ref_many {l t : List DPoint} {s : Int} {ps : List Int} (hck : check l = 0) (hr : rightAdd s ps = true) (ht : addGo s l ps = some t) (hlen : 60 < (l.length : Int) + ps.length) : add l s ps = [] ∧ addErr l s ps = 2 := by
  have h1 := added (right_at hr).1 (right_at hr).2 (check_ok.1 hck).fine ht
  exact ad4 hck hr ht (by have := h1.len; omega)
theorem ref_t {l t all : List DPoint} {s : Int} {ps : List Int} (hck : Ok l) (hr : rightAdd s ps = true) (ht : addGo s l ps = some t) (hall : all = allP l s ps) : Fine t ∧ (∀ x, x ∈ t ↔ x ∈ all) ∧ t.length = all.length := by
  have h1 := added (right_at hr).1 (right_at hr).2 hck.fine ht
  exact ⟨h1.fine, fun x => by rw [hall, mem_allP]; exact h1.mem x, by rw [hall, allP_len]; exact h1.len⟩
/-- RingSpec -/
theorem jw1 {l : List DPoint} {a : Int} (hc : check l = 0) (h : a < 0 ∨ 65535 < a) : (3 : Int) = ownErr l a ∧ (0 : Int) = owner l a := by
  have := ow2 (a := a) hc (by unfold okAt; rcases h with h | h <;> simp <;> omega); exact ⟨this.2.symm, this.1.symm⟩
theorem jw2 {l : List DPoint} {a : Int} (hc : check l = 0) (h : 0 ≤ a ∧ a ≤ 65535) (h3 : (l.length : Int) = 0) : (5 : Int) = ownErr l a ∧ (0 : Int) = owner l a := by
  have := ow3 (a := a) hc (by simp only [okAt, Bool.and_eq_true, decide_eq_true_eq]; omega) (by omega); exact ⟨this.2.symm, this.1.symm⟩
theorem jw3 {l : List DPoint} {a : Int} (hc : check l = 0) (h : 0 ≤ a ∧ a ≤ 65535) (h3 : (l.length : Int) ≠ 0) : check l = ownErr l a ∧ ownGo l a = owner l a := by
  have := ow4 (a := a) hc (by simp only [okAt, Bool.and_eq_true, decide_eq_true_eq]; omega) (by omega); exact ⟨by rw [this.2, hc], this.1.symm⟩
def RmI (l : List DPoint) (s : Int) (d : List DPoint) (i : Nat) : Prop := i ≤ l.length ∧ d = dropS (l.take i) s
theorem RmI.start (l : List DPoint) (s : Int) : RmI l s [] 0 := ⟨Nat.zero_le _, rfl⟩
theorem RmI.add {l d : List DPoint} {s : Int} {i : Nat} (h : RmI l s d i) (hi : i < l.length) (hx : l[i].shard ≠ s) : RmI l s (d ++ [l[i]]) (i + 1) := ⟨by omega, by
  rw [List.take_succ_eq_append_getElem hi, dropS, List.filter_append, h.2]; simp [dropS, hx]⟩
theorem RmI.skip {l d : List DPoint} {s : Int} {i : Nat} (h : RmI l s d i) (hi : i < l.length) (hx : l[i].shard = s) : RmI l s d (i + 1) := ⟨by omega, by
  rw [List.take_succ_eq_append_getElem hi, dropS, List.filter_append, h.2]; simp [dropS, hx]⟩
theorem RmI.len {l d : List DPoint} {s : Int} {i : Nat} (h : RmI l s d i) : d.length ≤ i := by rw [h.2]; have := drop_len (l.take i) s; simp only [List.length_take] at this; omega
theorem RmI.done {l d : List DPoint} {s : Int} {i : Nat} (h : RmI l s d i) (hi : l.length ≤ i) : d = dropS l s := by rw [h.2, List.take_of_length_le hi]
theorem ju1 {l d : List DPoint} {s : Int} (hc : check l = 0) (hd : d = dropS l s) (h : (d.length : Int) = l.length) : ([] : List DPoint) = rem l s ∧ (5 : Int) = remErr l s := by
  subst hd; have := re2 hc (by omega : (dropS l s).length = l.length); exact ⟨this.1.symm, this.2.symm⟩
theorem ju2 {l d : List DPoint} {s : Int} (hc : check l = 0) (hd : d = dropS l s) (h : (d.length : Int) ≠ l.length) : d = rem l s ∧ check l = remErr l s := by
  subst hd; have := re3 hc (by omega : (dropS l s).length ≠ l.length); exact ⟨this.1.symm, by rw [this.2, hc]⟩
theorem jo1 {l : List DPoint} {n : Int} (hc : check l = 0) (h : n < 1 ∨ 20 < n) : (3 : Int) = shErr l n := (sh2 hc (by omega)).2.symm
theorem jo2 {l : List DPoint} {n : Int} (hc : check l = 0) (h : 1 ≤ n ∧ n ≤ 20) (h3 : (l.length : Int) = 0) : (5 : Int) = shErr l n := (sh3 hc h (by omega)).2.symm
theorem jo3 {l : List DPoint} {n : Int} (hc : check l = 0) (h : 1 ≤ n ∧ n ≤ 20) (h3 : (l.length : Int) ≠ 0) : check l = shErr l n := by rw [(sh4 hc h (by omega)).2, hc]
structure VInv (l : List DPoint) (n : Int) (x : List Int) (i : Nat) : Prop where
  is : x = (shares20 l).take i
  le : i ≤ 20
  no : shErr l n ≠ 0 → i = 0
  yes : shErr l n = 0 → (i : Int) ≤ n
theorem sh_n {l : List DPoint} {n : Int} (h : shErr l n = 0) : (1 ≤ n ∧ n ≤ 20) ∧ shares l n = (shares20 l).take n.toNat := by
  rcases sh_cases l n with ⟨c, _, e⟩ | ⟨_, _, _, e⟩ | ⟨_, _, _, _, e⟩ | ⟨_, d, _, e, _⟩
  · omega
  · omega
  · omega
  · exact ⟨d, e⟩
theorem VInv.start (l : List DPoint) (n : Int) : VInv l n [] 0 := ⟨by simp, by omega, fun _ => rfl, fun h => by have := (sh_n h).1; omega⟩
theorem VInv.next {l : List DPoint} {n : Int} {x : List Int} {i : Nat} (h : VInv l n x i) (hi : (i : Int) < n ∧ shErr l n = 0) : VInv l n (x ++ [share l (i : Int)]) (i + 1) := by
  have h1 := (sh_n hi.2).1
  have h2 : i < (shares20 l).length := by simp [shares20]; omega
  refine ⟨?_, by omega, fun h => absurd hi.2 h, fun _ => by omega⟩
  rw [List.take_succ_eq_append_getElem h2, ← h.is]; simp [shares20]
theorem VInv.done {l : List DPoint} {n : Int} {x : List Int} {i : Nat} (h : VInv l n x i) (hi : n ≤ (i : Int) ∨ shErr l n ≠ 0) : x = shares l n := by
  by_cases e : shErr l n = 0
  · have h1 := h.yes e; have h2 := sh_n e
    rw [h2.2, h.is, show i = n.toNat by omega]
  · rw [shares_bad e, h.is, h.no e]; rfl
theorem VInv.len {l : List DPoint} {n : Int} {x : List Int} {i : Nat} (h : VInv l n x i) : x.length ≤ 20 := by rw [h.is]; have := h.le; simp only [List.length_take]; omega
end Go.Sx.Rg
namespace Go.Sx.Rg
theorem keep_all {l : List DPoint} {s : Int} (h : idxF (fun x : DPoint => (x.shard == s)) l = -1) : dropS l s = l := by
  rcases idxF_cases (fun x : DPoint => (x.shard == s)) l with ⟨k, _, e, _⟩ | ⟨_, h1⟩
  · omega
  · exact List.filter_eq_self.2 fun x hx => by have := h1 x hx; simpa using this
theorem HInv.first0 {l : List DPoint} {s n : Int} {i : Nat} (h : HInv l s n i) (hi : i < l.length) (hx : l[i].shard = s) (h0 : (i : Int) = 0) {v : Int} (hv : v = n + (l[0].at_ + 1 + 65535 - l[l.length - 1].at_)) : HInv l s v (i + 1) := by
  obtain rfl : i = 0 := by omega
  exact h.first hi hx rfl (by rw [hv, ← getd_at (show l.length - 1 < l.length by omega) default]; omega)
theorem HInv.then0 {l : List DPoint} {s n : Int} {i : Nat} (h : HInv l s n i) (hi : i < l.length) (hx : l[i].shard = s) (h0 : (i : Int) ≠ 0) {v : Int} (hj : ((i : Int) - 1).toNat < l.length) (hv : v = n + (l[i].at_ - l[((i : Int) - 1).toNat].at_)) : HInv l s v (i + 1) := by
  have e : ((i : Int) - 1).toNat = i - 1 := by omega
  simp only [e] at hv
  exact h.then hi hx (by omega) (by omega) hv
theorem same_no {a b : List DPoint} (h : (a.length : Int) ≠ b.length) : false = decide (a = b) := by
  symm; rw [decide_eq_false_iff_not]; rintro rfl; exact h rfl
theorem same_no2 {a b : List DPoint} {i : Nat} (h1 : i < a.length) (h2 : i < b.length) (h : ¬ (a[i].at_ = b[i].at_ ∧ a[i].shard = b[i].shard)) : false = decide (a = b) := by
  symm; rw [decide_eq_false_iff_not]; rintro rfl; exact h ⟨rfl, rfl⟩
theorem same_yes {a b : List DPoint} (h : (a.length : Int) = b.length) (h2 : ∀ j (h1 : j < a.length) (h2 : j < b.length), a[j] = b[j]) : true = decide (a = b) := by
  symm; rw [decide_eq_true_iff]; exact List.ext_getElem (by omega) h2
theorem point_eq {a b : DPoint} (h : a.at_ = b.at_ ∧ a.shard = b.shard) : a = b := by
  cases a; cases b; obtain ⟨h1, h2⟩ := h; simp only at h1 h2; rw [h1, h2]
end Go.Sx.Rg

/- Least recently used: what a touch and a run do. -/
namespace Go.Sx.Lru
abbrev at_ (l : List Int) (key : Int) : Int := idxF (fun x : Int => (x == key)) l
theorem at_lt (l : List Int) (key : Int) : at_ l key < l.length ∧ -1 ≤ at_ l key := idxF_lt _ _
theorem at_mem {l : List Int} {key : Int} : 0 ≤ at_ l key ↔ key ∈ l := by
  rcases idxF_cases (fun x : Int => (x == key)) l with ⟨k, h, e, h1, _⟩ | ⟨e, h1⟩
  · unfold at_; rw [e]
    have : l[k] = key := by simpa using h1
    exact ⟨fun _ => this ▸ List.getElem_mem h, fun _ => by omega⟩
  · unfold at_; rw [e]
    refine ⟨fun h => absurd h (by omega), fun h => ?_⟩
    have := h1 key h; simp at this
theorem at_idx {l : List Int} {key : Int} (h : 0 ≤ at_ l key) : (at_ l key).toNat = l.idxOf key := by
  unfold at_ idxF at h ⊢
  split
  · rfl
  · rename_i h2; rw [if_neg h2] at h; omega
theorem erase_at {l : List Int} {key : Int} (h : 0 ≤ at_ l key) : l.take (at_ l key).toNat ++ l.drop ((at_ l key).toNat + 1) = l.erase key := by
  rw [← List.eraseIdx_eq_take_drop_succ, at_idx h, List.erase_eq_eraseIdx_of_idxOf rfl]
theorem Ok.pos {c : DCache} (h : Ok c) : 0 < c.room.toNat := by have := h.room; omega
theorem front_len (room : Nat) (l : List Int) (k : Int) : (front room l k).length ≤ room := by unfold front; exact List.length_take_le _ _
theorem mem_front {room : Nat} {l : List Int} {k x : Int} (h : x ∈ front room l k) : x = k ∨ x ∈ l := by
  have := List.mem_of_mem_take h
  rcases List.mem_cons.1 this with h | h
  · exact .inl h
  · exact .inr (List.mem_of_mem_erase h)
theorem front_nodup {room : Nat} {l : List Int} (k : Int) (h : l.Nodup) : (front room l k).Nodup := by
  unfold front
  refine List.Nodup.sublist (List.take_sublist _ _) (List.nodup_cons.2 ⟨fun hm => ?_, h.erase k⟩)
  exact absurd rfl (h.mem_erase_iff.1 hm).1
theorem Ok.touch {c : DCache} (h : Ok c) {key : Int} (hk : okKey key = true) : Ok (touch c key).1 := by
  refine ⟨h.room, ?_, ?_, front_nodup key h.once⟩
  · have := front_len c.room.toNat c.keys key; have := h.room
    simp only [Lru.touch]; omega
  · intro k hm
    rcases mem_front hm with rfl | hm
    · exact hk
    · exact h.key k hm
theorem front_hit {room : Nat} {l : List Int} {k : Int} (hk : k ∈ l) (hl : l.length ≤ room) : front room l k = k :: l.erase k := by
  unfold front; rw [List.take_of_length_le]
  have := List.length_erase_of_mem hk
  have := List.length_pos_of_mem hk
  simp only [List.length_cons]; omega
theorem front_add {room : Nat} {l : List Int} {k : Int} (hk : k ∉ l) (hl : l.length < room) : front room l k = k :: l := by
  unfold front; rw [List.erase_of_not_mem hk, List.take_of_length_le (by simp only [List.length_cons]; omega)]
theorem front_full {room : Nat} {l : List Int} {k : Int} (hk : k ∉ l) (h0 : 0 < room) : front room l k = k :: l.take (room - 1) := by
  unfold front; rw [List.erase_of_not_mem hk]
  obtain ⟨n, rfl⟩ : ∃ n, room = n + 1 := ⟨room - 1, by omega⟩
  rw [List.take_succ_cons, Nat.add_sub_cancel]
theorem touch_hit {c : DCache} {key : Int} (ho : Ok c) (h : 0 ≤ at_ c.keys key) : touch c key = (⟨c.room, key :: (c.keys.take (at_ c.keys key).toNat ++ c.keys.drop ((at_ c.keys key).toNat + 1))⟩, true, -1) := by
  have hm := at_mem.1 h
  have := ho.len; have := ho.room
  unfold touch; rw [front_hit hm (by omega), erase_at h]
  simp [gone, hm]
theorem touch_add {c : DCache} {key : Int} (ho : Ok c) (h : at_ c.keys key < 0) (hl : (c.keys.length : Int) ≠ c.room) : touch c key = (⟨c.room, key :: c.keys⟩, false, -1) := by
  have hm : key ∉ c.keys := fun hm => by have := at_mem.2 hm; omega
  have := ho.len; have := ho.room
  unfold touch; rw [front_add hm (by omega)]
  simp [gone, hm, hl]
theorem touch_full {c : DCache} {key : Int} (ho : Ok c) (h : at_ c.keys key < 0) (hl : (c.keys.length : Int) = c.room) (hi : (c.room - 1).toNat < c.keys.length) : touch c key = (⟨c.room, key :: c.keys.take (c.room - 1).toNat⟩, false, c.keys[(c.room - 1).toNat]) := by
  have hm : key ∉ c.keys := fun hm => by have := at_mem.2 hm; omega
  have := ho.len; have := ho.room
  unfold touch; rw [front_full hm (by omega), show c.room.toNat - 1 = (c.room - 1).toNat by omega]
  have e : c.keys.getLastD (-1) = c.keys[(c.room - 1).toNat] := by
    rw [List.getLastD_eq_getLast?, List.getLast?_eq_getElem?, show c.keys.length - 1 = (c.room - 1).toNat by omega, List.getElem?_eq_getElem hi]; rfl
  simp only [gone, hm, not_false_eq_true, hl, and_self, if_true, e, decide_false]
/-! ### access and run -/
theorem acc_cases (c : DCache) (key : Int) : (check c ≠ 0 ∧ access c key = (zero, false, 0) ∧ accessErr c key = check c) ∨ (check c = 0 ∧ okKey key = false ∧ access c key = (zero, false, 0) ∧ accessErr c key = 3) ∨ (check c = 0 ∧ okKey key = true ∧ access c key = touch c key ∧ accessErr c key = 0) := by
  by_cases hc : check c = 0
  · cases hr : okKey key
    · have e : accessErr c key = 3 := by unfold accessErr; rw [if_pos hc, if_neg (by simp [hr])]
      exact .inr (.inl ⟨hc, rfl, by unfold access; rw [e]; rfl, e⟩)
    · have e : accessErr c key = 0 := by unfold accessErr; rw [if_pos hc, if_pos hr]
      exact .inr (.inr ⟨hc, rfl, by unfold access; rw [if_pos e], e⟩)
  · have e : accessErr c key = check c := by unfold accessErr; rw [if_neg hc]
    exact .inl ⟨hc, by unfold access; rw [e, if_neg hc], e⟩
theorem acc1 {c : DCache} {key : Int} (e : check c ≠ 0) : access c key = (zero, false, 0) ∧ accessErr c key = check c := by
  rcases acc_cases c key with ⟨_, b⟩ | ⟨a, _⟩ | ⟨a, _⟩
  · exact b
  · exact absurd a e
  · exact absurd a e
theorem acc2 {c : DCache} {key : Int} (e : check c = 0 ∧ okKey key = false) : access c key = (zero, false, 0) ∧ accessErr c key = 3 := by
  rcases acc_cases c key with ⟨a, _⟩ | ⟨_, _, b⟩ | ⟨_, b, _⟩
  · exact absurd e.1 a
  · exact b
  · rw [e.2] at b; cases b
theorem acc3 {c : DCache} {key : Int} (e2 : ¬ check c = 0 ∨ okKey key = true) (e : check c = 0) : access c key = touch c key ∧ accessErr c key = 0 := by
  rcases acc_cases c key with ⟨a, _⟩ | ⟨_, b, _⟩ | ⟨_, _, b⟩
  · exact absurd e a
  · rcases e2 with e2 | e2
    · exact absurd e e2
    · rw [e2] at b; cases b
  · exact b
theorem acc_bad {c : DCache} {key : Int} (e : accessErr c key ≠ 0) : access c key = (zero, false, 0) := if_neg e
theorem acc_ok {c : DCache} {key : Int} (e : accessErr c key = 0) : check c = 0 ∧ okKey key = true ∧ access c key = touch c key := by
  rcases acc_cases c key with ⟨a, b, d⟩ | ⟨a, a2, b, d⟩ | ⟨a, a2, b, d⟩
  · exact absurd (d ▸ e) a
  · rw [d] at e; cases e
  · exact ⟨a, a2, b⟩
theorem run_cases (c : DCache) (l : List Int) : (check c ≠ 0 ∧ run c l = (zero, 0) ∧ runErr c l = check c) ∨ (check c = 0 ∧ trace l ≠ 0 ∧ run c l = (zero, 0) ∧ runErr c l = trace l) ∨ (check c = 0 ∧ trace l = 0 ∧ run c l = runGo c 0 l ∧ runErr c l = 0) := by
  by_cases h : check c = 0
  · have e : runErr c l = trace l := by unfold runErr; rw [if_pos h]
    by_cases h2 : trace l = 0
    · exact .inr (.inr ⟨h, h2, by unfold run; rw [if_pos (e.trans h2)], e.trans h2⟩)
    · exact .inr (.inl ⟨h, h2, by unfold run; rw [if_neg (by rw [e]; exact h2)], e⟩)
  · have e : runErr c l = check c := by unfold runErr; rw [if_neg h]
    exact .inl ⟨h, by unfold run; rw [if_neg (by rw [e]; exact h)], e⟩
theorem run1 {c : DCache} {l : List Int} (e : check c ≠ 0) : run c l = (zero, 0) ∧ runErr c l = check c := by
  rcases run_cases c l with ⟨_, b⟩ | ⟨a, _⟩ | ⟨a, _⟩
  · exact b
  · exact absurd a e
  · exact absurd a e
theorem run2 {c : DCache} {l : List Int} (e : check c = 0) (e2 : trace l ≠ 0) : run c l = (zero, 0) ∧ runErr c l = trace l := by
  rcases run_cases c l with ⟨a, _⟩ | ⟨_, _, b⟩ | ⟨_, a, _⟩
  · exact absurd e a
  · exact b
  · exact absurd a e2
theorem run3 {c : DCache} {l : List Int} (e : check c = 0) (e2 : trace l = 0) : run c l = runGo c 0 l ∧ runErr c l = 0 := by
  rcases run_cases c l with ⟨a, _⟩ | ⟨_, a, _⟩ | ⟨_, _, b⟩
  · exact absurd e a
  · exact absurd e2 a
  · exact b
theorem run_bad {c : DCache} {l : List Int} (e : runErr c l ≠ 0) : run c l = (zero, 0) := if_neg e
theorem run_ok {c : DCache} {l : List Int} (e : runErr c l = 0) : check c = 0 ∧ trace l = 0 ∧ run c l = runGo c 0 l := by
  rcases run_cases c l with ⟨a, b, d⟩ | ⟨a, a2, b, d⟩ | ⟨a, a2, b, d⟩
  · exact absurd (d ▸ e) a
  · exact absurd (d ▸ e) a2
  · exact ⟨a, a2, b⟩
theorem size_cases (c : DCache) (room : Int) : (check c ≠ 0 ∧ resize c room = (zero, []) ∧ sizeErr c room = check c) ∨ (check c = 0 ∧ okRoom room = false ∧ resize c room = (zero, []) ∧ sizeErr c room = 3) ∨ (check c = 0 ∧ okRoom room = true ∧ resize c room = (⟨room, c.keys.take room.toNat⟩, (c.keys.drop room.toNat).reverse) ∧ sizeErr c room = 0) := by
  by_cases hc : check c = 0
  · cases hr : okRoom room
    · have e : sizeErr c room = 3 := by unfold sizeErr; rw [if_pos hc, if_neg (by simp [hr])]
      exact .inr (.inl ⟨hc, rfl, by unfold resize; rw [e]; rfl, e⟩)
    · have e : sizeErr c room = 0 := by unfold sizeErr; rw [if_pos hc, if_pos hr]
      exact .inr (.inr ⟨hc, rfl, by unfold resize; rw [if_pos e], e⟩)
  · have e : sizeErr c room = check c := by unfold sizeErr; rw [if_neg hc]
    exact .inl ⟨hc, by unfold resize; rw [e, if_neg hc], e⟩
theorem size1 {c : DCache} {room : Int} (e : check c ≠ 0) : resize c room = (zero, []) ∧ sizeErr c room = check c := by
  rcases size_cases c room with ⟨_, b⟩ | ⟨a, _⟩ | ⟨a, _⟩
  · exact b
  · exact absurd a e
  · exact absurd a e
theorem size2 {c : DCache} {room : Int} (e : check c = 0 ∧ okRoom room = false) : resize c room = (zero, []) ∧ sizeErr c room = 3 := by
  rcases size_cases c room with ⟨a, _⟩ | ⟨_, _, b⟩ | ⟨_, b, _⟩
  · exact absurd e.1 a
  · exact b
  · rw [e.2] at b; cases b
theorem size3 {c : DCache} {room : Int} (e : check c = 0) (e2 : okRoom room = true) : resize c room = (⟨room, c.keys.take room.toNat⟩, (c.keys.drop room.toNat).reverse) ∧ sizeErr c room = 0 := by
  rcases size_cases c room with ⟨a, _⟩ | ⟨_, b, _⟩ | ⟨_, _, b⟩
  · exact absurd e a
  · rw [e2] at b; cases b
  · exact b
theorem take_min (l : List Int) (n : Nat) : l.take (min n l.length) = l.take n := by
  rcases Nat.le_total n l.length with h | h
  · rw [Nat.min_eq_left h]
  · rw [Nat.min_eq_right h, List.take_of_length_le h, List.take_of_length_le (Nat.le_refl _)]
theorem drop_min (l : List Int) (n : Nat) : l.drop (min n l.length) = l.drop n := by
  rcases Nat.le_total n l.length with h | h
  · rw [Nat.min_eq_left h]
  · rw [Nat.min_eq_right h, List.drop_of_length_le h, List.drop_of_length_le (Nat.le_refl _)]
theorem keep_nat (l : List Int) {room : Int} (h : 0 ≤ room) : (min room (l.length : Int)).toNat = min room.toNat l.length := by omega
theorem cut_keys (l : List Int) (room : Int) (h : 0 ≤ room) : l.take (min room (l.length : Int)).toNat = l.take room.toNat := by rw [keep_nat l h, take_min]
theorem cut_gone (l : List Int) (room : Int) (h : 0 ≤ room) : (l.drop (min room (l.length : Int)).toNat).reverse = (l.drop room.toNat).reverse := by rw [keep_nat l h, drop_min]
theorem ins0 (l : List Int) (k : Int) : l.take (0 : Int).toNat ++ [k] ++ l.drop (0 : Int).toNat = k :: l := rfl
theorem nat1 {i : Int} (h : 0 ≤ i) : (i + 1).toNat = i.toNat + 1 := by omega
/-! ### the reference's touch -/
/-- the keys but one, as many as there is room, and the last that doesn't fit -/
structure TInv (c : DCache) (key : Int) (oc : DCache) (gone : Int) (i : Nat) : Prop where
  room : oc.room = c.room
  rb : 1 ≤ c.room ∧ c.room ≤ 40
  le : i ≤ c.keys.length
  keys : oc.keys = (key :: (c.keys.take i).filter (fun x => !(x == key))).take c.room.toNat
  gone_ : gone = if c.room.toNat < ((c.keys.take i).filter (fun x => !(x == key))).length + 1 then ((c.keys.take i).filter (fun x => !(x == key))).getLastD (-1) else -1
theorem TInv.start {c : DCache} (h : Ok c) (key : Int) : TInv c key ⟨c.room, [key]⟩ (-1) 0 := by
  have hr := h.room
  refine ⟨rfl, h.room, Nat.zero_le _, ?_, by simp⟩
  obtain ⟨t, ht⟩ : ∃ t, c.room.toNat = t + 1 := ⟨c.room.toNat - 1, by omega⟩
  rw [ht]; simp
theorem TInv.olen {c oc : DCache} {key gone : Int} {i : Nat} (h : TInv c key oc gone i) : oc.keys.length ≤ 40 := by
  have := h.rb
  rw [h.keys, List.length_take]; omega
theorem TInv.skip {c oc : DCache} {key gone : Int} {i : Nat} (h : TInv c key oc gone i) (hi : i < c.keys.length) (hk : c.keys[i] = key) : TInv c key oc gone (i + 1) := by
  have e : (c.keys.take (i + 1)).filter (fun x => !(x == key)) = (c.keys.take i).filter (fun x => !(x == key)) := by
    rw [List.take_succ_eq_append_getElem hi, List.filter_append]; simp [hk]
  exact ⟨h.room, h.rb, hi, by rw [e]; exact h.keys, by rw [e]; exact h.gone_⟩
theorem filt_snoc {l : List Int} {key : Int} {i : Nat} (hi : i < l.length) (hk : l[i] ≠ key) : (l.take (i + 1)).filter (fun x => !(x == key)) = (l.take i).filter (fun x => !(x == key)) ++ [l[i]] := by
  rw [List.take_succ_eq_append_getElem hi, List.filter_append]; simp [hk]
theorem TInv.add {c oc : DCache} {key gone : Int} {i : Nat} (h : TInv c key oc gone i) (hi : i < c.keys.length) (hk : c.keys[i] ≠ key) (hl : (oc.keys.length : Int) < c.room) : TInv c key ⟨oc.room, oc.keys ++ [c.keys[i]]⟩ gone (i + 1) := by
  have hr := h.rb
  have e := filt_snoc hi hk
  have hlen := h.keys
  have hl2 := congrArg List.length hlen
  simp only [List.length_take, List.length_cons] at hl2
  refine ⟨h.room, h.rb, hi, ?_, ?_⟩
  · simp only; rw [e, hlen]
    generalize (c.keys.take i).filter (fun x => !(x == key)) = f at hl2 ⊢
    rw [List.take_of_length_le (l := key :: f) (by simp only [List.length_cons]; omega), List.take_of_length_le (l := key :: (f ++ [c.keys[i]])) (by simp only [List.length_cons, List.length_append, List.length_nil]; omega), List.cons_append]
  · rw [h.gone_, e, if_neg (by omega), if_neg (by simp only [List.length_append, List.length_cons, List.length_nil]; omega)]
theorem TInv.drop {c oc : DCache} {key gone : Int} {i : Nat} (h : TInv c key oc gone i) (hi : i < c.keys.length) (hk : c.keys[i] ≠ key) (hl : c.room ≤ (oc.keys.length : Int)) : TInv c key oc c.keys[i] (i + 1) := by
  have hr := h.rb
  have e := filt_snoc hi hk
  have hlen := h.keys
  have hl2 := congrArg List.length hlen
  simp only [List.length_take, List.length_cons] at hl2
  refine ⟨h.room, h.rb, hi, ?_, ?_⟩
  · rw [e, hlen, ← List.cons_append, List.take_append_of_le_length (by simp only [List.length_cons]; omega)]
  · rw [e, if_pos (by simp only [List.length_append, List.length_cons, List.length_nil]; omega)]; simp
theorem filter_erase {l : List Int} (hn : l.Nodup) (key : Int) : l.filter (fun x => !(x == key)) = l.erase key := by
  rw [hn.erase_eq_filter]; congr 1
theorem TInv.done {c oc : DCache} {key gone : Int} {i : Nat} (h : TInv c key oc gone i) (ho : Ok c) (hi : (c.keys.length : Int) ≤ i) : oc.keys = (Lru.touch c key).1.keys ∧ gone = (Lru.touch c key).2.2 := by
  have hr := h.rb
  have hl := ho.len
  have e : (c.keys.take i).filter (fun x => !(x == key)) = c.keys.erase key := by rw [List.take_of_length_le (by omega), filter_erase ho.once]
  refine ⟨by rw [h.keys, e]; rfl, ?_⟩
  rw [h.gone_, e]
  show _ = Lru.gone c.room c.keys key
  unfold Lru.gone
  by_cases hm : key ∈ c.keys
  · have h1 := List.length_erase_of_mem hm
    have h2 := List.length_pos_of_mem hm
    rw [if_neg (by omega), if_neg (fun h => h.1 hm)]
  · rw [List.erase_of_not_mem hm]
    by_cases hf : (c.keys.length : Int) = c.room
    · rw [if_pos (by omega), if_pos ⟨hm, hf⟩]
    · rw [if_neg (by omega), if_neg (fun h => hf h.2)]
structure RInv (c cc : DCache) (l : List Int) (n : Int) (k : Nat) : Prop where
  ok : Ok cc
  key : ∀ x ∈ l, okKey x = true
  n0 : 0 ≤ n
  n1 : n ≤ (k : Int)
  le : k ≤ l.length
  go : runGo cc n (l.drop k) = runGo c 0 l
theorem RInv.start {c : DCache} {l : List Int} (h : Ok c) (hk : ∀ x ∈ l, okKey x = true) : RInv c c l 0 0 := ⟨h, hk, Int.le_refl _, Int.le_refl _, Nat.zero_le _, rfl⟩
theorem RInv.start' {c : DCache} {l : List Int} (h : check c = 0) (hk : trace l = 0) : RInv c c l 0 0 := RInv.start (ok_of h) (trace_ok.1 hk).2
theorem RInv.hit {c cc : DCache} {l : List Int} {n : Int} {k : Nat} (h : RInv c cc l n k) (hk : k < l.length) (ht : (Lru.touch cc l[k]).2.1 = true) : RInv c (Lru.touch cc l[k]).1 l (n + 1) (k + 1) := by
  obtain ⟨g1, g0, g2, g3, g4, g5⟩ := h
  rw [List.drop_eq_getElem_cons hk, runGo, if_pos ht] at g5
  exact ⟨g1.touch (g0 _ (List.getElem_mem hk)), g0, by omega, by omega, hk, g5⟩
theorem RInv.miss {c cc : DCache} {l : List Int} {n : Int} {k : Nat} (h : RInv c cc l n k) (hk : k < l.length) (ht : (Lru.touch cc l[k]).2.1 = false) : RInv c (Lru.touch cc l[k]).1 l n (k + 1) := by
  obtain ⟨g1, g0, g2, g3, g4, g5⟩ := h
  rw [List.drop_eq_getElem_cons hk, runGo, if_neg (by simp [ht])] at g5
  exact ⟨g1.touch (g0 _ (List.getElem_mem hk)), g0, by omega, by omega, hk, g5⟩
theorem RInv.done {c cc : DCache} {l : List Int} {n : Int} {k : Nat} (h : RInv c cc l n k) (hk : (l.length : Int) ≤ k) : runGo c 0 l = (cc, n) := by
  rw [← h.go, List.drop_of_length_le (by omega)]; rfl
theorem Ok.runGo {l : List Int} : ∀ {c : DCache} {n : Int}, Ok c → (∀ x ∈ l, okKey x = true) → Ok (runGo c n l).1 := by
  induction l with
  | nil => intro c n h _; exact h
  | cons k l ih => intro c n h hk; exact ih (h.touch (hk k (by simp))) (fun x hx => hk x (by simp [hx]))
theorem runGo_append {l m : List Int} : ∀ {c : DCache} {n : Int}, Lru.runGo c n (l ++ m) = Lru.runGo (Lru.runGo c n l).1 (Lru.runGo c n l).2 m := by
  induction l with
  | nil => intro c n; rfl
  | cons k l ih => intro c n; rw [List.cons_append, Lru.runGo, ih]; rfl
theorem runGo_add {l : List Int} : ∀ {c : DCache} {n : Int}, Lru.runGo c n l = ((Lru.runGo c 0 l).1, n + (Lru.runGo c 0 l).2) := by
  induction l with
  | nil => intro c n; simp [Lru.runGo]
  | cons k l ih =>
    intro c n
    rw [Lru.runGo, ih, Lru.runGo, ih (n := if (Lru.touch c k).2.1 = true then 0 + 1 else 0)]
    split <;> simp <;> omega
theorem runGo_room {l : List Int} : ∀ {c : DCache} {n : Int}, (Lru.runGo c n l).1.room = c.room := by
  induction l with
  | nil => intro c n; rfl
  | cons k l ih => intro c n; rw [Lru.runGo, ih]; rfl
theorem same_cache {a b : DCache} : a = b ↔ a.room = b.room ∧ a.keys = b.keys := by
  constructor
  · rintro rfl; exact ⟨rfl, rfl⟩
  · rintro ⟨h1, h2⟩; cases a; cases b; simp_all
/-! ### inclusion -/
theorem take_erase {l : List Int} {k : Int} {s : Nat} (hk : k ∈ l.take s) : (l.take s).erase k = (l.erase k).take (s - 1) := by
  induction l generalizing s with
  | nil => simp at hk
  | cons a l ih =>
    cases s with
    | zero => simp at hk
    | succ s =>
      rw [List.take_succ_cons] at hk ⊢
      by_cases e : a = k
      · subst e; simp
      · have e' : (a == k) = false := by simpa using e
        rw [List.erase_cons, List.erase_cons, if_neg (by simp [e']), if_neg (by simp [e'])]
        have hk' : k ∈ l.take s := by rcases List.mem_cons.1 hk with h | h; exact absurd h.symm e; exact h
        rw [ih hk']
        obtain ⟨t, rfl⟩ : ∃ t, s = t + 1 := by
          cases s with
          | zero => simp at hk'
          | succ t => exact ⟨t, rfl⟩
        rfl
theorem take_erase_not {l : List Int} {k : Int} {s : Nat} (hk : k ∉ l.take (s + 1)) : (l.erase k).take s = l.take s := by
  induction l generalizing s with
  | nil => simp
  | cons a l ih =>
    rw [List.take_succ_cons] at hk
    have e : ¬ a = k := fun e => hk (by simp [e])
    have e' : (a == k) = false := by simpa using e
    rw [List.erase_cons, if_neg (by simp [e'])]
    cases s with
    | zero => rfl
    | succ s => rw [List.take_succ_cons, List.take_succ_cons, ih (fun h => hk (List.mem_cons_of_mem _ h))]
theorem front_take {s r : Nat} {l : List Int} {k : Int} (hs : 0 < s) (h : s ≤ r) : front s (l.take s) k = (front r l k).take s := by
  obtain ⟨t, rfl⟩ : ∃ t, s = t + 1 := ⟨s - 1, by omega⟩
  unfold front
  rw [List.take_take, Nat.min_eq_left h, List.take_succ_cons, List.take_succ_cons]
  congr 1
  by_cases hk : k ∈ l.take (t + 1)
  · rw [take_erase hk, List.take_take, Nat.add_sub_cancel, Nat.min_self]
  · rw [List.erase_of_not_mem hk, List.take_take, Nat.min_eq_left (by omega), take_erase_not hk]
theorem inclusion {l : List Int} : ∀ {a b : DCache} {n m : Int}, 1 ≤ a.room → a.room ≤ b.room → a.keys = b.keys.take a.room.toNat → n ≤ m → (Lru.runGo a n l).2 ≤ (Lru.runGo b m l).2 ∧ (Lru.runGo a n l).1.keys = (Lru.runGo b m l).1.keys.take a.room.toNat := by
  induction l with
  | nil => intro a b n m _ _ h1 h2; exact ⟨h2, h1⟩
  | cons k l ih =>
    intro a b n m h1 hr hk hn
    rw [Lru.runGo, Lru.runGo]
    refine ih (a := (Lru.touch a k).1) (b := (Lru.touch b k).1) h1 hr ?_ ?_
    · show front a.room.toNat a.keys k = (front b.room.toNat b.keys k).take a.room.toNat
      rw [hk]; exact front_take (by omega) (by omega)
    · have hs : k ∈ a.keys → k ∈ b.keys := fun h => by rw [hk] at h; exact List.mem_of_mem_take h
      simp only [Lru.touch, decide_eq_true_eq]
      by_cases ha : k ∈ a.keys
      · rw [if_pos ha, if_pos (hs ha)]; omega
      · rw [if_neg ha]; split <;> omega
/-! ### what was used last -/
theorem runGo_keys {l : List Int} : ∀ {c : DCache} {n : Int}, ∀ x ∈ (Lru.runGo c n l).1.keys, x ∈ c.keys ∨ x ∈ l := by
  induction l with
  | nil => intro c n x hx; exact .inl hx
  | cons k l ih =>
    intro c n x hx
    rw [Lru.runGo] at hx
    rcases ih x hx with h | h
    · rcases mem_front h with rfl | h
      · exact .inr (by simp)
      · exact .inl h
    · exact .inr (List.mem_cons_of_mem _ h)
theorem runGo_snoc {l : List Int} {c : DCache} {n : Int} {k : Int} : (Lru.runGo c n (l ++ [k])).1 = (Lru.touch (Lru.runGo c n l).1 k).1 := by rw [runGo_append]; rfl
theorem runGo_last {l : List Int} {c : DCache} {n : Int} (h0 : l ≠ []) (hr : 1 ≤ c.room) : ∃ r, (Lru.runGo c n l).1.keys = l.getLast h0 :: r := by
  have e := List.dropLast_concat_getLast h0
  have : (Lru.runGo c n l).1 = (Lru.touch (Lru.runGo c n l.dropLast).1 (l.getLast h0)).1 := by
    conv => lhs; rw [← e]
    exact runGo_snoc
  rw [this]
  show ∃ r, front (Lru.runGo c n l.dropLast).1.room.toNat _ _ = _
  rw [runGo_room]
  obtain ⟨t, ht⟩ : ∃ t, c.room.toNat = t + 1 := ⟨c.room.toNat - 1, by omega⟩
  unfold front; rw [ht, List.take_succ_cons]; exact ⟨_, rfl⟩
theorem touch_first {c : DCache} {k : Int} {r : List Int} (ho : Ok c) (h : c.keys = k :: r) : Lru.touch c k = (c, true, -1) := by
  have hm : k ∈ c.keys := by simp [h]
  have hl := ho.len
  unfold Lru.touch
  rw [front_hit hm (by omega)]
  simp [gone, hm, h]
  cases c; simp_all
/-! ### LruSpec -/
theorem acc_num (c : DCache) (key : Int) : (check c ≠ 0 ∧ access c key = (zero, false, 0) ∧ accessErr c key = check c) ∨ (check c = 0 ∧ (key < 0 ∨ 1048576 < key) ∧ access c key = (zero, false, 0) ∧ accessErr c key = 3) ∨ (check c = 0 ∧ (0 ≤ key ∧ key ≤ 1048576) ∧ access c key = touch c key ∧ accessErr c key = 0) := by
  rcases acc_cases c key with h | ⟨a, b, d⟩ | ⟨a, b, d⟩
  · exact .inl h
  · refine .inr (.inl ⟨a, ?_, d⟩); simp [okKey] at b; omega
  · exact .inr (.inr ⟨a, key_ok b, d⟩)
theorem size_num (c : DCache) (room : Int) : (check c ≠ 0 ∧ resize c room = (zero, []) ∧ sizeErr c room = check c) ∨ (check c = 0 ∧ (room < 1 ∨ 40 < room) ∧ resize c room = (zero, []) ∧ sizeErr c room = 3) ∨ (check c = 0 ∧ (1 ≤ room ∧ room ≤ 40) ∧ resize c room = (⟨room, c.keys.take room.toNat⟩, (c.keys.drop room.toNat).reverse) ∧ sizeErr c room = 0) := by
  rcases size_cases c room with h | ⟨a, b, d⟩ | ⟨a, b, d⟩
  · exact .inl h
  · refine .inr (.inl ⟨a, ?_, d⟩); simp [okRoom] at b; omega
  · exact .inr (.inr ⟨a, room_ok b, d⟩)
structure ZInv (c : DCache) (room : Int) (sc : DCache) (less : List Int) : Prop where
  rm : sc.room = room
  rb : 1 ≤ room
  len : sc.keys.length + less.length = c.keys.length
  keys : sc.keys = c.keys.take sc.keys.length
  less_ : less = (c.keys.drop sc.keys.length).reverse
  few : less = [] ∨ room ≤ (sc.keys.length : Int)
theorem ZInv.start {c : DCache} {room : Int} (h : 1 ≤ room) : ZInv c room ⟨room, c.keys⟩ [] := ⟨rfl, h, by simp, by simp, by simp, .inl rfl⟩
theorem ZInv.next {c sc : DCache} {room : Int} {less : List Int} (h : ZInv c room sc less) (hl : room < (sc.keys.length : Int)) (hi : ((sc.keys.length : Int) - 1).toNat < sc.keys.length) : ZInv c room ⟨sc.room, sc.keys.take ((sc.keys.length : Int) - 1).toNat⟩ (less ++ [sc.keys[((sc.keys.length : Int) - 1).toNat]]) := by
  obtain ⟨a, b, l, k, e, f⟩ := h
  have e1 : ((sc.keys.length : Int) - 1).toNat = sc.keys.length - 1 := by omega
  have e2 : (sc.keys.take (sc.keys.length - 1)).length = sc.keys.length - 1 := by simp
  have hc : sc.keys.length - 1 < c.keys.length := by omega
  have hg : sc.keys[sc.keys.length - 1]'(by omega) = c.keys[sc.keys.length - 1] := by
    have : sc.keys[sc.keys.length - 1]'(by omega) = (c.keys.take sc.keys.length)[sc.keys.length - 1]'(by simp; omega) := by
      congr 1
    rw [this, List.getElem_take]
  simp only [e1]
  refine ⟨a, b, by simp only [List.length_append, List.length_singleton, e2]; omega, ?_, ?_, .inr (by simp only [e2]; omega)⟩
  · have hk := congrArg (List.take (sc.keys.length - 1)) k
    rw [List.take_take, Nat.min_eq_left (by omega)] at hk
    simp only [e2]; exact hk
  · simp only [e2, hg]
    rw [List.drop_eq_getElem_cons hc, List.reverse_cons, show sc.keys.length - 1 + 1 = sc.keys.length by omega, ← e]
theorem ZInv.done {c sc : DCache} {room : Int} {less : List Int} (h : ZInv c room sc less) (hl : (sc.keys.length : Int) ≤ room) : sc = ⟨room, c.keys.take room.toNat⟩ ∧ less = (c.keys.drop room.toNat).reverse := by
  obtain ⟨a, b, l, k, e, f⟩ := h
  have key : sc.keys = c.keys.take room.toNat ∧ less = (c.keys.drop room.toNat).reverse := by
    rcases f with f | f
    · subst f
      simp only [List.length_nil, Nat.add_zero] at l
      refine ⟨?_, ?_⟩
      · rw [k, l, List.take_of_length_le (Nat.le_refl _), List.take_of_length_le (by omega)]
      · rw [List.drop_of_length_le (by omega)]; rfl
    · have : sc.keys.length = room.toNat := by omega
      exact ⟨by rw [← this]; exact k, by rw [← this]; exact e⟩
  exact ⟨by cases sc; simp only at a key ⊢; rw [a, key.1], key.2⟩
end Go.Sx.Lru

/- LRU: inclusion, parts, what was used last: as the program's statements ask. -/
namespace Go.Sx.Lru
theorem run_n (l : List Int) : ∀ (c : DCache), 0 ≤ (Lru.runGo c 0 l).2 ∧ (Lru.runGo c 0 l).2 ≤ l.length := by
  induction l with
  | nil => intro c; simp [Lru.runGo]
  | cons k l ih =>
    intro c
    rw [Lru.runGo, runGo_add]
    have := ih (touch c k).1
    split <;> simp <;> omega
theorem run_small {c : DCache} {l : List Int} (h : runErr c l = 0) : l.length ≤ 200 := (trace_ok.1 (run_ok h).2.1).1
theorem run_oks {c : DCache} {l : List Int} (h : runErr c l = 0) : Ok (run c l).1 := by
  obtain ⟨a, b, e⟩ := run_ok h
  rw [e]; exact (ok_of a).runGo (trace_ok.1 b).2
theorem parts_err {c : DCache} {l m : List Int} (h : runErr c l = 0) : runErr (run c l).1 m = runErr c (l ++ m) ∨ runErr c (l ++ m) = 2 := by
  have ho := run_oks h
  obtain ⟨a1, a2, a3⟩ := run_ok h
  obtain ⟨t1, t2⟩ := trace_ok.1 a2
  have e1 : runErr (run c l).1 m = trace m := by unfold runErr; rw [if_pos (check_ok.2 ho)]
  have e2 : runErr c (l ++ m) = trace (l ++ m) := by unfold runErr; rw [if_pos a1]
  rw [e1, e2]
  by_cases g : 200 < (l ++ m).length
  · right; unfold trace; rw [if_pos g]
  · left
    have g2 : ¬ 200 < m.length := by rw [List.length_append] at g; omega
    have g3 : (l ++ m).any (fun k => !okKey k) = m.any (fun k => !okKey k) := by
      have : l.any (fun k => !okKey k) = false := List.any_eq_false.2 fun k hk => by simp [t2 k hk]
      rw [List.any_append, this, Bool.false_or]
    unfold trace; rw [if_neg g, if_neg g2, g3]
theorem parts_ok {c : DCache} {l m : List Int} (h : runErr c l = 0) (h2 : runErr (run c l).1 m = 0) (h3 : runErr c (l ++ m) = 0) :
    (run (run c l).1 m).1 = (run c (l ++ m)).1 ∧ (run c (l ++ m)).2 = (run c l).2 + (run (run c l).1 m).2 ∧ 0 ≤ (run c l).2 ∧ (run c l).2 ≤ 200 ∧ 0 ≤ (run (run c l).1 m).2 ∧ (run (run c l).1 m).2 ≤ 200 := by
  obtain ⟨a1, a2, a3⟩ := run_ok h
  obtain ⟨b1, b2, b3⟩ := run_ok h2
  obtain ⟨c1, c2, c3⟩ := run_ok h3
  have n1 := run_n l c
  have n2 := run_n m (run c l).1
  have t1 := (trace_ok.1 a2).1
  have t2 := (trace_ok.1 b2).1
  have e := runGo_append (l := l) (m := m) (c := c) (n := 0)
  rw [runGo_add (l := m)] at e
  rw [b3, c3, e, a3] at *
  exact ⟨rfl, rfl, by omega, by omega, by omega, by omega⟩
theorem parts_bool {c : DCache} {l m : List Int} (h : runErr c l = 0) (h2 : runErr (run c l).1 m = 0) (h3 : runErr c ([] ++ l ++ m) = 0) :
    (decide ((run (run c l).1 m).1 = (run c ([] ++ l ++ m)).1) && ((run c ([] ++ l ++ m)).2 == IntKind.i64.wrap ((run c l).2 + (run (run c l).1 m).2))) = true := by
  obtain ⟨p1, p2, p3, p4, p5, p6⟩ := parts_ok (l := l) h h2 h3
  rw [wrap_i64 (by omega)]
  simp only [List.nil_append]
  simp [p1, p2]
theorem parts_bool2 {c : DCache} {l m : List Int} (h : runErr c l = 0) : (runErr (run c l).1 m == runErr c ([] ++ l ++ m) || runErr c ([] ++ l ++ m) == 2) = true := by
  rcases parts_err (l := l) (m := m) h with e | e
  · simp only [List.nil_append]; simp [e]
  · simp only [List.nil_append]; simp [e]
theorem parts_bool3 {c : DCache} {l : List Int} (h : runErr c l ≠ 0) : ((run c l).2 == 0 && (((run c l).1.keys.length : Int) == 0)) = true := by rw [run_bad h]; rfl
/-! ### Inclusion -/
theorem incl {l : List Int} {small great : Int} (ha : runErr ⟨small, []⟩ l = 0) (hb : runErr ⟨great, []⟩ l = 0) (hs : small ≤ great) :
    (run ⟨small, []⟩ l).2 ≤ (run ⟨great, []⟩ l).2 ∧ (run ⟨small, []⟩ l).1.keys.length ≤ (run ⟨great, []⟩ l).1.keys.length ∧ (run ⟨small, []⟩ l).1.keys = (run ⟨great, []⟩ l).1.keys.take (run ⟨small, []⟩ l).1.keys.length := by
  obtain ⟨a1, a2, a3⟩ := run_ok ha
  obtain ⟨b1, b2, b3⟩ := run_ok hb
  rw [a3, b3]
  obtain ⟨h1, h2⟩ := inclusion (l := l) (a := ⟨small, []⟩) (b := ⟨great, []⟩) (n := 0) (m := 0) (ok_of a1).room.1 hs (by simp) (Int.le_refl 0)
  refine ⟨h1, ?_, ?_⟩
  · rw [h2]; simp; omega
  · have e : (Lru.runGo ⟨small, []⟩ 0 l).1.keys.length = min small.toNat (Lru.runGo ⟨great, []⟩ 0 l).1.keys.length := by rw [h2, List.length_take]
    rw [e, take_min]; exact h2
/-! ### Recent -/
theorem from_ {c : DCache} {l : List Int} (h : runErr c l = 0) {x : Int} (hx : x ∈ (run c l).1.keys) : x ∈ c.keys ∨ x ∈ l := by
  obtain ⟨_, _, e⟩ := run_ok h
  rw [e] at hx; exact runGo_keys x hx
theorem from_no {c : DCache} {l : List Int} {i : Nat} (h : runErr c l = 0) (hi : i < (run c l).1.keys.length) (h1 : Ref.hasInt c.keys (run c l).1.keys[i] = false) (h2 : Ref.hasInt l (run c l).1.keys[i] = false) : False := by
  rcases from_ h (List.getElem_mem hi) with g | g
  · simp [Ref.hasInt] at h1; exact h1 g
  · simp [Ref.hasInt] at h2; exact h2 g
theorem run_nil {c : DCache} {l : List Int} (h : runErr c l = 0) (hl : l.length = 0) : (run c l).1 = c := by
  obtain ⟨_, _, e⟩ := run_ok h
  rw [e, List.length_eq_zero_iff.1 hl]; rfl
theorem recent {c : DCache} {l : List Int} {j : Nat} (h : runErr c l = 0) (hj : j + 1 = l.length) :
    accessErr (run c l).1 (l[j]'(by omega)) = 0 ∧ access (run c l).1 (l[j]'(by omega)) = ((run c l).1, true, -1) ∧ sizeErr (run c l).1 1 = 0 ∧ (resize (run c l).1 1).1.keys = [l[j]'(by omega)] ∧ (resize (run c l).1 1).2.length + 1 = (run c l).1.keys.length := by
  have ho := run_oks h
  have hc := check_ok.2 ho
  obtain ⟨a1, a2, a3⟩ := run_ok h
  have h0 : l ≠ [] := by rintro rfl; simp at hj
  obtain ⟨r, hr⟩ := runGo_last (c := c) (n := 0) h0 (ok_of a1).room.1
  have hl : l.getLast h0 = l[j]'(by omega) := by rw [List.getLast_eq_getElem]; congr 1; omega
  rw [hl, ← a3] at hr
  have hk : okKey (l[j]'(by omega)) = true := (trace_ok.1 a2).2 _ (List.getElem_mem _)
  have e1 : accessErr (run c l).1 (l[j]'(by omega)) = 0 := by unfold accessErr; rw [if_pos hc, if_pos hk]
  obtain ⟨s1, s2⟩ := size3 (c := (run c l).1) (room := 1) hc (by rfl)
  refine ⟨e1, ?_, s2, ?_, ?_⟩
  · rw [access, if_pos e1]; exact touch_first ho hr
  · rw [s1, hr]; rfl
  · rw [s1, hr]; simp
end Go.Sx.Lru
