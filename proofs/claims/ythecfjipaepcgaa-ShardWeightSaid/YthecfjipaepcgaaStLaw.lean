/- Insertion sort, as the library does it: the plain function, its loops, and what it gives. -/
import Derived.Test.YthecfjipaepcgaaLbPure
import Derived.Test.YthecfjipaepcgaaGdLaw
namespace Go.Sx.St
section
variable {α : Type}
def insR (f : α → α → Int) (x : α) : List α → List α
  | [] => [x]
  | p :: r => if f x p < 0 then p :: insR f x r else x :: p :: r
def insF (f : α → α → Int) (P : List α) (x : α) : List α := (insR f x P.reverse).reverse
def isort (f : α → α → Int) (l : List α) : List α := l.foldl (insF f) []
theorem insR_perm (f : α → α → Int) (x : α) : ∀ l, (insR f x l).Perm (x :: l)
  | [] => List.Perm.refl _
  | p :: r => by
    simp only [insR]
    split
    · exact ((insR_perm f x r).cons p).trans (List.Perm.swap x p r)
    · exact List.Perm.refl _
theorem insF_perm (f : α → α → Int) (P : List α) (x : α) : (insF f P x).Perm (x :: P) :=
  (List.reverse_perm _).trans ((insR_perm f x _).trans ((List.reverse_perm P).cons x))
theorem rev_ind {p : List α → Prop} (h0 : p []) (h1 : ∀ l x, p l → p (l ++ [x])) (l : List α) : p l := by
  have h : ∀ m : List α, p m.reverse := by
    intro m
    induction m with
    | nil => exact h0
    | cons x m ih => rw [List.reverse_cons]; exact h1 _ _ ih
  have := h l.reverse
  rwa [List.reverse_reverse] at this
theorem isort_snoc (f : α → α → Int) (l : List α) (x : α) : isort f (l ++ [x]) = insF f (isort f l) x := by simp [isort]
theorem isort_perm (f : α → α → Int) (l : List α) : (isort f l).Perm l := by
  refine rev_ind (p := fun l => (isort f l).Perm l) (List.Perm.refl _) (fun l x ih => ?_) l
  · show (isort f (l ++ [x])).Perm (l ++ [x])
    rw [isort_snoc]
    exact (insF_perm f _ x).trans ((ih.cons x).trans (List.perm_append_singleton x l).symm)
theorem isort_len (f : α → α → Int) (l : List α) : (isort f l).length = l.length := (isort_perm f l).length_eq
theorem ite_len (f : α → α → Int) (l : List α) (a : Int) : (if a = 0 then isort f l else l).length = l.length := by split; exact isort_len f l; rfl
theorem isort_mem {f : α → α → Int} {l : List α} {x : α} : x ∈ isort f l ↔ x ∈ l := (isort_perm f l).mem_iff
theorem isort_next (f : α → α → Int) {l : List α} {i : Nat} (h : i < l.length) : isort f (l.take (i + 1)) = insF f (isort f (l.take i)) l[i] := by
  rw [List.take_succ_eq_append_getElem h, isort_snoc]
theorem insR_at {f : α → α → Int} {x : α} : ∀ {r : List α} {k : Nat}, k ≤ r.length → (∀ p ∈ r.take k, f x p < 0) → (∀ (h : k < r.length), ¬ f x r[k] < 0) → insR f x r = r.take k ++ x :: r.drop k
  | [], k, _, _, _ => by simp [insR]
  | p :: r, 0, _, _, h => by simp only [insR]; rw [if_neg (show ¬ f x p < 0 from h (by simp))]; rfl
  | p :: r, k + 1, hk, h1, h2 => by
    simp only [insR]
    rw [if_pos (h1 p (by simp)), insR_at (r := r) (k := k) (by simpa using hk) (fun q hq => h1 q (by simp [hq])) (fun h => by have := h2 (by simpa using h); simpa using this)]
    simp
theorem insF_at {f : α → α → Int} {x : α} {P : List α} {j : Nat} (hj : j ≤ P.length) (h1 : ∀ p ∈ P.drop j, f x p < 0) (h2 : ∀ (h : 0 < j), ¬ f x (P[j - 1]'(by omega)) < 0) : insF f P x = P.take j ++ x :: P.drop j := by
  unfold insF
  rw [insR_at (k := P.length - j) (by simp) (fun p hp => h1 p (by
    rw [List.take_reverse] at hp
    rw [show P.length - (P.length - j) = j by omega] at hp
    simpa using hp)) (fun h => by
    rw [List.getElem_reverse]
    have := h2 (by simp at h; omega)
    have e : P.length - 1 - (P.length - j) = j - 1 := by omega
    simpa only [e] using this)]
  rw [List.take_reverse, List.drop_reverse, show P.length - (P.length - j) = j by omega]
  simp
/-! ### the order -/
theorem insR_sorted {f : α → α → Int} {x : α} {R : α → α → Prop} (ht : ∀ a b c, R a b → R b c → R a c) : ∀ {r : List α}, (∀ p ∈ r, f x p < 0 → R x p) → (∀ p ∈ r, ¬ f x p < 0 → R p x) → r.Pairwise (fun a b => R b a) → (insR f x r).Pairwise (fun a b => R b a)
  | [], _, _, _ => by simp [insR]
  | p :: r, h1, h2, hp => by
    obtain ⟨hp1, hp2⟩ := List.pairwise_cons.1 hp
    simp only [insR]
    split
    · rename_i hn
      refine List.pairwise_cons.2 ⟨fun y hy => ?_, insR_sorted (r := r) ht (fun q hq => h1 q (by simp [hq])) (fun q hq => h2 q (by simp [hq])) hp2⟩
      rcases List.mem_cons.1 ((insR_perm f x r).mem_iff.1 hy) with rfl | hy
      · exact h1 p (by simp) hn
      · exact hp1 y hy
    · rename_i hn
      refine List.pairwise_cons.2 ⟨fun y hy => ?_, hp⟩
      have hpx := h2 p (by simp) hn
      rcases List.mem_cons.1 hy with rfl | hy
      · exact hpx
      · exact ht _ _ _ (hp1 y hy) hpx
theorem insF_sorted {f : α → α → Int} {x : α} {R : α → α → Prop} (ht : ∀ a b c, R a b → R b c → R a c) {P : List α} (h1 : ∀ p ∈ P, f x p < 0 → R x p) (h2 : ∀ p ∈ P, ¬ f x p < 0 → R p x) (hp : P.Pairwise R) : (insF f P x).Pairwise R := by
  unfold insF
  rw [List.pairwise_reverse]
  exact insR_sorted ht (fun p hp => h1 p (by simpa using hp)) (fun p hp => h2 p (by simpa using hp)) (List.pairwise_reverse.2 hp)
/-- O: the order in which the elements stand ahead of the sorting -/
theorem isort_sorted {f : α → α → Int} {R O : α → α → Prop} (ht : ∀ a b c, R a b → R b c → R a c) (h1 : ∀ {x p}, O p x → f x p < 0 → R x p) (h2 : ∀ {x p}, O p x → ¬ f x p < 0 → R p x) (l : List α) (hO : l.Pairwise O) : (isort f l).Pairwise R := by
  revert hO
  refine rev_ind (p := fun l => l.Pairwise O → (isort f l).Pairwise R) (fun _ => List.Pairwise.nil) (fun l x ih hO => ?_) l
  · rw [isort_snoc]
    obtain ⟨ho1, _, ho2⟩ := List.pairwise_append.1 hO
    exact insF_sorted ht (fun p hp => h1 (ho2 p (isort_mem.1 hp) x (by simp))) (fun p hp => h2 (ho2 p (isort_mem.1 hp) x (by simp))) (ih ho1)
/-! ### the loops -/
structure OI (f : α → α → Int) (l : List α) (a : Int) (ls : List α) (i : Int) : Prop where
  lo : a + 1 ≤ i
  hi : i ≤ l.length ∨ i = a + 1
  eq : (a = 0 ∧ ls = isort f (l.take i.toNat) ++ l.drop i.toNat) ∨ (a = l.length ∧ ls = l)
theorem OI.len {f : α → α → Int} {l ls : List α} {a i : Int} (h : OI f l a ls i) : ls.length = l.length := by
  rcases h.eq with ⟨_, e⟩ | ⟨_, e⟩ <;> rw [e]
  rw [List.length_append, isort_len, List.length_take, List.length_drop]; omega
theorem OI.mem {f : α → α → Int} {l ls : List α} {a i : Int} (h : OI f l a ls i) : ls.Perm l := by
  rcases h.eq with ⟨_, e⟩ | ⟨_, e⟩ <;> rw [e]
  exact ((isort_perm f _).append_right _).trans (by rw [List.take_append_drop])
theorem OI.start {f : α → α → Int} {l : List α} {a : Int} (h : a = 0 ∨ a = l.length) : OI f l a l (a + 1) :=
  ⟨Int.le_refl _, .inr rfl, by
    rcases h with h | h
    · left; subst h; refine ⟨rfl, ?_⟩
      show l = isort f (l.take 1) ++ l.drop 1
      match l with
      | [] => rfl
      | [x] => rfl
      | x :: y :: r => rfl
    · right; exact ⟨h, rfl⟩⟩
theorem OI.done {f : α → α → Int} {l ls : List α} {a i : Int} (h : OI f l a ls i) (hi : (l.length : Int) ≤ i) : ls = if a = 0 then isort f l else l := by
  rcases h.eq with ⟨e1, e⟩ | ⟨e1, e⟩
  · rw [if_pos e1, e, List.take_of_length_le (by omega), List.drop_of_length_le (by omega), List.append_nil]
  · rw [e]; split
    · match l with
      | [] => rfl
      | x :: r => simp at e1; omega
    · rfl
theorem plen (f : α → α → Int) {l : List α} {i : Int} (h : 0 < i ∧ i < l.length) : (isort f (l.take i.toNat)).length = i.toNat := by
  rw [isort_len, List.length_take]; omega
theorem swap_mid (A B : List α) (p x : α) {j : Nat} (hj : j = A.length + 1) : ((A ++ p :: x :: B).set j p).set (j - 1) x = A ++ x :: p :: B := by
  subst hj
  rw [List.set_append_right _ _ (by omega), show A.length + 1 - A.length = 1 by omega, List.set_append_right _ _ (by omega), show A.length + 1 - 1 - A.length = 0 by omega]
  rfl
/-- blocks of twenty, at lists of at most twenty -/
inductive BI (f : α → α → Int) (l ls : List α) (a b : Int) : Prop where
  | first (h1 : a = 0) (h2 : b = 20) (h3 : ls = l) : BI f l ls a b
  | then_ (h1 : a = 20) (h2 : b = 40) (h4 : l.length = 20) (h3 : ls = isort f l) : BI f l ls a b
theorem BI.start {f : α → α → Int} {l : List α} : BI f l l 0 20 := .first rfl rfl rfl
theorem BI.len {f : α → α → Int} {l ls : List α} {a b : Int} (h : BI f l ls a b) : ls.length = l.length := by
  rcases h with ⟨_, _, rfl⟩ | ⟨_, _, _, rfl⟩
  · rfl
  · exact isort_len f l
theorem BI.cases {f : α → α → Int} {l ls : List α} {a b : Int} (h : BI f l ls a b) : (a = 0 ∧ b = 20) ∨ (a = 20 ∧ b = 40 ∧ (l.length : Int) = 20) := by
  rcases h with ⟨h1, h2, _⟩ | ⟨h1, h2, h3, _⟩
  · exact .inl ⟨h1, h2⟩
  · exact .inr ⟨h1, h2, by omega⟩
theorem BI.mem {f : α → α → Int} {l ls : List α} {a b : Int} (h : BI f l ls a b) {x : α} : x ∈ ls ↔ x ∈ l := by
  rcases h with ⟨_, _, rfl⟩ | ⟨_, _, _, rfl⟩
  · rfl
  · exact isort_mem
theorem BI.next {f : α → α → Int} {l ls : List α} {a b : Int} (h : BI f l ls a b) (hb : b ≤ 20 ∧ (l.length : Int) = 20) : BI f l (if a = 0 then isort f ls else ls) b (b + 20) := by
  rcases h with ⟨h1, h2, rfl⟩ | ⟨h1, h2, h3, rfl⟩
  · exact .then_ h2 (by omega) (by omega) (by rw [if_pos h1])
  · omega
theorem BI.done {f : α → α → Int} {l ls : List α} {a b : Int} (h : BI f l ls a b) : (if a = 0 then isort f ls else ls) = isort f l := by
  rcases h with ⟨h1, h2, rfl⟩ | ⟨h1, h2, h3, rfl⟩
  · rw [if_pos h1]
  · rw [if_neg (by omega)]
variable [Inhabited α]
structure II (f : α → α → Int) (l : List α) (a : Int) (ls : List α) (i j : Int) : Prop where
  a0 : a = 0
  ilt : 0 < i ∧ i < l.length
  jlo : 0 ≤ j
  jhi : j ≤ i
  eq : ls = (isort f (l.take i.toNat)).take j.toNat ++ (l.getD i.toNat default) :: (isort f (l.take i.toNat)).drop j.toNat ++ l.drop (i.toNat + 1)
  big : ∀ p ∈ (isort f (l.take i.toNat)).drop j.toNat, f (l.getD i.toNat default) p < 0
theorem II.len {f : α → α → Int} {l ls : List α} {a i j : Int} (h : II f l a ls i j) : ls.length = l.length := by
  have := plen f h.ilt; have := h.ilt; have := h.jlo; have := h.jhi
  rw [h.eq]; simp only [List.length_append, List.length_cons, List.length_take, List.length_drop]; omega
theorem II.start {f : α → α → Int} {l ls : List α} {a i : Int} (h : OI f l a ls i) (ha : 0 ≤ a) (hi : i < l.length) : II f l a ls i i := by
  have hlo := h.lo
  rcases h.eq with ⟨e1, e⟩ | ⟨e1, e⟩
  · refine ⟨e1, ⟨by omega, hi⟩, by omega, Int.le_refl _, ?_, ?_⟩
    · have hp := plen f (l := l) (i := i) ⟨by omega, hi⟩
      rw [e, List.take_of_length_le (l := isort f (l.take i.toNat)) (by omega), List.drop_of_length_le (l := isort f (l.take i.toNat)) (by omega), List.append_assoc]
      congr 1
      rw [List.drop_eq_getElem_cons (show i.toNat < l.length by omega), ← getd_at (show i.toNat < l.length by omega) default]
      rfl
    · rw [List.drop_of_length_le (by rw [plen f ⟨by omega, hi⟩]; exact Nat.le_refl _)]
      intro p hp; cases hp
  · omega
theorem II.perm {f : α → α → Int} {l ls : List α} {a i j : Int} (h : II f l a ls i j) : ls.Perm l := by
  have hi := h.ilt
  have e : l = l.take i.toNat ++ (l.getD i.toNat default) :: l.drop (i.toNat + 1) := by
    rw [← getd_at (show i.toNat < l.length by omega) default, ← List.drop_eq_getElem_cons (show i.toNat < l.length by omega), List.take_append_drop]
  have h1 : ls.Perm ((l.getD i.toNat default) :: (isort f (l.take i.toNat)) ++ l.drop (i.toNat + 1)) := by
    rw [h.eq]
    refine List.Perm.append_right _ ?_
    refine List.perm_middle.trans ?_
    rw [List.take_append_drop]
  refine h1.trans ?_
  refine (((isort_perm f (l.take i.toNat)).cons _).append_right _).trans ?_
  have h2 : ((l.getD i.toNat default) :: l.take i.toNat ++ l.drop (i.toNat + 1)).Perm (l.take i.toNat ++ (l.getD i.toNat default) :: l.drop (i.toNat + 1)) := by
    rw [List.cons_append]; exact List.perm_middle.symm
  rw [← e] at h2; exact h2
theorem II.x {f : α → α → Int} {l ls : List α} {a i j : Int} (h : II f l a ls i j) : ls.getD j.toNat default = l.getD i.toNat default := by
  have := plen f h.ilt; have := h.ilt; have := h.jlo; have := h.jhi
  rw [h.eq, List.getD_eq_getElem?_getD, List.append_assoc, List.getElem?_append_right (by rw [List.length_take]; omega)]
  rw [List.length_take, show j.toNat - min j.toNat (isort f (l.take i.toNat)).length = 0 by omega]
  rfl
theorem II.p {f : α → α → Int} {l ls : List α} {a i j : Int} (h : II f l a ls i j) (hj : 0 < j) : ls.getD (j - 1).toNat default = (isort f (l.take i.toNat)).getD (j.toNat - 1) default := by
  have := plen f h.ilt; have := h.ilt; have := h.jlo; have := h.jhi
  rw [h.eq, List.append_assoc, List.getD_eq_getElem?_getD, List.getElem?_append_left (by rw [List.length_take]; omega), List.getElem?_take, if_pos (by omega), List.getD_eq_getElem?_getD, show (j - 1).toNat = j.toNat - 1 by omega]
theorem II.next {f : α → α → Int} {l ls : List α} {a i j : Int} (h : II f l a ls i j) (hj : 0 < j) (hlt : f (ls.getD j.toNat default) (ls.getD (j - 1).toNat default) < 0) : II f l a ((ls.set j.toNat (ls.getD (j - 1).toNat default)).set (j - 1).toNat (ls.getD j.toNat default)) i (j - 1) := by
  have hpl := plen f h.ilt; have hil := h.ilt; have hjl := h.jlo; have hjh := h.jhi
  rw [h.x, h.p hj] at *
  have hdrop : (isort f (l.take i.toNat)).drop (j - 1).toNat = (isort f (l.take i.toNat)).getD (j.toNat - 1) default :: (isort f (l.take i.toNat)).drop j.toNat := by
    rw [show (j - 1).toNat = j.toNat - 1 by omega, List.drop_eq_getElem_cons (show j.toNat - 1 < _ by omega), ← getd_at (show j.toNat - 1 < (isort f (l.take i.toNat)).length by omega) default, show j.toNat - 1 + 1 = j.toNat by omega]
  have htake : (isort f (l.take i.toNat)).take j.toNat = (isort f (l.take i.toNat)).take (j - 1).toNat ++ [(isort f (l.take i.toNat)).getD (j.toNat - 1) default] := by
    rw [show j.toNat = (j - 1).toNat + 1 by omega, List.take_succ_eq_append_getElem (by omega), show (j - 1).toNat + 1 - 1 = (j - 1).toNat by omega, ← getd_at (show (j - 1).toNat < (isort f (l.take i.toNat)).length by omega) default]
  refine ⟨h.a0, hil, by omega, by omega, ?_, ?_⟩
  · rw [h.eq, htake, hdrop]
    simp only [List.append_assoc, List.singleton_append, List.cons_append, List.nil_append]
    have := swap_mid ((isort f (l.take i.toNat)).take (j - 1).toNat) ((isort f (l.take i.toNat)).drop j.toNat ++ l.drop (i.toNat + 1)) ((isort f (l.take i.toNat)).getD (j.toNat - 1) default) (l.getD i.toNat default) (j := j.toNat) (by rw [List.length_take]; omega)
    rw [show (j - 1).toNat = j.toNat - 1 by omega] at *
    exact this
  · rw [hdrop]
    intro p hp
    rcases List.mem_cons.1 hp with rfl | hp
    · exact hlt
    · exact h.big p hp
theorem II.fin {f : α → α → Int} {l ls : List α} {a i j : Int} (h : II f l a ls i j) (he : j ≤ 0 ∨ ¬ f (ls.getD j.toNat default) (ls.getD (j - 1).toNat default) < 0) : OI f l a ls (i + 1) := by
  have hpl := plen f h.ilt; have hil := h.ilt; have hjl := h.jlo; have hjh := h.jhi
  refine ⟨by have := h.a0; omega, .inl (by omega), .inl ⟨h.a0, ?_⟩⟩
  rw [show (i + 1).toNat = i.toNat + 1 by omega, isort_next f (show i.toNat < l.length by omega), getd_at (show i.toNat < l.length by omega) default]
  rw [insF_at (j := j.toNat) (by omega) h.big (fun h0 => ?_), ← h.eq]
  have h1 := he.resolve_left (by omega)
  rw [h.x, h.p (by omega), ← getd_at (show j.toNat - 1 < (isort f (l.take i.toNat)).length by omega) default] at h1
  exact h1
theorem II.both {f : α → α → Int} {l ls : List α} {a i j : Int} (h : II f l a ls i j) {p : α → Prop} (hp : ∀ x ∈ l, p x) (hj : 0 < j) : p (ls.getD j.toNat default) ∧ p (ls.getD (j - 1).toNat default) := by
  have hil := h.ilt; have hjl := h.jlo; have hjh := h.jhi; have hl := h.len
  have key : ∀ k, k < ls.length → p (ls.getD k default) := fun k hk => by
    rw [← getd_at hk default]; exact hp _ (h.perm.mem_iff.1 (List.getElem_mem hk))
  exact ⟨key _ (by omega), key _ (by omega)⟩
end
end Go.Sx.St
