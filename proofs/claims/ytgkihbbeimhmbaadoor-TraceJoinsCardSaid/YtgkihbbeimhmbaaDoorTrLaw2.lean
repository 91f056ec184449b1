/- The text form of traces: what the loops keep. -/
import Derived.Test.YtgkihbbeimhmbaaDoorTrLaw
import Derived.Test.YtgkihbbeimhmbaaDoorGdLaw
import Derived.IntWalk
namespace Go.Sx.Trc
/-! ### runs -/
structure RI (l : List Int) (d : Int) (n : Nat) : Prop where
  pos : 1 ≤ n
  le : n ≤ l.length
  at_ : ∀ i (h : i < l.length), i < n → l[i] = l.getD 0 0 + (i : Int) * d
theorem RI.start {l : List Int} (h : l ≠ []) (d : Int) : RI l d 1 :=
  ⟨Nat.le_refl _, List.length_pos_iff.2 h, fun i hi h1 => by
    have : i = 0 := by omega
    subst this
    match l, h with
    | x :: r, _ => simp⟩
theorem getD_eq {l : List Int} {n : Nat} (h : n < l.length) : l.getD n default = l[n] := (getd_at h default).symm
theorem key_bd {l : List Int} (h : ∀ k ∈ l, Lru.okKey k = true) (n : Nat) : 0 ≤ l.getD n default ∧ l.getD n default ≤ 1048576 := by
  by_cases hn : n < l.length
  · rw [getD_eq hn]; exact okKey_iff.1 (h _ (List.getElem_mem hn))
  · rw [List.getD_eq_getElem?_getD, List.getElem?_eq_none (by omega)]
    show 0 ≤ (0 : Int) ∧ (0 : Int) ≤ 1048576
    omega
theorem RI.put {l : List Int} {d : Int} {n : Nat} (h : RI l d n) (hn : n < l.length) (e : l[n] = l.getD 0 0 + (n : Int) * d) : RI l d (n + 1) :=
  ⟨by omega, by omega, fun i hi h1 => by
    by_cases h2 : i < n
    · exact h.at_ i hi h2
    · have : i = n := by omega
      subst this; exact e⟩
theorem RI.prev {l : List Int} {d : Int} {n : Nat} (h : RI l d n) (hn : n < l.length) : l.getD ((n : Int) - 1).toNat default + d = l.getD 0 0 + (n : Int) * d := by
  have hp := h.pos
  have e : ((n : Int) - 1).toNat = n - 1 := by omega
  rw [e, getD_eq (by omega), h.at_ (n - 1) (by omega) (by omega)]
  have e2 : (n : Int) = ((n - 1 : Nat) : Int) + 1 := by omega
  rw [e2]; simp only [Int.add_mul, Int.one_mul]; omega
theorem RI.next {l : List Int} {d : Int} {n : Nat} (h : RI l d n) (hn : n < l.length) (e : l.getD n default = l.getD ((n : Int) - 1).toNat default + d) : RI l d (n + 1) :=
  h.put hn (by rw [← getD_eq hn, e, h.prev hn])
theorem RI.run {l : List Int} {d : Int} {n : Nat} (h : RI l d n) (hl : l ≠ []) (hs : ∀ hn : n < l.length, l[n] ≠ l.getD 0 0 + (n : Int) * d) : Trc.run d l = n := run_eq hl h.pos h.le h.at_ hs
theorem RI.done {l : List Int} {d : Int} {n : Nat} (h : RI l d n) (hl : l ≠ []) (hc : (l.length : Int) ≤ (n : Int) ∨ ¬ l.getD n default = l.getD ((n : Int) - 1).toNat default + d) : (n : Int) = (Trc.run d l : Int) := by
  rw [h.run hl (fun hn hq => by
    rcases hc with hc | hc
    · omega
    · exact hc (by rw [getD_eq hn, h.prev hn]; exact hq))]
theorem RI.next0 {l : List Int} {n : Nat} (h : RI l 0 n) (hn : n < l.length) (e : l.getD n default = l.getD 0 default) : RI l 0 (n + 1) :=
  h.put hn (by rw [← getD_eq hn, e]; show l.getD 0 default = l.getD 0 default + (n : Int) * 0; omega)
theorem RI.next1 {l : List Int} {n : Nat} (h : RI l 1 n) (hn : n < l.length) (e : l.getD n default = l.getD 0 default + (n : Int)) : RI l 1 (n + 1) :=
  h.put hn (by rw [← getD_eq hn, e]; show l.getD 0 default + (n : Int) = l.getD 0 default + (n : Int) * 1; omega)
theorem RI.done0 {l : List Int} {n : Nat} (h : RI l 0 n) (hl : l ≠ []) (hc : (l.length : Int) ≤ (n : Int) ∨ ¬ l.getD n default = l.getD 0 default) : Trc.run 0 l = n :=
  h.run hl (fun hn hq => by
    rcases hc with hc | hc
    · omega
    · refine hc ?_
      rw [getD_eq hn, hq]; show l.getD 0 default + (n : Int) * 0 = l.getD 0 default; omega)
theorem RI.done1 {l : List Int} {n : Nat} (h : RI l 1 n) (hl : l ≠ []) (hc : (l.length : Int) ≤ (n : Int) ∨ ¬ l.getD n default = l.getD 0 default + (n : Int)) : Trc.run 1 l = n :=
  h.run hl (fun hn hq => by
    rcases hc with hc | hc
    · omega
    · refine hc ?_
      rw [getD_eq hn, hq]; show l.getD 0 default + (n : Int) * 1 = l.getD 0 default + (n : Int); omega)
/-! ### a number -/
def trimT (s cs : ByteArray) : ByteArray := ofL (Go.Lib.trimS s.data.toList cs.data.toList)
theorem size_len (s : ByteArray) : s.size = s.data.toList.length := Go.Lib.size_eq s
theorem nil_eq {s : ByteArray} : s = ByteArray.mk #[] ↔ s.data.toList = [] := by
  constructor
  · intro h; rw [h]
  · intro h; rw [← data_ofL s, h]; rfl
theorem first_eq {s : ByteArray} : ((byteAt s 0).toNat : Int) = 48 ↔ s.data.toList.getD 0 0 = 48 := by
  have e : byteAt s 0 = s.data.toList.getD 0 0 := by conv => lhs; rw [← data_ofL s]
                                                     rw [byteAt_ofL]
  rw [e]
  constructor
  · intro h; exact UInt8.toNat_inj.1 (by have : (48 : UInt8).toNat = 48 := rfl; omega)
  · intro h; rw [h]; rfl
theorem trim_eq {s : ByteArray} : trimT s (ByteArray.mk #[48, 49, 50, 51, 52, 53, 54, 55, 56, 57]) = ByteArray.mk #[] ↔ s.data.toList.all isD = true := by
  rw [← trim_nil]
  exact eq_empty
theorem num_bad {s : ByteArray} (h : ((s = ByteArray.mk #[] ∨ 7 < (s.size : Int)) ∨ (1 < (s.size : Int) ∧ ((byteAt s 0).toNat : Int) = 48)) ∨ ¬ trimT s (ByteArray.mk #[48, 49, 50, 51, 52, 53, 54, 55, 56, 57]) = ByteArray.mk #[]) : -1 = num s := by
  symm
  unfold num numL
  rw [if_neg]
  rintro ⟨h1, h2, h3, h4⟩
  rw [size_len] at h
  rcases h with ((h | h) | h) | h
  · exact h1 (nil_eq.1 h)
  · omega
  · exact h3 ⟨by omega, first_eq.1 h.2⟩
  · exact h (trim_eq.2 h4)
theorem num_cond {s : ByteArray} (h : ((¬ s = ByteArray.mk #[] ∧ (s.size : Int) ≤ 7) ∧ ((s.size : Int) ≤ 1 ∨ ¬ ((byteAt s 0).toNat : Int) = 48)) ∧ trimT s (ByteArray.mk #[48, 49, 50, 51, 52, 53, 54, 55, 56, 57]) = ByteArray.mk #[]) : numOk s.data.toList := by
  obtain ⟨⟨⟨h1, h2⟩, h3⟩, h4⟩ := h
  rw [size_len] at h2 h3
  refine ⟨fun e => h1 (nil_eq.2 e), by omega, fun ⟨q1, q2⟩ => ?_, trim_eq.1 h4⟩
  rcases h3 with h3 | h3
  · omega
  · exact h3 (first_eq.2 q2)
/-! ### a piece -/
theorem pk_ge (w : ByteArray) : -1 ≤ pk w ∧ pk w ≤ 9999999 := by unfold pk; split <;> exact num_ge _
theorem pm_ge (w : ByteArray) : -1 ≤ pm w ∧ pm w ≤ 9999999 := by
  unfold pm; split
  · omega
  · exact num_ge _
theorem pk_cut {w : ByteArray} (h : 0 ≤ cutI w) : num (w.extract 0 (cutI w).toNat) = pk w ∧ num (w.extract ((cutI w + 1).toNat) w.size) = pm w := by
  unfold pk pm
  rw [if_neg (by omega), if_neg (by omega), show (cutI w + 1).toNat = (cutI w).toNat + 1 by omega]
  exact ⟨rfl, rfl⟩
def badForm (w : ByteArray) : Prop := (star w ∧ pm w < 2) ∨ (dash w ∧ pm w < pk w + 2)
instance (w : ByteArray) : Decidable (badForm w) := by unfold badForm; infer_instance
theorem byte_eq {b c : UInt8} {n : Int} (hn : (c.toNat : Int) = n) : (b.toNat : Int) = n ↔ b = c := by
  constructor
  · intro h; exact UInt8.toNat_inj.1 (by omega)
  · intro h; rw [h]; exact hn
theorem star_of {w : ByteArray} : (0 ≤ cutI w ∧ ((byteAt w (cutI w).toNat).toNat : Int) = 42) ↔ star w := by
  unfold star; rw [byte_eq (c := 42) (n := 42) rfl]
theorem dash_iff {w : ByteArray} : (0 ≤ cutI w ∧ ((byteAt w (cutI w).toNat).toNat : Int) = 45) ↔ dash w := by
  unfold dash; rw [byte_eq (c := 45) (n := 45) rfl]
theorem dash_of {w : ByteArray} (h : 0 ≤ cutI w ∧ ((byteAt w (cutI w).toNat).toNat : Int) = 45) : dash w := dash_iff.1 h
theorem dash_no {w : ByteArray} (h : cutI w < 0 ∨ ¬ ((byteAt w (cutI w).toNat).toNat : Int) = 45) : ¬ dash w := fun q => by
  have := dash_iff.2 q; omega
theorem bad_star {w : ByteArray} {key many : Int} (_ : key = pk w) (e2 : many = pm w) (h : (0 ≤ cutI w ∧ ((byteAt w (cutI w).toNat).toNat : Int) = 42) ∧ many < 2) : badForm w := .inl ⟨star_of.1 h.1, by omega⟩
theorem bad_rest {w : ByteArray} {key many : Int} (e1 : key = pk w) (e2 : many = pm w) (h : (cutI w < 0 ∨ ¬ ((byteAt w (cutI w).toNat).toNat : Int) = 42) ∨ 2 ≤ many) :
    ((decide (0 ≤ cutI w) && (((byteAt w (cutI w).toNat).toNat : Int) == 45)) && decide (many < key + 2)) = decide (badForm w) := by
  rw [Bool.eq_iff_iff]
  simp only [Bool.and_eq_true, decide_eq_true_eq, beq_iff_eq]
  unfold badForm
  rw [← star_of, ← dash_iff, e1, e2] at *
  constructor
  · intro q; exact .inr q
  · rintro (q | q)
    · exfalso; omega
    · exact q
theorem piece_bad {w : ByteArray} {e : Int} (he : pErr w = e) (hn : e ≠ 0) : (0 : Int) = pKey w ∧ (0 : Int) = pBy w ∧ (0 : Int) = pMany w ∧ e = pErr w := by
  unfold pKey pBy pMany
  rw [if_neg (by omega), if_neg (by omega), if_neg (by omega)]
  exact ⟨rfl, rfl, rfl, he.symm⟩
section
variable {w : ByteArray} {key many : Int} (e1 : key = pk w) (e2 : many = pm w)
include e1 e2
theorem piece_e1 (h : key < 0 ∨ many < 0) : (0 : Int) = pKey w ∧ (0 : Int) = pBy w ∧ (0 : Int) = pMany w ∧ (1 : Int) = pErr w :=
  piece_bad (by unfold pErr; rw [if_pos (by omega)]) (by decide)
theorem piece_e2 (h : 0 ≤ key ∧ 0 ≤ many) (hb : decide (badForm w) = true) : (0 : Int) = pKey w ∧ (0 : Int) = pBy w ∧ (0 : Int) = pMany w ∧ (1 : Int) = pErr w :=
  piece_bad (by unfold pErr; rw [if_neg (by omega), if_pos (show (star w ∧ pm w < 2) ∨ (dash w ∧ pm w < pk w + 2) from of_decide_eq_true hb)]) (by decide)
theorem err_last (h : 0 ≤ key ∧ 0 ≤ many) (hb : decide (badForm w) = false) : pErr w = if Lru.okKey (if dash w then pm w else pk w) then 0 else 3 := by
  unfold pErr; rw [if_neg (by omega), if_neg (show ¬ ((star w ∧ pm w < 2) ∨ (dash w ∧ pm w < pk w + 2)) from of_decide_eq_false hb)]
theorem piece_e3 (h : 0 ≤ key ∧ 0 ≤ many) (hb : decide (badForm w) = false) (hd : dash w) (hk : Lru.okKey many = false) : (0 : Int) = pKey w ∧ (0 : Int) = pBy w ∧ (0 : Int) = pMany w ∧ (3 : Int) = pErr w :=
  piece_bad (by rw [err_last e1 e2 h hb, if_pos hd, ← e2, hk]; rfl) (by decide)
theorem piece_e4 (h : 0 ≤ key ∧ 0 ≤ many) (hb : decide (badForm w) = false) (hd : ¬ dash w) (hk : Lru.okKey key = false) : (0 : Int) = pKey w ∧ (0 : Int) = pBy w ∧ (0 : Int) = pMany w ∧ (3 : Int) = pErr w :=
  piece_bad (by rw [err_last e1 e2 h hb, if_neg hd, ← e1, hk]; rfl) (by decide)
theorem piece_o1 (h : 0 ≤ key ∧ 0 ≤ many) (hb : decide (badForm w) = false) (hd : dash w) (hk : Lru.okKey many = true) : key = pKey w ∧ (1 : Int) = pBy w ∧ many - key + 1 = pMany w ∧ (0 : Int) = pErr w := by
  have e : pErr w = 0 := by rw [err_last e1 e2 h hb, if_pos hd, ← e2, hk]; rfl
  unfold pKey pBy pMany
  rw [if_pos e, if_pos ⟨e, hd⟩, if_pos e, if_pos hd, e1, e2]
  exact ⟨rfl, rfl, rfl, e.symm⟩
theorem piece_o2 (h : 0 ≤ key ∧ 0 ≤ many) (hb : decide (badForm w) = false) (hd : ¬ dash w) (hk : Lru.okKey key = true) : key = pKey w ∧ (0 : Int) = pBy w ∧ many = pMany w ∧ (0 : Int) = pErr w := by
  have e : pErr w = 0 := by rw [err_last e1 e2 h hb, if_neg hd, ← e1, hk]; rfl
  unfold pKey pBy pMany
  rw [if_pos e, if_neg (fun q => hd q.2), if_pos e, if_neg hd, e1, e2]
  exact ⟨rfl, rfl, rfl, e.symm⟩
end
/-! ### parsing -/
theorem wordsL_len : ∀ (l : List UInt8), ∀ w ∈ wordsL l, w.length ≤ l.length
  | [], w, h => by simp [wordsL] at h; subst h; simp
  | b :: l, w, h => by
    rw [wordsL] at h
    split at h
    · rcases List.mem_cons.1 h with e | e
      · subst e; simp
      · have := wordsL_len l w e; simp only [List.length_cons]; omega
    · cases hq : wordsL l with
      | nil => rw [hq] at h; simp at h; subst h; simp
      | cons v r =>
        rw [hq] at h
        rcases List.mem_cons.1 h with e | e
        · subst e; have := wordsL_len l v (by rw [hq]; simp); simp only [List.length_cons]; omega
        · have := wordsL_len l w (by rw [hq]; simp [e]); simp only [List.length_cons]; omega
theorem word_size (s : ByteArray) (k : Nat) : ((words s).getD k default).size ≤ s.size := by
  by_cases hk : k < (words s).length
  · rw [← getd_at hk default]
    obtain ⟨w, hw, e⟩ := List.mem_map.1 (List.getElem_mem hk)
    rw [← e, ofL_size, size_len]
    exact wordsL_len _ w hw
  · rw [List.getD_eq_getElem?_getD, List.getElem?_eq_none (by omega)]
    show ByteArray.empty.size ≤ _
    simp
structure PI (s : ByteArray) (out : List Int) (k : Nat) : Prop where
  le : k ≤ (words s).length
  eq : go ((words s).drop k) out = parse s
  len : out.length ≤ 200
theorem PI.start {s : ByteArray} (h1 : (s.size : Int) ≤ 2000) (h2 : ¬ s = ByteArray.mk #[]) : PI s [] 0 := ⟨Nat.zero_le _, (parse_pos h2 (by omega)).symm, by simp⟩
theorem PI.split {s : ByteArray} {out : List Int} {k : Nat} (h : PI s out k) (hk : k < (words s).length) : go ((words s).getD k default :: (words s).drop (k + 1)) out = parse s := by
  rw [← getd_at hk default, ← List.drop_eq_getElem_cons hk]; exact h.eq
theorem PI.bad {s : ByteArray} {out : List Int} {k : Nat} (h : PI s out k) (hk : k < (words s).length) (he : ¬ pErr ((words s).getD k default) = 0) : [] = (parse s).1 ∧ pErr ((words s).getD k default) = (parse s).2 := by
  rw [← h.split hk, go, if_pos he]; exact ⟨rfl, rfl⟩
theorem PI.many {s : ByteArray} {out : List Int} {k : Nat} (h : PI s out k) (hk : k < (words s).length) (he : pErr ((words s).getD k default) = 0) (hm : 200 < (out.length : Int) + pMany ((words s).getD k default)) : [] = (parse s).1 ∧ 2 = (parse s).2 := by
  rw [← h.split hk, go, if_neg (fun q => q he), if_pos hm]; exact ⟨rfl, rfl⟩
theorem PI.next {s : ByteArray} {out o2 : List Int} {k : Nat} (h : PI s out k) (hk : k < (words s).length) (he : pErr ((words s).getD k default) = 0) (hm : (out.length : Int) + pMany ((words s).getD k default) ≤ 200)
    (ho : o2 = out ++ steps (pKey ((words s).getD k default)) (pBy ((words s).getD k default)) (pMany ((words s).getD k default))) : PI s o2 (k + 1) := by
  refine ⟨by omega, ?_, ?_⟩
  · rw [← h.split hk, go_cons _ _ he (by omega), ho]
  · rw [ho, List.length_append, steps_len]
    have := (pErr_ok he).2.1
    omega
theorem PI.done {s : ByteArray} {out : List Int} {k : Nat} (h : PI s out k) (hk : (words s).length ≤ k) : out = (parse s).1 ∧ 0 = (parse s).2 := by
  have e := h.eq
  rw [List.drop_of_length_le hk] at e
  rw [← e]; exact ⟨rfl, rfl⟩
theorem parse_big {s : ByteArray} (h : 2000 < (s.size : Int)) : [] = (parse s).1 ∧ 2 = (parse s).2 := by unfold parse; rw [if_pos (by omega)]; exact ⟨rfl, rfl⟩
theorem parse_none {s : ByteArray} (h : s = ByteArray.mk #[]) : [] = (parse s).1 ∧ 0 = (parse s).2 := by
  unfold parse
  have : ¬ 2000 < s.size := by rw [h]; decide
  rw [if_neg this, if_pos (show s = ByteArray.empty from h)]; exact ⟨rfl, rfl⟩
/-- what a loop appends -/
structure AI (out : List Int) (key by_ many : Int) (o2 : List Int) (j : Nat) : Prop where
  le : (j : Int) ≤ max many 0
  eq : o2 = out ++ steps key by_ (j : Int)
theorem AI.start (out : List Int) (key by_ many : Int) : AI out key by_ many out 0 := ⟨by omega, by simp [steps]⟩
theorem steps_succ (key by_ : Int) (j : Nat) : steps key by_ ((j + 1 : Nat) : Int) = steps key by_ (j : Int) ++ [key + (j : Int) * by_] := by
  unfold steps
  rw [Int.toNat_natCast, Int.toNat_natCast, List.range_succ, List.map_append]; rfl
theorem AI.next {out o2 : List Int} {key by_ many : Int} {j : Nat} (h : AI out key by_ many o2 j) (hj : (j : Int) < many) : AI out key by_ many (o2 ++ [key + (j : Int) * by_]) (j + 1) :=
  ⟨by omega, by rw [h.eq, steps_succ, List.append_assoc]⟩
theorem AI.next1 {out o2 : List Int} {key many : Int} {j : Nat} (h : AI out key 1 many o2 j) (hj : (j : Int) < many) : AI out key 1 many (o2 ++ [key + (j : Int)]) (j + 1) := by
  have := h.next hj; rwa [Int.mul_one] at this
theorem AI.next0 {out o2 : List Int} {key many : Int} {j : Nat} (h : AI out key 0 many o2 j) (hj : (j : Int) < many) : AI out key 0 many (o2 ++ [key]) (j + 1) := by
  have := h.next hj; rwa [Int.mul_zero, Int.add_zero] at this
theorem AI.len {out o2 : List Int} {key by_ many : Int} {j : Nat} (h : AI out key by_ many o2 j) : o2.length = out.length + j := by
  rw [h.eq, List.length_append, steps_len]; omega
theorem AI.done {out o2 : List Int} {key by_ many : Int} {j : Nat} (h : AI out key by_ many o2 j) (h0 : 0 ≤ many) (hj : many ≤ (j : Int)) : o2 = out ++ steps key by_ many := by
  have : (j : Int) = many := by have := h.le; omega
  rw [h.eq, this]
theorem mul_by (w : ByteArray) (j : Nat) : 0 ≤ (j : Int) * pBy w ∧ (j : Int) * pBy w ≤ (j : Int) := by
  unfold pBy; split <;> omega
theorem pKey_bd (w : ByteArray) : 0 ≤ pKey w ∧ pKey w ≤ 9999999 ∧ 0 ≤ pMany w ∧ pMany w ≤ 10000000 := by
  by_cases h : pErr w = 0
  · obtain ⟨h1, h2, _, _⟩ := pErr_ok h
    have := pk_ge w; have := pm_ge w
    have hp := pErr_parts h
    refine ⟨h1, by unfold pKey; rw [if_pos h]; omega, by omega, ?_⟩
    unfold pMany; rw [if_pos h]; split <;> omega
  · unfold pKey pMany; rw [if_neg h, if_neg h]; omega
/-! ### the reference's reading -/
structure NI (s : ByteArray) (n : Int) (i : Nat) : Prop where
  le : i ≤ s.size
  i7 : i ≤ 7
  all : (s.data.toList.take i).all isD = true
  eq : n = (value (s.data.toList.take i) : Int)
theorem NI.start (s : ByteArray) : NI s 0 0 := ⟨Nat.zero_le _, by decide, rfl, rfl⟩
theorem NI.bd {s : ByteArray} {n : Int} {i : Nat} (h : NI s n i) : 0 ≤ n ∧ n ≤ 9999999 := by
  have h1 := value_lt h.all
  have h2 : 10 ^ (s.data.toList.take i).length ≤ 10 ^ 7 := Nat.pow_le_pow_right (by decide) (by rw [List.length_take]; have := h.i7; omega)
  have := h.eq; omega
theorem byte_get {s : ByteArray} {i : Nat} (h : i < s.size) : s.data.toList[i]'(by rw [← size_len]; exact h) = byteAt s i := by
  conv => rhs; rw [← data_ofL s]
  rw [byteAt_ofL, List.getD_eq_getElem?_getD, List.getElem?_eq_getElem (by rw [← size_len]; exact h)]; rfl
theorem NI.next {s : ByteArray} {n : Int} {i : Nat} (h : NI s n i) (hi : i < s.size) (h1 : 48 ≤ ((byteAt s i).toNat : Int)) (h2 : ((byteAt s i).toNat : Int) ≤ 57) (h6 : (i : Int) ≤ 6) : NI s (10 * n + (IntKind.i64.wrap (IntKind.u8.wrap (((byteAt s i).toNat : Int) - 48)))) (i + 1) := by
  have hl : i < s.data.toList.length := by rw [← size_len]; exact hi
  have e : s.data.toList.take (i + 1) = s.data.toList.take i ++ [byteAt s i] := by
    rw [← byte_get hi]; exact List.take_succ_eq_append_getElem hl
  have ew : IntKind.i64.wrap (IntKind.u8.wrap (((byteAt s i).toNat : Int) - 48)) = ((byteAt s i).toNat : Int) - 48 := by
    have a : IntKind.u8.wrap (((byteAt s i).toNat : Int) - 48) = ((byteAt s i).toNat : Int) - 48 := by
      rw [IntKind.wrap_u8]; omega
    rw [a]
    exact wrap_i64 (by omega)
  refine ⟨hi, by omega, ?_, ?_⟩
  · rw [e, List.all_append, h.all]; simp [isD]; omega
  · rw [e, value_snoc, ew, h.eq]; omega
end Go.Sx.Trc
