/- The text form of traces: what the loops keep. -/
import Derived.Test.YtgkihbbeimhmbaaDoorTrFM3
import Derived.Test.YtgkihbbeimhmbaaDoorGdLaw
import Derived.IntWalk
namespace Go.Sx.Trc
/-! ### runs -/
structure RI (l : List Int) (d : Int) (n : Nat) : Prop where
  pos : 1 ≤ n
  le : n ≤ l.length
  at_ : ∀ i (h : i < l.length), i < n → l[i] = l.getD 0 0 + (i : Int) * d
theorem RI.start {l : List Int} (h : l ≠ []) (d : Int) : RI l d 1 :=
  ⟨Nat.le_refl _, List.length_pos_iff.2 h, fun i hi h1 => by
    have : i = 0 := by omega
    subst this
    match l, h with
    | x :: r, _ => simp⟩
theorem getD_eq {l : List Int} {n : Nat} (h : n < l.length) : l.getD n default = l[n] := (getd_at h default).symm
theorem key_bd {l : List Int} (h : ∀ k ∈ l, Lru.okKey k = true) (n : Nat) : 0 ≤ l.getD n default ∧ l.getD n default ≤ 1048576 := by
  by_cases hn : n < l.length
  · rw [getD_eq hn]; exact okKey_iff.1 (h _ (List.getElem_mem hn))
  · rw [List.getD_eq_getElem?_getD, List.getElem?_eq_none (by omega)]
    show 0 ≤ (0 : Int) ∧ (0 : Int) ≤ 1048576
    omega
theorem RI.put {l : List Int} {d : Int} {n : Nat} (h : RI l d n) (hn : n < l.length) (e : l[n] = l.getD 0 0 + (n : Int) * d) : RI l d (n + 1) :=
  ⟨by omega, by omega, fun i hi h1 => by
    by_cases h2 : i < n
    · exact h.at_ i hi h2
    · have : i = n := by omega
      subst this; exact e⟩
theorem RI.prev {l : List Int} {d : Int} {n : Nat} (h : RI l d n) (hn : n < l.length) : l.getD ((n : Int) - 1).toNat default + d = l.getD 0 0 + (n : Int) * d := by
  have hp := h.pos
  have e : ((n : Int) - 1).toNat = n - 1 := by omega
  rw [e, getD_eq (by omega), h.at_ (n - 1) (by omega) (by omega)]
  have e2 : (n : Int) = ((n - 1 : Nat) : Int) + 1 := by omega
  rw [e2]; simp only [Int.add_mul, Int.one_mul]; omega
theorem RI.next {l : List Int} {d : Int} {n : Nat} (h : RI l d n) (hn : n < l.length) (e : l.getD n default = l.getD ((n : Int) - 1).toNat default + d) : RI l d (n + 1) :=
  h.put hn (by rw [← getD_eq hn, e, h.prev hn])
theorem RI.run {l : List Int} {d : Int} {n : Nat} (h : RI l d n) (hl : l ≠ []) (hs : ∀ hn : n < l.length, l[n] ≠ l.getD 0 0 + (n : Int) * d) : Trc.run d l = n := run_eq hl h.pos h.le h.at_ hs
theorem RI.done {l : List Int} {d : Int} {n : Nat} (h : RI l d n) (hl : l ≠ []) (hc : (l.length : Int) ≤ (n : Int) ∨ ¬ l.getD n default = l.getD ((n : Int) - 1).toNat default + d) : (n : Int) = (Trc.run d l : Int) := by
  rw [h.run hl (fun hn hq => by
    rcases hc with hc | hc
    · omega
    · exact hc (by rw [getD_eq hn, h.prev hn]; exact hq))]
theorem RI.next0 {l : List Int} {n : Nat} (h : RI l 0 n) (hn : n < l.length) (e : l.getD n default = l.getD 0 default) : RI l 0 (n + 1) :=
  h.put hn (by rw [← getD_eq hn, e]; show l.getD 0 default = l.getD 0 default + (n : Int) * 0; omega)
theorem RI.next1 {l : List Int} {n : Nat} (h : RI l 1 n) (hn : n < l.length) (e : l.getD n default = l.getD 0 default + (n : Int)) : RI l 1 (n + 1) :=
  h.put hn (by rw [← getD_eq hn, e]; show l.getD 0 default + (n : Int) = l.getD 0 default + (n : Int) * 1; omega)
theorem RI.done0 {l : List Int} {n : Nat} (h : RI l 0 n) (hl : l ≠ []) (hc : (l.length : Int) ≤ (n : Int) ∨ ¬ l.getD n default = l.getD 0 default) : Trc.run 0 l = n :=
  h.run hl (fun hn hq => by
    rcases hc with hc | hc
    · omega
    · refine hc ?_
      rw [getD_eq hn, hq]; show l.getD 0 default + (n : Int) * 0 = l.getD 0 default; omega)
theorem RI.done1 {l : List Int} {n : Nat} (h : RI l 1 n) (hl : l ≠ []) (hc : (l.length : Int) ≤ (n : Int) ∨ ¬ l.getD n default = l.getD 0 default + (n : Int)) : Trc.run 1 l = n :=
  h.run hl (fun hn hq => by
    rcases hc with hc | hc
    · omega
    · refine hc ?_
      rw [getD_eq hn, hq]; show l.getD 0 default + (n : Int) * 1 = l.getD 0 default + (n : Int); omega)
/-! ### a number -/
def trimT (s cs : ByteArray) : ByteArray := ofL (Go.Lib.trimS s.data.toList cs.data.toList)
theorem size_len (s : ByteArray) : s.size = s.data.toList.length := Go.Lib.size_eq s
theorem nil_eq {s : ByteArray} : s = ByteArray.mk #[] ↔ s.data.toList = [] := by
  constructor
  · intro h; rw [h]
  · intro h; rw [← data_ofL s, h]; rfl
theorem first_eq {s : ByteArray} : ((byteAt s 0).toNat : Int) = 48 ↔ s.data.toList.getD 0 0 = 48 := by
  have e : byteAt s 0 = s.data.toList.getD 0 0 := by conv => lhs; rw [← data_ofL s]
                                                     rw [byteAt_ofL]
  rw [e]
  constructor
  · intro h; exact UInt8.toNat_inj.1 (by have : (48 : UInt8).toNat = 48 := rfl; omega)
  · intro h; rw [h]; rfl
theorem trim_eq {s : ByteArray} : trimT s (ByteArray.mk #[48, 49, 50, 51, 52, 53, 54, 55, 56, 57]) = ByteArray.mk #[] ↔ s.data.toList.all isD = true := by
  rw [← trim_nil]
  exact eq_empty
theorem num_bad {s : ByteArray} (h : ((s = ByteArray.mk #[] ∨ 7 < (s.size : Int)) ∨ (1 < (s.size : Int) ∧ ((byteAt s 0).toNat : Int) = 48)) ∨ ¬ trimT s (ByteArray.mk #[48, 49, 50, 51, 52, 53, 54, 55, 56, 57]) = ByteArray.mk #[]) : -1 = num s := by
  symm
  unfold num numL
  rw [if_neg]
  rintro ⟨h1, h2, h3, h4⟩
  rw [size_len] at h
  rcases h with ((h | h) | h) | h
  · exact h1 (nil_eq.1 h)
  · omega
  · exact h3 ⟨by omega, first_eq.1 h.2⟩
  · exact h (trim_eq.2 h4)
theorem num_cond {s : ByteArray} (h : ((¬ s = ByteArray.mk #[] ∧ (s.size : Int) ≤ 7) ∧ ((s.size : Int) ≤ 1 ∨ ¬ ((byteAt s 0).toNat : Int) = 48)) ∧ trimT s (ByteArray.mk #[48, 49, 50, 51, 52, 53, 54, 55, 56, 57]) = ByteArray.mk #[]) : numOk s.data.toList := by
  obtain ⟨⟨⟨h1, h2⟩, h3⟩, h4⟩ := h
  rw [size_len] at h2 h3
  refine ⟨fun e => h1 (nil_eq.2 e), by omega, fun ⟨q1, q2⟩ => ?_, trim_eq.1 h4⟩
  rcases h3 with h3 | h3
  · omega
  · exact h3 (first_eq.2 q2)
/-! ### a piece -/
theorem pk_ge (w : ByteArray) : -1 ≤ pk w ∧ pk w ≤ 9999999 := by unfold pk; split <;> exact num_ge _
theorem pm_ge (w : ByteArray) : -1 ≤ pm w ∧ pm w ≤ 9999999 := by
  unfold pm; split
  · omega
  · exact num_ge _
theorem pk_cut {w : ByteArray} (h : 0 ≤ cutI w) : num (w.extract 0 (cutI w).toNat) = pk w ∧ num (w.extract ((cutI w + 1).toNat) w.size) = pm w := by
  unfold pk pm
  rw [if_neg (by omega), if_neg (by omega), show (cutI w + 1).toNat = (cutI w).toNat + 1 by omega]
  exact ⟨rfl, rfl⟩
def badForm (w : ByteArray) : Prop := (star w ∧ pm w < 2) ∨ (dash w ∧ pm w < pk w + 2)
instance (w : ByteArray) : Decidable (badForm w) := by unfold badForm; infer_instance
theorem byte_eq {b c : UInt8} {n : Int} (hn : (c.toNat : Int) = n) : (b.toNat : Int) = n ↔ b = c := by
  constructor
  · intro h; exact UInt8.toNat_inj.1 (by omega)
  · intro h; rw [h]; exact hn
theorem star_of {w : ByteArray} : (0 ≤ cutI w ∧ ((byteAt w (cutI w).toNat).toNat : Int) = 42) ↔ star w := by
  unfold star; rw [byte_eq (c := 42) (n := 42) rfl]
theorem dash_iff {w : ByteArray} : (0 ≤ cutI w ∧ ((byteAt w (cutI w).toNat).toNat : Int) = 45) ↔ dash w := by
  unfold dash; rw [byte_eq (c := 45) (n := 45) rfl]
theorem dash_of {w : ByteArray} (h : 0 ≤ cutI w ∧ ((byteAt w (cutI w).toNat).toNat : Int) = 45) : dash w := dash_iff.1 h
theorem dash_no {w : ByteArray} (h : cutI w < 0 ∨ ¬ ((byteAt w (cutI w).toNat).toNat : Int) = 45) : ¬ dash w := fun q => by
  have := dash_iff.2 q; omega
theorem bad_star {w : ByteArray} {key many : Int} (_ : key = pk w) (e2 : many = pm w) (h : (0 ≤ cutI w ∧ ((byteAt w (cutI w).toNat).toNat : Int) = 42) ∧ many < 2) : badForm w := .inl ⟨star_of.1 h.1, by omega⟩
theorem bad_rest {w : ByteArray} {key many : Int} (e1 : key = pk w) (e2 : many = pm w) (h : (cutI w < 0 ∨ ¬ ((byteAt w (cutI w).toNat).toNat : Int) = 42) ∨ 2 ≤ many) :
    ((decide (0 ≤ cutI w) && (((byteAt w (cutI w).toNat).toNat : Int) == 45)) && decide (many < key + 2)) = decide (badForm w) := by
  rw [Bool.eq_iff_iff]
  simp only [Bool.and_eq_true, decide_eq_true_eq, beq_iff_eq]
  unfold badForm
  rw [← star_of, ← dash_iff, e1, e2] at *
  constructor
  · intro q; exact .inr q
  · rintro (q | q)
    · exfalso; omega
    · exact q
theorem piece_bad {w : ByteArray} {e : Int} (he : pErr w = e) (hn : e ≠ 0) : (0 : Int) = pKey w ∧ (0 : Int) = pBy w ∧ (0 : Int) = pMany w ∧ e = pErr w := by
  unfold pKey pBy pMany
  rw [if_neg (by omega), if_neg (by omega), if_neg (by omega)]
  exact ⟨rfl, rfl, rfl, he.symm⟩
section
variable {w : ByteArray} {key many : Int} (e1 : key = pk w) (e2 : many = pm w)
include e1 e2
theorem piece_e1 (h : key < 0 ∨ many < 0) : (0 : Int) = pKey w ∧ (0 : Int) = pBy w ∧ (0 : Int) = pMany w ∧ (1 : Int) = pErr w :=
  piece_bad (by unfold pErr; rw [if_pos (by omega)]) (by decide)
theorem piece_e2 (h : 0 ≤ key ∧ 0 ≤ many) (hb : decide (badForm w) = true) : (0 : Int) = pKey w ∧ (0 : Int) = pBy w ∧ (0 : Int) = pMany w ∧ (1 : Int) = pErr w :=
  piece_bad (by unfold pErr; rw [if_neg (by omega), if_pos (show (star w ∧ pm w < 2) ∨ (dash w ∧ pm w < pk w + 2) from of_decide_eq_true hb)]) (by decide)
theorem err_last (h : 0 ≤ key ∧ 0 ≤ many) (hb : decide (badForm w) = false) : pErr w = if Lru.okKey (if dash w then pm w else pk w) then 0 else 3 := by
  unfold pErr; rw [if_neg (by omega), if_neg (show ¬ ((star w ∧ pm w < 2) ∨ (dash w ∧ pm w < pk w + 2)) from of_decide_eq_false hb)]
theorem piece_e3 (h : 0 ≤ key ∧ 0 ≤ many) (hb : decide (badForm w) = false) (hd : dash w) (hk : Lru.okKey many = false) : (0 : Int) = pKey w ∧ (0 : Int) = pBy w ∧ (0 : Int) = pMany w ∧ (3 : Int) = pErr w :=
  piece_bad (by rw [err_last e1 e2 h hb, if_pos hd, ← e2, hk]; rfl) (by decide)
theorem piece_e4 (h : 0 ≤ key ∧ 0 ≤ many) (hb : decide (badForm w) = false) (hd : ¬ dash w) (hk : Lru.okKey key = false) : (0 : Int) = pKey w ∧ (0 : Int) = pBy w ∧ (0 : Int) = pMany w ∧ (3 : Int) = pErr w :=
  piece_bad (by rw [err_last e1 e2 h hb, if_neg hd, ← e1, hk]; rfl) (by decide)
theorem piece_o1 (h : 0 ≤ key ∧ 0 ≤ many) (hb : decide (badForm w) = false) (hd : dash w) (hk : Lru.okKey many = true) : key = pKey w ∧ (1 : Int) = pBy w ∧ many - key + 1 = pMany w ∧ (0 : Int) = pErr w := by
  have e : pErr w = 0 := by rw [err_last e1 e2 h hb, if_pos hd, ← e2, hk]; rfl
  unfold pKey pBy pMany
  rw [if_pos e, if_pos ⟨e, hd⟩, if_pos e, if_pos hd, e1, e2]
  exact ⟨rfl, rfl, rfl, e.symm⟩
theorem piece_o2 (h : 0 ≤ key ∧ 0 ≤ many) (hb : decide (badForm w) = false) (hd : ¬ dash w) (hk : Lru.okKey key = true) : key = pKey w ∧ (0 : Int) = pBy w ∧ many = pMany w ∧ (0 : Int) = pErr w := by
  have e : pErr w = 0 := by rw [err_last e1 e2 h hb, if_neg hd, ← e1, hk]; rfl
  unfold pKey pBy pMany
  rw [if_pos e, if_neg (fun q => hd q.2), if_pos e, if_neg hd, e1, e2]
  exact ⟨rfl, rfl, rfl, e.symm⟩
end
/-! ### parsing -/
theorem wordsL_len : ∀ (l : List UInt8), ∀ w ∈ wordsL l, w.length ≤ l.length
  | [], w, h => by simp [wordsL] at h; subst h; simp
  | b :: l, w, h => by
    rw [wordsL] at h
    split at h
    · rcases List.mem_cons.1 h with e | e
      · subst e; simp
      · have := wordsL_len l w e; simp only [List.length_cons]; omega
    · cases hq : wordsL l with
      | nil => rw [hq] at h; simp at h; subst h; simp
      | cons v r =>
        rw [hq] at h
        rcases List.mem_cons.1 h with e | e
        · subst e; have := wordsL_len l v (by rw [hq]; simp); simp only [List.length_cons]; omega
        · have := wordsL_len l w (by rw [hq]; simp [e]); simp only [List.length_cons]; omega
theorem word_size (s : ByteArray) (k : Nat) : ((words s).getD k default).size ≤ s.size := by
  by_cases hk : k < (words s).length
  · rw [← getd_at hk default]
    obtain ⟨w, hw, e⟩ := List.mem_map.1 (List.getElem_mem hk)
    rw [← e, ofL_size, size_len]
    exact wordsL_len _ w hw
  · rw [List.getD_eq_getElem?_getD, List.getElem?_eq_none (by omega)]
    show ByteArray.empty.size ≤ _
    simp
structure PI (s : ByteArray) (out : List Int) (k : Nat) : Prop where
  le : k ≤ (words s).length
  eq : go ((words s).drop k) out = parse s
  len : out.length ≤ 200
theorem PI.start {s : ByteArray} (h1 : (s.size : Int) ≤ 2000) (h2 : ¬ s = ByteArray.mk #[]) : PI s [] 0 := ⟨Nat.zero_le _, (parse_pos h2 (by omega)).symm, by simp⟩
theorem PI.split {s : ByteArray} {out : List Int} {k : Nat} (h : PI s out k) (hk : k < (words s).length) : go ((words s).getD k default :: (words s).drop (k + 1)) out = parse s := by
  rw [← getd_at hk default, ← List.drop_eq_getElem_cons hk]; exact h.eq
theorem PI.bad {s : ByteArray} {out : List Int} {k : Nat} (h : PI s out k) (hk : k < (words s).length) (he : ¬ pErr ((words s).getD k default) = 0) : [] = (parse s).1 ∧ pErr ((words s).getD k default) = (parse s).2 := by
  rw [← h.split hk, go, if_pos he]; exact ⟨rfl, rfl⟩
theorem PI.many {s : ByteArray} {out : List Int} {k : Nat} (h : PI s out k) (hk : k < (words s).length) (he : pErr ((words s).getD k default) = 0) (hm : 200 < (out.length : Int) + pMany ((words s).getD k default)) : [] = (parse s).1 ∧ 2 = (parse s).2 := by
  rw [← h.split hk, go, if_neg (fun q => q he), if_pos hm]; exact ⟨rfl, rfl⟩
theorem PI.next {s : ByteArray} {out o2 : List Int} {k : Nat} (h : PI s out k) (hk : k < (words s).length) (he : pErr ((words s).getD k default) = 0) (hm : (out.length : Int) + pMany ((words s).getD k default) ≤ 200)
    (ho : o2 = out ++ steps (pKey ((words s).getD k default)) (pBy ((words s).getD k default)) (pMany ((words s).getD k default))) : PI s o2 (k + 1) := by
  refine ⟨by omega, ?_, ?_⟩
  · rw [← h.split hk, go_cons _ _ he (by omega), ho]
  · rw [ho, List.length_append, steps_len]
    have := (pErr_ok he).2.1
    omega
theorem PI.done {s : ByteArray} {out : List Int} {k : Nat} (h : PI s out k) (hk : (words s).length ≤ k) : out = (parse s).1 ∧ 0 = (parse s).2 := by
  have e := h.eq
  rw [List.drop_of_length_le hk] at e
  rw [← e]; exact ⟨rfl, rfl⟩
theorem parse_big {s : ByteArray} (h : 2000 < (s.size : Int)) : [] = (parse s).1 ∧ 2 = (parse s).2 := by unfold parse; rw [if_pos (by omega)]; exact ⟨rfl, rfl⟩
theorem parse_none {s : ByteArray} (h : s = ByteArray.mk #[]) : [] = (parse s).1 ∧ 0 = (parse s).2 := by
  unfold parse
  have : ¬ 2000 < s.size := by rw [h]; decide
  rw [if_neg this, if_pos (show s = ByteArray.empty from h)]; exact ⟨rfl, rfl⟩
/-- what a loop appends -/
structure AI (out : List Int) (key by_ many : Int) (o2 : List Int) (j : Nat) : Prop where
  le : (j : Int) ≤ max many 0
  eq : o2 = out ++ steps key by_ (j : Int)
theorem AI.start (out : List Int) (key by_ many : Int) : AI out key by_ many out 0 := ⟨by omega, by simp [steps]⟩
theorem steps_succ (key by_ : Int) (j : Nat) : steps key by_ ((j + 1 : Nat) : Int) = steps key by_ (j : Int) ++ [key + (j : Int) * by_] := by
  unfold steps
  rw [Int.toNat_natCast, Int.toNat_natCast, List.range_succ, List.map_append]; rfl
theorem AI.next {out o2 : List Int} {key by_ many : Int} {j : Nat} (h : AI out key by_ many o2 j) (hj : (j : Int) < many) : AI out key by_ many (o2 ++ [key + (j : Int) * by_]) (j + 1) :=
  ⟨by omega, by rw [h.eq, steps_succ, List.append_assoc]⟩
theorem AI.next1 {out o2 : List Int} {key many : Int} {j : Nat} (h : AI out key 1 many o2 j) (hj : (j : Int) < many) : AI out key 1 many (o2 ++ [key + (j : Int)]) (j + 1) := by
  have := h.next hj; rwa [Int.mul_one] at this
theorem AI.next0 {out o2 : List Int} {key many : Int} {j : Nat} (h : AI out key 0 many o2 j) (hj : (j : Int) < many) : AI out key 0 many (o2 ++ [key]) (j + 1) := by
  have := h.next hj; rwa [Int.mul_zero, Int.add_zero] at this
theorem AI.len {out o2 : List Int} {key by_ many : Int} {j : Nat} (h : AI out key by_ many o2 j) : o2.length = out.length + j := by
  rw [h.eq, List.length_append, steps_len]; omega
theorem AI.done {out o2 : List Int} {key by_ many : Int} {j : Nat} (h : AI out key by_ many o2 j) (h0 : 0 ≤ many) (hj : many ≤ (j : Int)) : o2 = out ++ steps key by_ many := by
  have : (j : Int) = many := by have := h.le; omega
  rw [h.eq, this]
theorem mul_by (w : ByteArray) (j : Nat) : 0 ≤ (j : Int) * pBy w ∧ (j : Int) * pBy w ≤ (j : Int) := by
  unfold pBy; split <;> omega
theorem pKey_bd (w : ByteArray) : 0 ≤ pKey w ∧ pKey w ≤ 9999999 ∧ 0 ≤ pMany w ∧ pMany w ≤ 10000000 := by
  by_cases h : pErr w = 0
  · obtain ⟨h1, h2, _, _⟩ := pErr_ok h
    have := pk_ge w; have := pm_ge w
    have hp := pErr_parts h
    refine ⟨h1, by unfold pKey; rw [if_pos h]; omega, by omega, ?_⟩
    unfold pMany; rw [if_pos h]; split <;> omega
  · unfold pKey pMany; rw [if_neg h, if_neg h]; omega
/-! ### the reference's reading -/
structure NI (s : ByteArray) (n : Int) (i : Nat) : Prop where
  le : i ≤ s.size
  i7 : i ≤ 7
  all : (s.data.toList.take i).all isD = true
  eq : n = (value (s.data.toList.take i) : Int)
theorem NI.start (s : ByteArray) : NI s 0 0 := ⟨Nat.zero_le _, by decide, rfl, rfl⟩
theorem NI.bd {s : ByteArray} {n : Int} {i : Nat} (h : NI s n i) : 0 ≤ n ∧ n ≤ 9999999 := by
  have h1 := value_lt h.all
  have h2 : 10 ^ (s.data.toList.take i).length ≤ 10 ^ 7 := Nat.pow_le_pow_right (by decide) (by rw [List.length_take]; have := h.i7; omega)
  have := h.eq; omega
theorem byte_get {s : ByteArray} {i : Nat} (h : i < s.size) : s.data.toList[i]'(by rw [← size_len]; exact h) = byteAt s i := by
  conv => rhs; rw [← data_ofL s]
  rw [byteAt_ofL, List.getD_eq_getElem?_getD, List.getElem?_eq_getElem (by rw [← size_len]; exact h)]; rfl
theorem NI.next {s : ByteArray} {n : Int} {i : Nat} (h : NI s n i) (hi : i < s.size) (h1 : 48 ≤ ((byteAt s i).toNat : Int)) (h2 : ((byteAt s i).toNat : Int) ≤ 57) (h6 : (i : Int) ≤ 6) : NI s (10 * n + (IntKind.i64.wrap (IntKind.u8.wrap (((byteAt s i).toNat : Int) - 48)))) (i + 1) := by
  have hl : i < s.data.toList.length := by rw [← size_len]; exact hi
  have e : s.data.toList.take (i + 1) = s.data.toList.take i ++ [byteAt s i] := by
    rw [← byte_get hi]; exact List.take_succ_eq_append_getElem hl
  have ew : IntKind.i64.wrap (IntKind.u8.wrap (((byteAt s i).toNat : Int) - 48)) = ((byteAt s i).toNat : Int) - 48 := by
    have a : IntKind.u8.wrap (((byteAt s i).toNat : Int) - 48) = ((byteAt s i).toNat : Int) - 48 := by
      rw [IntKind.wrap_u8]; omega
    rw [a]
    exact wrap_i64 (by omega)
  refine ⟨hi, by omega, ?_, ?_⟩
  · rw [e, List.all_append, h.all]; simp [isD]; omega
  · rw [e, value_snoc, ew, h.eq]; omega
end Go.Sx.Trc

/- The text form of traces: how the reference reads and writes. -/
namespace Go.Sx.Trc
theorem NI.bad {s : ByteArray} {n : Int} {i : Nat} (_ : NI s n i) (hi : i < s.size) (hb : ((byteAt s i).toNat : Int) < 48 ∨ 57 < ((byteAt s i).toNat : Int)) : -1 = num s := by
  symm; unfold num numL
  rw [if_neg]
  rintro ⟨_, _, _, h4⟩
  have hl : i < s.data.toList.length := by rw [← size_len]; exact hi
  have := List.all_eq_true.1 h4 _ (List.getElem_mem hl)
  rw [byte_get hi] at this
  simp [isD] at this; omega
theorem NI.long {s : ByteArray} {n : Int} {i : Nat} (_ : NI s n i) (hi : i < s.size) (h6 : 6 < (i : Int)) : -1 = num s := by
  symm; unfold num numL
  rw [if_neg]
  rintro ⟨_, h2, _, _⟩
  rw [size_len] at hi; omega
theorem NI.bad2 {s : ByteArray} (h : s = ByteArray.mk #[] ∨ (1 < (s.size : Int) ∧ ((byteAt s 0).toNat : Int) = 48)) : -1 = num s := by
  symm; unfold num numL
  rw [if_neg]
  rintro ⟨h1, _, h3, _⟩
  rw [size_len] at h
  rcases h with h | h
  · exact h1 (nil_eq.1 h)
  · exact h3 ⟨by omega, first_eq.1 h.2⟩
theorem NI.done {s : ByteArray} {n : Int} {i : Nat} (h : NI s n i) (hi : s.size ≤ i) (hc : ¬ s = ByteArray.mk #[] ∧ ((s.size : Int) ≤ 1 ∨ ¬ ((byteAt s 0).toNat : Int) = 48)) : n = num s := by
  have e : s.data.toList.take i = s.data.toList := List.take_of_length_le (by rw [← size_len]; exact hi)
  have h7 := h.i7; have ha := h.all; have hn := h.eq
  rw [e] at ha hn
  unfold num numL
  rw [if_pos]
  · exact hn
  · have hs := size_len s
    refine ⟨fun q => hc.1 (nil_eq.2 q), by omega, fun ⟨q1, q2⟩ => ?_, ha⟩
    rcases hc.2 with q | q
    · omega
    · exact q (first_eq.2 q2)
/-! ### digits -/
theorem decS_small {n : Int} (h0 : 0 ≤ n) (h : n < 10) : (ByteArray.mk #[48, 49, 50, 51, 52, 53, 54, 55, 56, 57]).extract n.toNat (n + 1).toNat = decS n := by
  have e : ∀ k : Fin 10, (ByteArray.mk #[48, 49, 50, 51, 52, 53, 54, 55, 56, 57]).extract k.val (k.val + 1) = ofL [UInt8.ofNat (48 + k.val)] := by decide +kernel
  unfold decS dec
  rw [dec_small (n := n.toNat) (by omega)]
  have := e ⟨n.toNat, by omega⟩
  rw [show (n + 1).toNat = n.toNat + 1 by omega]
  exact this
theorem tdiv10 {n : Int} (h : 0 ≤ n) : n.tdiv 10 = ((n.toNat / 10 : Nat) : Int) ∧ n.tmod 10 = ((n.toNat % 10 : Nat) : Int) := by
  obtain ⟨m, rfl⟩ : ∃ m : Nat, n = (m : Int) := ⟨n.toNat, by omega⟩
  rw [Int.toNat_natCast]
  exact ⟨Int.ofNat_tdiv m 10 ▸ rfl, rfl⟩
theorem decS_big {n : Int} (h0 : 0 ≤ n) (h : 10 ≤ n) : decS (n.tdiv 10) ++ decS (n.tmod 10) = decS n := by
  obtain ⟨e1, e2⟩ := tdiv10 h0
  unfold decS dec
  rw [e1, e2, Int.toNat_natCast, Int.toNat_natCast, ofL_append, dec_big (n := n.toNat) (by omega), dec_small (n := n.toNat % 10) (by omega)]
theorem decS_sz {n : Int} (h : n < 10000000) : (decS n).size ≤ 7 := by unfold decS; rw [ofL_size]; exact dec_len7 h
/-! ### the reference's text -/
theorem write_cons {l : List Int} (h : l ≠ []) : write l = if itemN l < l.length then itemL l ++ 32 :: write (l.drop (itemN l)) else itemL l := by
  unfold write
  rw [pieces_cons h]
  have hle := itemN_le h
  split
  · rename_i hn
    have hd : l.drop (itemN l) ≠ [] := fun e => by have := congrArg List.length e; rw [List.length_drop] at this; simp at this; omega
    rw [pieces_cons hd, join_two]
  · rename_i hn
    rw [List.drop_of_length_le (by omega), pieces_nil, Go.Lib.join_one]
theorem run0_one {l : List Int} (hl : l ≠ []) : 1 < run 0 l ↔ 1 < l.length ∧ l.getD 1 default = l.getD 0 default := by
  constructor
  · intro h
    have hle := run_le hl 0
    refine ⟨by omega, ?_⟩
    rw [getD_eq (by omega), run_get (d := 0) (by omega) h]
    show l.getD 0 default + ((1 : Nat) : Int) * 0 = l.getD 0 default; omega
  · rintro ⟨h1, h2⟩
    by_cases hq : 1 < run 0 l
    · exact hq
    · have hp := run_pos 0 l
      have e : run 0 l = 1 := by omega
      have := run_stop (d := 0) hl (by omega)
      simp only [e] at this
      exfalso; refine this ?_
      rw [← getD_eq h1, h2]; show l.getD 0 default = l.getD 0 default + ((1 : Nat) : Int) * 0; omega
theorem run1_two {l : List Int} (hl : l ≠ []) : 2 < run 1 l ↔ (2 < l.length ∧ l.getD 1 default = l.getD 0 default + 1) ∧ l.getD 2 default = l.getD 0 default + 2 := by
  constructor
  · intro h
    have hle := run_le hl 1
    refine ⟨⟨by omega, ?_⟩, ?_⟩
    · rw [getD_eq (by omega), run_get (d := 1) (by omega) (by omega)]; show l.getD 0 default + ((1 : Nat) : Int) * 1 = _; omega
    · rw [getD_eq (by omega), run_get (d := 1) (by omega) h]; show l.getD 0 default + ((2 : Nat) : Int) * 1 = _; omega
  · rintro ⟨⟨h1, h2⟩, h3⟩
    by_cases hq : 2 < run 1 l
    · exact hq
    · have hp := run_pos 1 l
      exfalso
      have hs := run_stop (d := 1) hl (by omega)
      rcases (show run 1 l = 1 ∨ run 1 l = 2 by omega) with e | e
      · simp only [e] at hs; refine hs ?_
        rw [← getD_eq (show 1 < l.length by omega), h2]; show _ = l.getD 0 default + ((1 : Nat) : Int) * 1; omega
      · simp only [e] at hs; refine hs ?_
        rw [← getD_eq h1, h3]; show _ = l.getD 0 default + ((2 : Nat) : Int) * 1; omega
theorem item_star_eq {l : List Int} (h : 1 < run 0 l) : itemN l = run 0 l ∧ itemL l = dec (l.getD 0 default) ++ 42 :: dec (run 0 l : Int) := by
  unfold itemN itemL; rw [if_pos h, if_pos h]; exact ⟨rfl, rfl⟩
theorem item_dash_eq {l : List Int} (h : ¬ 1 < run 0 l) (h2 : 2 < run 1 l) : itemN l = run 1 l ∧ itemL l = dec (l.getD 0 default) ++ 45 :: dec (l.getD 0 default + (run 1 l : Int) - 1) := by
  unfold itemN itemL; rw [if_neg h, if_neg h, if_pos h2, if_pos h2]; exact ⟨rfl, rfl⟩
theorem item_one_eq {l : List Int} (h : ¬ 1 < run 0 l) (h2 : ¬ 2 < run 1 l) : itemN l = 1 ∧ itemL l = dec (l.getD 0 default) := by
  unfold itemN itemL; rw [if_neg h, if_neg h, if_neg h2, if_neg h2]; exact ⟨rfl, rfl⟩
theorem sign_add (c : UInt8) (a b : List UInt8) : ofL a ++ ((ByteArray.mk #[c]) ++ ofL b) = ofL (a ++ c :: b) := by
  have : (ByteArray.mk #[c]) = ofL [c] := rfl
  rw [this, ofL_append, ofL_append]; simp
section
variable {l : List Int} {n : Nat} (hl : l ≠ [])
include hl
theorem w_star1 (h : 1 < (l.length : Int) ∧ l.getD 1 default = l.getD 0 default) (hr : run 0 l = n) (hn : (n : Int) < (l.length : Int)) :
    (decS (l.getD 0 default) ++ ((ByteArray.mk #[42]) ++ decS (n : Int))) ++ ((ByteArray.mk #[32]) ++ ofL (write (l.drop n))) = ofL (write l) := by
  have h1 : 1 < run 0 l := (run0_one hl).2 ⟨by omega, h.2⟩
  obtain ⟨e1, e2⟩ := item_star_eq h1
  rw [write_cons hl, e1, if_pos (by omega), e2, hr]
  unfold decS; rw [sign_add, sign_add]
theorem w_star0 (h : 1 < (l.length : Int) ∧ l.getD 1 default = l.getD 0 default) (hr : run 0 l = n) (hn : (l.length : Int) ≤ (n : Int)) :
    decS (l.getD 0 default) ++ ((ByteArray.mk #[42]) ++ decS (n : Int)) = ofL (write l) := by
  have h1 : 1 < run 0 l := (run0_one hl).2 ⟨by omega, h.2⟩
  obtain ⟨e1, e2⟩ := item_star_eq h1
  rw [write_cons hl, e1, if_neg (by omega), e2, hr]
  unfold decS; rw [sign_add]
theorem no_star (h : (l.length : Int) ≤ 1 ∨ ¬ l.getD 1 default = l.getD 0 default) : ¬ 1 < run 0 l := fun q => by
  have := (run0_one hl).1 q; omega
theorem w_dash1 (h0 : (l.length : Int) ≤ 1 ∨ ¬ l.getD 1 default = l.getD 0 default) (h : (2 < (l.length : Int) ∧ l.getD 1 default = l.getD 0 default + 1) ∧ l.getD 2 default = l.getD 0 default + 2) (hr : run 1 l = n) (hn : (n : Int) < (l.length : Int)) :
    (decS (l.getD 0 default) ++ ((ByteArray.mk #[45]) ++ decS (l.getD 0 default + (n : Int) - 1))) ++ ((ByteArray.mk #[32]) ++ ofL (write (l.drop n))) = ofL (write l) := by
  have h1 : 2 < run 1 l := (run1_two hl).2 ⟨⟨by omega, h.1.2⟩, h.2⟩
  obtain ⟨e1, e2⟩ := item_dash_eq (no_star hl h0) h1
  rw [write_cons hl, e1, if_pos (by omega), e2, hr]
  unfold decS; rw [sign_add, sign_add]
theorem w_dash0 (h0 : (l.length : Int) ≤ 1 ∨ ¬ l.getD 1 default = l.getD 0 default) (h : (2 < (l.length : Int) ∧ l.getD 1 default = l.getD 0 default + 1) ∧ l.getD 2 default = l.getD 0 default + 2) (hr : run 1 l = n) (hn : (l.length : Int) ≤ (n : Int)) :
    decS (l.getD 0 default) ++ ((ByteArray.mk #[45]) ++ decS (l.getD 0 default + (n : Int) - 1)) = ofL (write l) := by
  have h1 : 2 < run 1 l := (run1_two hl).2 ⟨⟨by omega, h.1.2⟩, h.2⟩
  obtain ⟨e1, e2⟩ := item_dash_eq (no_star hl h0) h1
  rw [write_cons hl, e1, if_neg (by omega), e2, hr]
  unfold decS; rw [sign_add]
theorem no_dash (h : ((l.length : Int) ≤ 2 ∨ ¬ l.getD 1 default = l.getD 0 default + 1) ∨ ¬ l.getD 2 default = l.getD 0 default + 2) : ¬ 2 < run 1 l := fun q => by
  have := (run1_two hl).1 q; omega
theorem w_one1 (h0 : (l.length : Int) ≤ 1 ∨ ¬ l.getD 1 default = l.getD 0 default) (h : ((l.length : Int) ≤ 2 ∨ ¬ l.getD 1 default = l.getD 0 default + 1) ∨ ¬ l.getD 2 default = l.getD 0 default + 2) (hn : 1 < (l.length : Int)) :
    decS (l.getD 0 default) ++ ((ByteArray.mk #[32]) ++ ofL (write (l.drop 1))) = ofL (write l) := by
  obtain ⟨e1, e2⟩ := item_one_eq (no_star hl h0) (no_dash hl h)
  rw [write_cons hl, e1, if_pos (by omega), e2]
  unfold decS; rw [sign_add]
theorem w_one0 (h0 : (l.length : Int) ≤ 1 ∨ ¬ l.getD 1 default = l.getD 0 default) (h : ((l.length : Int) ≤ 2 ∨ ¬ l.getD 1 default = l.getD 0 default + 1) ∨ ¬ l.getD 2 default = l.getD 0 default + 2) (hn : (l.length : Int) ≤ 1) :
    decS (l.getD 0 default) = ofL (write l) := by
  obtain ⟨e1, e2⟩ := item_one_eq (no_star hl h0) (no_dash hl h)
  rw [write_cons hl, e1, if_neg (by omega), e2]; rfl
end
theorem w_nil {l : List Int} (h : (l.length : Int) = 0) : ByteArray.mk #[] = ofL (write l) := by
  have : l = [] := List.eq_nil_of_length_eq_zero (by omega)
  subst this; rw [write_nil]; rfl
theorem len_ne {l : List Int} (h : ¬ (l.length : Int) = 0) : l ≠ [] := fun e => h (by rw [e]; rfl)
theorem write_sz {l : List Int} (h : Lru.trace l = 0) (n : Nat) : (ofL (write (l.drop n))).size ≤ 1600 := by
  obtain ⟨h1, h2⟩ := trace_ok.1 h
  have := write_len (l := l.drop n) (by rw [List.length_drop]; omega) (fun k hk => h2 k (List.mem_of_mem_drop hk))
  rw [ofL_size]; rw [List.length_drop] at this; omega
theorem trace_drop {l : List Int} (h : Lru.trace l = 0) (n : Nat) : Lru.trace (l.drop n) = 0 := by
  obtain ⟨h1, h2⟩ := trace_ok.1 h
  exact trace_ok.2 ⟨by rw [List.length_drop]; omega, fun k hk => h2 k (List.mem_of_mem_drop hk)⟩
end Go.Sx.Trc

/- The text form of traces: how the reference cuts a text. -/
namespace Go.Sx.Trc
structure KI (w : ByteArray) (cut k : Int) : Prop where
  lo : -1 ≤ k
  kc : k < cut
  hi : cut ≤ (w.size : Int)
  no : ∀ j : Nat, k < (j : Int) → (j : Int) < cut → sepB (byteAt w j) = false
  at_ : cut < (w.size : Int) → sepB (byteAt w cut.toNat) = true
theorem KI.start (w : ByteArray) : KI w (w.size : Int) ((w.size : Int) - 1) := ⟨by omega, by omega, by omega, fun j h1 h2 => by omega, fun h => by omega⟩
theorem sep_iff {b : UInt8} : sepB b = true ↔ (b.toNat : Int) = 42 ∨ (b.toNat : Int) = 45 := by
  unfold sepB
  rw [Bool.or_eq_true, beq_iff_eq, beq_iff_eq, byte_eq (c := 42) (n := 42) rfl, byte_eq (c := 45) (n := 45) rfl]
theorem KI.hit {w : ByteArray} {cut k : Int} (h : KI w cut k) (h0 : 0 ≤ k) (hb : ((byteAt w k.toNat).toNat : Int) = 42 ∨ ((byteAt w k.toNat).toNat : Int) = 45) : KI w k (k - 1) :=
  ⟨by omega, by omega, by have := h.kc; have := h.hi; omega, fun j h1 h2 => by omega, fun _ => sep_iff.2 hb⟩
theorem KI.miss {w : ByteArray} {cut k : Int} (h : KI w cut k) (h0 : 0 ≤ k) (hb : ¬ ((byteAt w k.toNat).toNat : Int) = 42 ∧ ¬ ((byteAt w k.toNat).toNat : Int) = 45) : KI w cut (k - 1) :=
  ⟨by omega, by have := h.kc; omega, h.hi, fun j h1 h2 => by
    by_cases hk : k < (j : Int)
    · exact h.no j hk h2
    · have e : j = k.toNat := by omega
      rw [e]
      cases hq : sepB (byteAt w k.toNat) with
      | false => rfl
      | true => have := sep_iff.1 hq; omega, h.at_⟩
structure RW (w : ByteArray) (cut : Int) : Prop where
  lo : 0 ≤ cut
  hi : cut ≤ (w.size : Int)
  eq : cutI w = if cut < (w.size : Int) then cut else -1
theorem KI.done {w : ByteArray} {cut k : Int} (h : KI w cut k) (hk : k < 0) : RW w cut := by
  have hlo := h.lo; have hkc := h.kc; have hhi := h.hi
  have hs := size_len w
  refine ⟨by omega, hhi, ?_⟩
  have hget : ∀ j (hj : j < w.data.toList.length), w.data.toList[j] = byteAt w j := fun j hj => byte_get (by rw [hs]; exact hj)
  split
  · rename_i hc
    have e : cut = ((cut.toNat : Nat) : Int) := by omega
    rw [e]
    refine (idxF_found (by omega) ?_ (fun j hj hlt => ?_)).symm
    · rw [hget]; exact h.at_ hc
    · rw [hget]; exact h.no j (by omega) (by omega)
  · rename_i hc
    exact (idxF_none fun j hj => by rw [hget]; exact h.no j (by omega) (by omega)).symm
section
variable {w : ByteArray} {cut b : Int} (h : RW w cut)
include h
theorem rw_pk : num (w.extract 0 cut.toNat) = pk w := by
  have he := h.eq
  unfold pk
  by_cases hc : cut < (w.size : Int)
  · rw [if_pos hc] at he
    rw [he, if_neg (by have := h.lo; omega)]
  · rw [if_neg hc] at he
    rw [he, if_pos (by decide)]
    have : cut.toNat = w.size := by have := h.hi; omega
    rw [this, ByteArray.extract_zero_size]
theorem rw_pm (hb : b = if cut < (w.size : Int) then num (w.extract (cut + 1).toNat w.size) else 0) : pm w = if cut < (w.size : Int) then b else 1 := by
  have he := h.eq
  unfold pm
  by_cases hc : cut < (w.size : Int)
  · rw [if_pos hc] at he hb ⊢
    rw [he, if_neg (by have := h.lo; omega), hb, show (cut + 1).toNat = cut.toNat + 1 by have := h.lo; omega]
  · rw [if_neg hc] at he ⊢
    rw [he, if_pos (by decide)]
theorem rw_star : star w ↔ cut < (w.size : Int) ∧ ((byteAt w cut.toNat).toNat : Int) = 42 := by
  have he := h.eq; have hlo := h.lo
  rw [← star_of]
  by_cases hc : cut < (w.size : Int)
  · rw [if_pos hc] at he; rw [he]; constructor
    · rintro ⟨_, q⟩; exact ⟨hc, q⟩
    · rintro ⟨_, q⟩; exact ⟨hlo, q⟩
  · rw [if_neg hc] at he; rw [he]; constructor
    · rintro ⟨q, _⟩; exact absurd q (by decide)
    · rintro ⟨q, _⟩; exact absurd q hc
theorem rw_dash : dash w ↔ cut < (w.size : Int) ∧ ((byteAt w cut.toNat).toNat : Int) = 45 := by
  have he := h.eq; have hlo := h.lo
  rw [← dash_iff]
  by_cases hc : cut < (w.size : Int)
  · rw [if_pos hc] at he; rw [he]; constructor
    · rintro ⟨_, q⟩; exact ⟨hc, q⟩
    · rintro ⟨_, q⟩; exact ⟨hlo, q⟩
  · rw [if_neg hc] at he; rw [he]; constructor
    · rintro ⟨q, _⟩; exact absurd q (by decide)
    · rintro ⟨q, _⟩; exact absurd q hc
variable (hb : b = if cut < (w.size : Int) then num (w.extract (cut + 1).toNat w.size) else 0)
include hb
theorem rw_form (hf : ((num (w.extract 0 cut.toNat) < 0 ∨ b < 0) ∨ (cut < (w.size : Int) ∧ ((byteAt w cut.toNat).toNat : Int) = 42) ∧ b < 2) ∨ (cut < (w.size : Int) ∧ ((byteAt w cut.toNat).toNat : Int) = 45) ∧ b < num (w.extract 0 cut.toNat) + 2) : pErr w = 1 := by
  rw [rw_pk h] at hf
  rw [← rw_star h, ← rw_dash h] at hf
  have hpm := rw_pm h hb
  unfold pErr
  by_cases h1 : pk w < 0 ∨ pm w < 0
  · rw [if_pos h1]
  · rw [if_neg h1, if_pos]
    have hcs : ∀ q : star w ∨ dash w, pm w = b := fun q => by
      rw [hpm, if_pos]
      rcases q with q | q
      · exact ((rw_star h).1 q).1
      · exact ((rw_dash h).1 q).1
    rcases hf with ((q | q) | q) | q
    · exact absurd (.inl q) h1
    · by_cases hc : cut < (w.size : Int)
      · rw [if_pos hc] at hpm; exfalso; omega
      · rw [if_neg hc] at hb; omega
    · exact .inl ⟨q.1, by rw [hcs (.inl q.1)]; exact q.2⟩
    · exact .inr ⟨q.1, by rw [hcs (.inr q.1)]; exact q.2⟩
variable (hf : ((0 ≤ num (w.extract 0 cut.toNat) ∧ 0 ≤ b) ∧ (((w.size : Int) ≤ cut ∨ ¬ ((byteAt w cut.toNat).toNat : Int) = 42) ∨ 2 ≤ b)) ∧ (((w.size : Int) ≤ cut ∨ ¬ ((byteAt w cut.toNat).toNat : Int) = 45) ∨ num (w.extract 0 cut.toNat) + 2 ≤ b))
include hf
theorem rw_err : pErr w = if Lru.okKey (if dash w then pm w else pk w) then 0 else 3 := by
  have hpm := rw_pm h hb
  have hs := rw_star h; have hd := rw_dash h
  rw [rw_pk h] at hf
  unfold pErr
  have hp : 0 ≤ pm w := by rw [hpm]; split <;> omega
  have hcs : ∀ q : star w ∨ dash w, pm w = b := fun q => by
    rw [hpm, if_pos]
    rcases q with q | q
    · exact (hs.1 q).1
    · exact (hd.1 q).1
  rw [if_neg (by omega), if_neg]
  rintro (⟨q1, q2⟩ | ⟨q1, q2⟩)
  · rw [hcs (.inl q1)] at q2; have := hs.1 q1; omega
  · rw [hcs (.inr q1)] at q2; have := hd.1 q1; omega
theorem rw_range (hr : 1048576 < num (w.extract 0 cut.toNat) ∨ (cut < (w.size : Int) ∧ ((byteAt w cut.toNat).toNat : Int) = 45) ∧ 1048576 < b) : pErr w = 3 := by
  have he := rw_err h hb hf
  have hpm := rw_pm h hb
  rw [rw_pk h] at hf hr
  rw [← rw_dash h] at hr
  have hd := rw_dash h
  rw [he]
  have : Lru.okKey (if dash w then pm w else pk w) = false := by
    cases hq : Lru.okKey (if dash w then pm w else pk w) with
    | false => rfl
    | true =>
      exfalso
      have hk := okKey_iff.1 hq
      by_cases q : dash w
      · rw [if_pos q, hpm, if_pos (hd.1 q).1] at hk
        have := hd.1 q
        rcases hr with r | r <;> omega
      · rw [if_neg q] at hk
        rcases hr with r | r
        · omega
        · exact q r.1
  rw [this]; rfl
variable (hr : num (w.extract 0 cut.toNat) ≤ 1048576 ∧ (((w.size : Int) ≤ cut ∨ ¬ ((byteAt w cut.toNat).toNat : Int) = 45) ∨ b ≤ 1048576))
include hr
theorem rw_ok : pErr w = 0 ∧ num (w.extract 0 cut.toNat) = pKey w := by
  have he := rw_err h hb hf
  have hpm := rw_pm h hb
  have hd := rw_dash h
  have hpk := rw_pk h
  rw [hpk] at hf hr
  have e0 : pErr w = 0 := by
    rw [he]
    have : Lru.okKey (if dash w then pm w else pk w) = true := by
      rw [okKey_iff]
      by_cases q : dash w
      · rw [if_pos q, hpm, if_pos (hd.1 q).1]
        have := hd.1 q; omega
      · rw [if_neg q]; omega
    rw [this]; rfl
  exact ⟨e0, by rw [hpk]; unfold pKey; rw [if_pos e0]⟩
theorem rw_many {m1 m2 : Int} (h1 : m1 = if (cut < (w.size : Int) ∧ ((byteAt w cut.toNat).toNat : Int) = 42) then b else 1) (h2 : m2 = if (cut < (w.size : Int) ∧ ((byteAt w cut.toNat).toNat : Int) = 45) then b - num (w.extract 0 cut.toNat) + 1 else m1) : m2 = pMany w := by
  obtain ⟨e0, e1⟩ := rw_ok h hb hf hr
  have hpm := rw_pm h hb
  have hs := rw_star h; have hd := rw_dash h
  unfold pMany
  rw [if_pos e0]
  by_cases q : dash w
  · rw [if_pos q, h2, if_pos (hd.1 q), rw_pk h, hpm, if_pos (hd.1 q).1]
  · rw [if_neg q, h2, if_neg (fun z => q (hd.2 z)), h1]
    by_cases q2 : star w
    · rw [if_pos (hs.1 q2), hpm, if_pos (hs.1 q2).1]
    · rw [if_neg (fun z => q2 (hs.2 z)), hpm]
      by_cases hc : cut < (w.size : Int)
      · exfalso
        have he := h.eq
        rw [if_pos hc] at he
        rcases cut_sign (w := w) (by rw [he]; exact h.lo) with z | z
        · exact q2 z
        · exact q z
      · rw [if_neg hc]
theorem rw_rise {out o2 : List Int} {m2 : Int} {j : Nat} (hI : AI out (pKey w) (pBy w) m2 o2 j) (hj : (j : Int) < m2) (hR : cut < (w.size : Int) ∧ ((byteAt w cut.toNat).toNat : Int) = 45) : AI out (pKey w) (pBy w) m2 (o2 ++ [num (w.extract 0 cut.toNat) + (j : Int)]) (j + 1) := by
  obtain ⟨e0, e1⟩ := rw_ok h hb hf hr
  have e : pBy w = 1 := by unfold pBy; rw [if_pos ⟨e0, (rw_dash h).2 hR⟩]
  rw [e] at hI ⊢; rw [e1]; exact hI.next1 hj
theorem rw_flat {out o2 : List Int} {m2 : Int} {j : Nat} (hI : AI out (pKey w) (pBy w) m2 o2 j) (hj : (j : Int) < m2) (hR : (w.size : Int) ≤ cut ∨ ¬ ((byteAt w cut.toNat).toNat : Int) = 45) : AI out (pKey w) (pBy w) m2 (o2 ++ [num (w.extract 0 cut.toNat)]) (j + 1) := by
  obtain ⟨e0, e1⟩ := rw_ok h hb hf hr
  have e : pBy w = 0 := by unfold pBy; rw [if_neg (fun q => by have := (rw_dash h).1 q.2; omega)]
  rw [e] at hI ⊢; rw [e1]; exact hI.next0 hj
end
/-! ### from word to word -/
structure LI (s : ByteArray) (out : List Int) (fr : Int) (i : Nat) : Prop where
  f0 : 0 ≤ fr
  fi : fr ≤ (i : Int)
  le : i ≤ s.size + 1
  last : i = s.size + 1 → fr = (i : Int)
  len : out.length ≤ 200
  no : ∀ j : Nat, fr ≤ (j : Int) → j < i → j < s.size → byteAt s j ≠ 32
  eq : (if fr ≤ (s.size : Int) then go (words (s.extract fr.toNat s.size)) out else (out, 0)) = parse s
theorem LI.start {s : ByteArray} (h1 : (s.size : Int) ≤ 2000) (h2 : ¬ s = ByteArray.mk #[]) : LI s [] 0 0 :=
  ⟨by decide, by decide, by omega, fun h => by omega, by simp, fun j _ h => by omega, by
    rw [if_pos (by omega), show ((0 : Int)).toNat = 0 from rfl, ByteArray.extract_zero_size]; exact (parse_pos h2 (by omega)).symm⟩
theorem LI.skip {s : ByteArray} {out : List Int} {fr : Int} {i : Nat} (h : LI s out fr i) (hc : (i : Int) < (s.size : Int) ∧ ¬ ((byteAt s i).toNat : Int) = 32) : LI s out fr (i + 1) :=
  ⟨h.f0, by have := h.fi; omega, by omega, fun e => by omega, h.len, fun j h1 h2 h3 => by
    by_cases hj : j < i
    · exact h.no j h1 hj h3
    · have : j = i := by omega
      subst this; exact fun e => hc.2 (by rw [e]; rfl), h.eq⟩
theorem ext_data (s : ByteArray) (a b : Nat) : (s.extract a b).data.toList = (s.data.toList.drop a).take (b - a) := Go.Lib.extract_data s a b
theorem LI.cut {s : ByteArray} {out : List Int} {fr : Int} {i : Nat} (h : LI s out fr i) (hi : (i : Int) ≤ (s.size : Int)) (hc : (s.size : Int) ≤ (i : Int) ∨ ((byteAt s i).toNat : Int) = 32) :
    go (s.extract fr.toNat i :: (if i < s.size then words (s.extract (i + 1) s.size) else [])) out = parse s := by
  have hf0 := h.f0; have hfi := h.fi; have hs := size_len s
  have he := h.eq
  rw [if_pos (by omega)] at he
  rw [← he]
  congr 1
  have hno : (32 : UInt8) ∉ (s.data.toList.drop fr.toNat).take (i - fr.toNat) := by
    intro hm
    obtain ⟨j, hj, e⟩ := List.mem_iff_getElem.1 hm
    rw [List.length_take, List.length_drop] at hj
    rw [List.getElem_take, List.getElem_drop, byte_get (by omega)] at e
    exact h.no (fr.toNat + j) (by omega) (by omega) (by omega) e
  by_cases hlt : i < s.size
  · rw [if_pos hlt]
    have hb : byteAt s i = 32 := by
      rcases hc with hc | hc
      · omega
      · exact (byte_eq (c := 32) (n := 32) rfl).1 hc
    have e : s.data.toList.drop fr.toNat = (s.data.toList.drop fr.toNat).take (i - fr.toNat) ++ 32 :: s.data.toList.drop (i + 1) := by
      conv => lhs; rw [← List.take_append_drop (i - fr.toNat) (s.data.toList.drop fr.toNat)]
      rw [List.drop_drop, show fr.toNat + (i - fr.toNat) = i by omega, show s.data.toList.drop i = 32 :: s.data.toList.drop (i + 1) by rw [List.drop_eq_getElem_cons (show i < s.data.toList.length by omega), byte_get hlt, hb]]
    unfold words
    rw [Go.Lib.extract_to_end, Go.Lib.extract_to_end]
    conv => rhs; rw [e]
    rw [wordsL_cut _ hno, List.map_cons, ← ext_data, data_ofL]
  · rw [if_neg hlt]
    have ei : i = s.size := by omega
    rw [ei] at hno ⊢
    unfold words
    rw [Go.Lib.extract_to_end, wordsL_plain (by rw [List.take_of_length_le (by rw [List.length_drop]; omega)] at hno; exact hno)]
    rw [List.map_cons, List.map_nil, ← Go.Lib.extract_to_end, data_ofL]
theorem LI.err {s : ByteArray} {out : List Int} {fr : Int} {i : Nat} (h : LI s out fr i) (hi : (i : Int) ≤ (s.size : Int)) (hc : (s.size : Int) ≤ (i : Int) ∨ ((byteAt s i).toNat : Int) = 32) {e : Int} (he : pErr (s.extract fr.toNat i) = e) (hn : e ≠ 0) : [] = (parse s).1 ∧ e = (parse s).2 := by
  rw [← h.cut hi hc, go, if_pos (by rw [he]; exact hn), he]; exact ⟨rfl, rfl⟩
theorem LI.many {s : ByteArray} {out : List Int} {fr : Int} {i : Nat} (h : LI s out fr i) (hi : (i : Int) ≤ (s.size : Int)) (hc : (s.size : Int) ≤ (i : Int) ∨ ((byteAt s i).toNat : Int) = 32) (he : pErr (s.extract fr.toNat i) = 0) {m2 : Int} (hm : m2 = pMany (s.extract fr.toNat i)) (h2 : 200 - (out.length : Int) < m2) : [] = (parse s).1 ∧ 2 = (parse s).2 := by
  rw [← h.cut hi hc, go, if_neg (fun q => q he), if_pos (by omega)]; exact ⟨rfl, rfl⟩
theorem LI.next {s : ByteArray} {out o2 : List Int} {fr : Int} {i j : Nat} (h : LI s out fr i) (hi : (i : Int) ≤ (s.size : Int)) (hc : (s.size : Int) ≤ (i : Int) ∨ ((byteAt s i).toNat : Int) = 32) (he : pErr (s.extract fr.toNat i) = 0) {m2 : Int} (hm : m2 = pMany (s.extract fr.toNat i)) (h2 : m2 ≤ 200 - (out.length : Int))
    (hA : AI out (pKey (s.extract fr.toNat i)) (pBy (s.extract fr.toNat i)) m2 o2 j) (hj : m2 ≤ (j : Int)) : LI s o2 ((i : Int) + 1) (i + 1) := by
  have hp := (pErr_ok he).2.1
  have ho := hA.done (by omega) hj
  have hcut := h.cut hi hc
  rw [go_cons _ _ he (by omega), ← hm, ← ho] at hcut
  have hl := hA.len
  have hle := hA.le
  refine ⟨by omega, by omega, by omega, fun _ => by omega, by omega, fun k h3 h4 => by omega, ?_⟩
  rw [← hcut]
  by_cases hlt : i < s.size
  · rw [if_pos (by omega), if_pos hlt, show ((i : Int) + 1).toNat = i + 1 by omega]
  · rw [if_neg (by omega), if_neg hlt]; rfl
theorem LI.done {s : ByteArray} {out : List Int} {fr : Int} {i : Nat} (h : LI s out fr i) (hi : (s.size : Int) < (i : Int)) : out = (parse s).1 ∧ 0 = (parse s).2 := by
  have := h.last (by have := h.le; omega)
  have he := h.eq
  rw [if_neg (by omega)] at he
  rw [← he]; exact ⟨rfl, rfl⟩
end Go.Sx.Trc
namespace Go.Sx.Trc
def joinB (l : List ByteArray) (sp : ByteArray) : ByteArray := ofL (Go.Lib.join (l.map (·.data.toList)) sp.data.toList)
theorem joinB_map (l : List (List UInt8)) : joinB (l.map ofL) (ByteArray.mk #[32]) = ofL (Go.Lib.join l [32]) := by
  unfold joinB
  rw [List.map_map]
  have : (l.map ((fun x : ByteArray => x.data.toList) ∘ ofL)) = l := List.map_id'' (fun x => rfl) _
  rw [this]
end Go.Sx.Trc

/- The text form of traces: bounds. -/
namespace Go.Sx.Trc
theorem ext_size (s : ByteArray) {fr : Int} {i : Nat} (h0 : 0 ≤ fr) (h1 : fr ≤ (i : Int)) (h2 : (i : Int) ≤ (s.size : Int)) : ((s.extract fr.toNat i).size : Int) = (i : Int) - fr := by
  rw [ByteArray.size_extract]; omega
theorem tdiv_bd {n : Int} (h : 0 ≤ n ∧ n ≤ 9999999) : 0 ≤ n.tdiv 10 ∧ n.tdiv 10 ≤ 9999999 := by rw [(tdiv10 h.1).1]; omega
theorem tmod_bd {n : Int} (h : 0 ≤ n ∧ n ≤ 9999999) : 0 ≤ n.tmod 10 ∧ n.tmod 10 ≤ 9999999 := by rw [(tdiv10 h.1).2]; omega
theorem tdiv_lt {n : Int} {k : Nat} (h : 0 ≤ n ∧ n ≤ 9999999) (h1 : 10 ≤ n) (hk : n.toNat = k) : (n.tdiv 10).toNat < k := by rw [(tdiv10 h.1).1, Int.toNat_natCast]; omega
theorem tmod_lt {n : Int} {k : Nat} (h : 0 ≤ n ∧ n ≤ 9999999) (h1 : 10 ≤ n) (hk : n.toNat = k) : (n.tmod 10).toNat < k := by rw [(tdiv10 h.1).2, Int.toNat_natCast]; omega
theorem dig_eq {x : Int} (h1 : 48 ≤ x) (h2 : x ≤ 57) : IntKind.i64.wrap (IntKind.u8.wrap (x - 48)) = x - 48 := by
  have a : IntKind.u8.wrap (x - 48) = x - 48 := by rw [IntKind.wrap_u8]; omega
  rw [a]; exact wrap_i64 (by omega)
theorem rise_bd {l : List Int} {n : Nat} (hl : l ≠ []) (hk : ∀ k ∈ l, Lru.okKey k = true) (hr : run 1 l = n) : 0 ≤ l.getD 0 default + (n : Int) - 1 ∧ l.getD 0 default + (n : Int) - 1 ≤ 1048576 := by
  have := okKey_iff.1 (rise_last hl hk)
  rw [hr] at this; exact this
theorem bad_true {w : ByteArray} {key many : Int} (e1 : key = pk w) (e2 : many = pm w) (h : (0 ≤ cutI w ∧ ((byteAt w (cutI w).toNat).toNat : Int) = 42) ∧ many < 2) :
    ((decide (0 ≤ cutI w) && (((byteAt w (cutI w).toNat).toNat : Int) == 42)) && decide (many < 2)) = decide (badForm w) := by
  rw [decide_eq_true (bad_star e1 e2 h), decide_eq_true h.1.1, decide_eq_true h.2, h.1.2]; rfl
end Go.Sx.Trc

/- The text form of traces: writing; what is reckoned at fixed inputs. -/
namespace Go.Sx
theorem Rd_drop {α : Type} {T : Ty α} {w : World} {a : Option Addr} {cap : Nat} {L : List α} {n : Nat} (h : Rd T w a cap L) (hn : n ≤ L.length) : Rd T w (sa a cap n T.k) (cap - n) (L.drop n) := by
  have := SlR.part h (l := n) (m := cap) (hi := L.length) hn (Nat.le_refl _) h.1 (Nat.le_refl _)
  exact (by simpa using this : SlR T (fun b => b < w.heap.size) w (sa a cap n T.k) (cap - n) (L.drop n))
namespace Trc
theorem fmt_bad {l : List Int} (h : ¬ Lru.trace l = 0) : ByteArray.mk #[] = format l := by unfold format; rw [if_neg h]; rfl
theorem len_pos {l : List Int} (h : 0 < (l.length : Int)) : l ≠ [] := fun e => by rw [e] at h; simp at h
structure FI (l l2 : List Int) (out : List ByteArray) : Prop where
  keys : ∀ k ∈ l2, Lru.okKey k = true
  len : l2.length ≤ 200
  eq : out ++ (pieces l2).map ofL = (pieces l).map ofL
  all : Lru.trace l = 0
theorem FI.start {l : List Int} (h : Lru.trace l = 0) : FI l l [] := ⟨(trace_ok.1 h).2, (trace_ok.1 h).1, rfl, h⟩
theorem FI.olen {l l2 : List Int} {out : List ByteArray} (h : FI l l2 out) : out.length ≤ 200 := by
  have h1 := congrArg List.length h.eq
  obtain ⟨t1, t2⟩ := trace_ok.1 h.all
  have h2 := (pieces_len _ l rfl t1 t2).2
  rw [List.length_append, List.length_map, List.length_map] at h1
  omega
theorem FI.next {l l2 : List Int} {out : List ByteArray} (h : FI l l2 out) (hne : l2 ≠ []) {p : ByteArray} {n : Nat} (hn : n = itemN l2) (hp : p = ofL (itemL l2)) : FI l (l2.drop n) (out ++ [p]) :=
  ⟨fun k hk => h.keys k (List.mem_of_mem_drop hk), by rw [List.length_drop]; have := h.len; omega, by
    rw [← h.eq, pieces_cons hne, hn, hp, List.append_assoc]; rfl, h.all⟩
theorem FI.star {l l2 : List Int} {out : List ByteArray} (h : FI l l2 out) (hne : l2 ≠ []) (hs : 1 < (run 0 l2 : Int)) :
    FI l (l2.drop (run 0 l2 : Int).toNat) (out ++ [decS (l2.getD 0 default) ++ ((ByteArray.mk #[42]) ++ decS (run 0 l2 : Int))]) := by
  obtain ⟨e1, e2⟩ := item_star_eq (l := l2) (by omega)
  refine h.next hne (by rw [e1]; omega) ?_
  rw [e2]; unfold decS; rw [sign_add]
theorem FI.dash {l l2 : List Int} {out : List ByteArray} (h : FI l l2 out) (hne : l2 ≠ []) (hs : (run 0 l2 : Int) ≤ 1) (hd : 2 < (run 1 l2 : Int)) :
    FI l (l2.drop (run 1 l2 : Int).toNat) (out ++ [decS (l2.getD 0 default) ++ ((ByteArray.mk #[45]) ++ decS (l2.getD ((run 1 l2 : Int) - 1).toNat default))]) := by
  obtain ⟨e1, e2⟩ := item_dash_eq (l := l2) (by omega) (by omega)
  refine h.next hne (by rw [e1]; omega) ?_
  have hle := run_le hne 1
  have e3 : l2.getD ((run 1 l2 : Int) - 1).toNat default = l2.getD 0 default + (run 1 l2 : Int) - 1 := by
    have e4 : ((run 1 l2 : Int) - 1).toNat = run 1 l2 - 1 := by omega
    rw [e4, getD_eq (by omega), run_get (d := 1) (by omega) (by omega)]
    show l2.getD 0 default + ((run 1 l2 - 1 : Nat) : Int) * 1 = _; omega
  rw [e2, e3]; unfold decS; rw [sign_add]
theorem FI.one {l l2 : List Int} {out : List ByteArray} (h : FI l l2 out) (hne : l2 ≠ []) (hs : (run 0 l2 : Int) ≤ 1) (hd : (run 1 l2 : Int) ≤ 2) : FI l (l2.drop 1) (out ++ [decS (l2.getD 0 default)]) := by
  obtain ⟨e1, e2⟩ := item_one_eq (l := l2) (by omega) (by omega)
  exact h.next hne e1.symm (by rw [e2]; rfl)
theorem join_append_le (a b : List (List UInt8)) : (Go.Lib.join a [32]).length ≤ ((a ++ b).map (fun p => p.length + 1)).sum := by
  have := join_len_le a
  rw [List.map_append, List.sum_append]; omega
theorem FI.out_eq {l l2 : List Int} {out : List ByteArray} (h : FI l l2 out) : out.map (fun x => x.data.toList) ++ pieces l2 = pieces l := by
  have := congrArg (List.map (fun x : ByteArray => x.data.toList)) h.eq
  rw [List.map_append, List.map_map, List.map_map] at this
  have e : ∀ q : List (List UInt8), q.map ((fun x : ByteArray => x.data.toList) ∘ ofL) = q := fun q => List.map_id'' (fun x => rfl) _
  rw [e, e] at this; exact this
theorem FI.size {l l2 : List Int} {out : List ByteArray} (h : FI l l2 out) : (joinB out (ByteArray.mk #[32])).size ≤ 140737488355328 := by
  obtain ⟨t1, t2⟩ := trace_ok.1 h.all
  have h2 := (pieces_len _ l rfl t1 t2).1
  rw [← h.out_eq] at h2
  have h3 := join_append_le (out.map (fun x => x.data.toList)) (pieces l2)
  unfold joinB; rw [ofL_size]
  show (Go.Lib.join (out.map (fun x => x.data.toList)) [32]).length ≤ _
  omega
theorem FI.done {l l2 : List Int} {out : List ByteArray} (h : FI l l2 out) (ht : Lru.trace l = 0) (h0 : (l2.length : Int) ≤ 0) : joinB out (ByteArray.mk #[32]) = format l := by
  have e : l2 = [] := List.eq_nil_of_length_eq_zero (by omega)
  have h1 := h.out_eq
  rw [e, pieces_nil, List.append_nil] at h1
  unfold format joinB write
  rw [if_pos ht, h1]
/-! ### reckoned -/
def decF : Nat → Nat → List UInt8
  | 0, n => [UInt8.ofNat (48 + n)]
  | f + 1, n => if n < 10 then [UInt8.ofNat (48 + n)] else decF f (n / 10) ++ [UInt8.ofNat (48 + n % 10)]
theorem decF_eq : ∀ (f n : Nat), n ≤ f → Go.Lib.decDigits n = decF f n
  | 0, n, h => dec_small (by omega)
  | f + 1, n, h => by
    rw [decF]; split
    · rename_i h1; exact dec_small h1
    · rename_i h1; rw [dec_big h1, decF_eq f (n / 10) (by omega)]
def decG (n : Int) : List UInt8 := decF n.toNat n.toNat
theorem dec_G (n : Int) : dec n = decG n := decF_eq _ _ (Nat.le_refl _)
def itemF (l : List Int) : List UInt8 := if 1 < run 0 l then decG (l.getD 0 0) ++ 42 :: decG (run 0 l) else if 2 < run 1 l then decG (l.getD 0 0) ++ 45 :: decG (l.getD 0 0 + (run 1 l : Int) - 1) else decG (l.getD 0 0)
theorem item_F (l : List Int) : itemL l = itemF l := by unfold itemL itemF; simp only [dec_G]
def piecesF : Nat → List Int → List (List UInt8)
  | 0, _ => []
  | f + 1, l => if l = [] then [] else itemF l :: piecesF f (l.drop (itemN l))
theorem pieces_F : ∀ (f : Nat) (l : List Int), l.length ≤ f → pieces l = piecesF f l
  | 0, l, h => by
    have e : l = [] := List.eq_nil_of_length_eq_zero (by omega)
    rw [e, pieces_nil]; rfl
  | f + 1, l, h => by
    rw [piecesF]; split
    · rename_i e; rw [e, pieces_nil]
    · rename_i e
      have := itemN_pos l; have := List.length_pos_iff.2 e
      rw [pieces_cons e, item_F, pieces_F f _ (by rw [List.length_drop]; omega)]
def formatF (l : List Int) : ByteArray := if Lru.trace l = 0 then ofL (Go.Lib.join (piecesF l.length l) [32]) else ByteArray.empty
theorem format_F (l : List Int) : format l = formatF l := by unfold format formatF write; rw [pieces_F l.length l (Nat.le_refl _)]
def compactF (s : ByteArray) : ByteArray := if (parse s).2 = 0 then formatF (parse s).1 else ByteArray.empty
theorem compact_F (s : ByteArray) : compact s = compactF s := by unfold compact compactF; rw [format_F]
end Trc
end Go.Sx

/- The text form of traces: what the laws ask. -/
namespace Go.Sx.Trc
theorem same_self (a : List Int) : Ref.sameInts a a = true := by simp [Ref.sameInts]
theorem fmt_ok {l : List Int} (h : Lru.trace l = 0) : format l = ofL (write l) := if_pos h
theorem rt1 {l : List Int} (h : ¬ Lru.trace l = 0) : decide (format l = ByteArray.mk #[]) = true := decide_eq_true (fmt_bad h).symm
theorem rt2 {l : List Int} (h : Lru.trace l = 0) : (((parse (format l)).2 == 0) && Ref.sameInts (parse (format l)).1 l) = true := by
  rw [fmt_ok h, round_trip h, same_self]; rfl
theorem tc1 {s : ByteArray} (h : ¬ (parse s).2 = 0) : decide (compact s = ByteArray.mk #[]) = true := decide_eq_true (by unfold compact; rw [if_neg h]; rfl)
theorem tc2 {s : ByteArray} (h : (parse s).2 = 0) : ((((((parse s).2 == 0) && ((parse (compact s)).2 == 0)) && Ref.sameInts (parse s).1 (parse (compact s)).1) && ((parse (compact s)).2 == 0)) && decide (compact (compact s) = compact s)) = true := by
  obtain ⟨h1, h2⟩ := compact_law h
  rw [h1, h2, h, same_self, decide_eq_true rfl]; rfl
theorem tj1 {s t : ByteArray} (h : (((parse s).2 = 0 ∧ (parse t).2 = 0) ∧ ¬ s = ByteArray.mk #[]) ∧ ¬ t = ByteArray.mk #[]) (hb : 200 < ((parse s).1.length : Int) + ((parse t).1.length : Int) ∨ 2000 ≤ (s.size : Int) + (t.size : Int)) :
    ((parse ((s ++ (ByteArray.mk #[32])) ++ t)).2 == 2) = true := by
  have := joins h.1.1.1 h.1.1.2 h.1.2 h.2
  rw [if_pos (by omega)] at this
  show ((parse (s ++ ofL [32] ++ t)).2 == 2) = true
  rw [this]; rfl
theorem tj2 {s t : ByteArray} (h : (((parse s).2 = 0 ∧ (parse t).2 = 0) ∧ ¬ s = ByteArray.mk #[]) ∧ ¬ t = ByteArray.mk #[]) (hb : ((parse s).1.length : Int) + ((parse t).1.length : Int) ≤ 200 ∧ (s.size : Int) + (t.size : Int) < 2000) :
    (((parse ((s ++ (ByteArray.mk #[32])) ++ t)).2 == 0) && Ref.sameInts (parse ((s ++ (ByteArray.mk #[32])) ++ t)).1 ((parse s).1 ++ (parse t).1)) = true := by
  have := joins h.1.1.1 h.1.1.2 h.1.2 h.2
  rw [if_neg (by omega)] at this
  show (((parse (s ++ ofL [32] ++ t)).2 == 0) && Ref.sameInts (parse (s ++ ofL [32] ++ t)).1 ((parse s).1 ++ (parse t).1)) = true
  rw [this, same_self]; rfl
theorem ts {l : List Int} {s a c : ByteArray} (ha : format l = a) (hc : compact s = c) : ((((((decide (format l = a) && (Lru.trace l == Lru.trace l)) && Ref.sameInts (parse s).1 (parse s).1) && ((parse s).2 == (parse s).2)) && decide (compact s = c)) && ((parse s).2 == (parse s).2))) = true := by
  rw [decide_eq_true ha, decide_eq_true hc, same_self]; simp
theorem cmp_ok {s : ByteArray} (h : (parse s).2 = 0) : compact s = ofL (write (parse s).1) := by unfold compact; rw [if_pos h, fmt_ok (parse_ok h)]
theorem cmp_bad {s : ByteArray} (h : ¬ (parse s).2 = 0) : compact s = ByteArray.mk #[] := by unfold compact; rw [if_neg h]; rfl
theorem parse_len {s : ByteArray} : (parse s).1.length ≤ 200 := by
  by_cases h : (parse s).2 = 0
  · exact (trace_ok.1 (parse_ok h)).1
  · rw [parse_bad h]; simp
end Go.Sx.Trc
