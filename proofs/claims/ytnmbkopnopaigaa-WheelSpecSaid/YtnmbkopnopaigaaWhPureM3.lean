/- Timing wheels: the plain functions. -/
import Derived.Test.YtnmbkopnopaigaaSx31M2
import Derived.Test.YtnmbkopnopaigaaExPureM3
import Derived.Test.YtnmbkopnopaigaaSx12M17
namespace Go.Sx
structure DTimer where
  id : Int
  due : Int
deriving DecidableEq, Inhabited
def tTimer : Ty DTimer := ⟨2, fun c => [.int .i64 c.id, .int .i64 c.due], fun _ => rfl⟩
structure DWheel where
  now : Int
  slots : List (List DTimer)
deriving DecidableEq
namespace Wh
def zero : DWheel := ⟨0, []⟩
def okTime (n : Int) : Bool := decide (0 ≤ n) && decide (n ≤ 262143)
/-- how many bits -/
def bl : Nat → Nat
  | 0 => 0
  | n + 1 => Nat.log2 (n + 1) + 1
def level (a n : Int) : Int := if a / 8 = n / 8 then 0 else if a / 64 = n / 64 then 1 else if a / 512 = n / 512 then 2 else if a / 4096 = n / 4096 then 3 else if a / 32768 = n / 32768 then 4 else 5
def pow8 (l : Int) : Int := if l ≤ 0 then 1 else if l = 1 then 8 else if l = 2 then 64 else if l = 3 then 512 else if l = 4 then 4096 else 32768
def place (a n : Int) : Int := 8 * level a n + a / pow8 (level a n) % 8
def order (a b : DTimer) : Int := if cmpI a.due b.due ≠ 0 then cmpI a.due b.due else cmpI a.id b.id
def ahead (a b : DTimer) : Bool := decide (a.due < b.due) || (decide (a.due = b.due) && decide (a.id < b.id))
def right (t : DTimer) (now : Int) : Bool := (((decide (0 ≤ t.id) && decide (t.id ≤ 1048576)) && okTime t.due) && decide (now < t.due))
/-- all timers, with their slots -/
def flatGo (i : Nat) : List (List DTimer) → List (Nat × DTimer)
  | [] => []
  | l :: r => l.map (fun t => (i, t)) ++ flatGo (i + 1) r
def flat (LL : List (List DTimer)) : List (Nat × DTimer) := flatGo 0 LL
def timers (LL : List (List DTimer)) : List DTimer := LL.flatten
def pre (LL : List (List DTimer)) (i : Nat) : Nat := ((LL.take i).flatten).length
def slotAt (LL : List (List DTimer)) (k : Nat) : Int := ((flat LL).getD k (0, default)).1
def timAt (LL : List (List DTimer)) (k : Nat) : DTimer := ((flat LL).getD k (0, default)).2
def low (t : DTimer) (l : List DTimer) : Nat := lowF (fun x => order x t) l
def insS (t : DTimer) (l : List DTimer) : List DTimer := l.take (low t l) ++ [t] ++ l.drop (low t l)
def put (w : DWheel) (t : DTimer) : DWheel := ⟨w.now, w.slots.set (place t.due w.now).toNat (insS t (w.slots.getD (place t.due w.now).toNat []))⟩
/-! ### numbers of places -/
theorem level_bd (a n : Int) : 0 ≤ level a n ∧ level a n ≤ 5 := by
  unfold level; split; omega; split; omega; split; omega; split; omega; split <;> omega
theorem place_bd (a n : Int) : 0 ≤ place a n ∧ place a n ≤ 47 := by
  have h := level_bd a n
  unfold place
  generalize level a n = l at *
  generalize a / pow8 l = z
  omega
theorem order_neg {a b : DTimer} : order a b < 0 ↔ ahead a b = true := by
  unfold order ahead cmpI
  simp only [Bool.or_eq_true, Bool.and_eq_true, decide_eq_true_eq]
  split <;> (split <;> (try split) <;> omega) 
theorem order_zero {a b : DTimer} : order a b = 0 ↔ a = b := by
  unfold order
  obtain ⟨i, d⟩ := a
  obtain ⟨j, e⟩ := b
  simp only [DTimer.mk.injEq]
  by_cases h : cmpI d e = 0
  · rw [if_neg (by simpa using h), cmpI_zero]
    have := cmpI_zero.1 h
    omega
  · rw [if_pos h]
    refine ⟨fun h2 => absurd h2 h, fun h2 => absurd (cmpI_zero.2 h2.2) h⟩
theorem flatGo_len (LL : List (List DTimer)) : ∀ i, (flatGo i LL).length = LL.flatten.length := by
  induction LL with
  | nil => intro i; rfl
  | cons l r ih => intro i; simp only [flatGo, List.length_append, List.length_map, List.flatten_cons, ih]
theorem flat_len (LL : List (List DTimer)) : (flat LL).length = (timers LL).length := flatGo_len LL 0
theorem flatGo_get {LL : List (List DTimer)} : ∀ {s i j : Nat} (hi : i < LL.length) (hj : j < (LL.getD i []).length), (flatGo s LL)[((LL.take i).flatten).length + j]? = some (s + i, (LL.getD i [])[j]) := by
  induction LL with
  | nil => intro s i j hi; exact absurd hi (Nat.not_lt_zero _)
  | cons l r ih =>
    intro s i j hi hj
    cases i with
    | zero =>
      simp only [List.getD_cons_zero] at hj
      simp only [flatGo, List.take_zero, List.flatten_nil, List.length_nil, Nat.zero_add, List.getD_cons_zero, Nat.add_zero]
      rw [List.getElem?_append_left (by simpa using hj)]
      simp [hj]
    | succ i =>
      simp only [List.getD_cons_succ] at hj
      have h1 := ih (s := s + 1) (i := i) (j := j) (by simpa using hi) hj
      simp only [flatGo, List.take_succ_cons, List.flatten_cons, List.length_append, List.getD_cons_succ]
      rw [List.getElem?_append_right (by simp; omega)]
      simp only [List.length_map]
      rw [show l.length + (List.take i r).flatten.length + j - l.length = (List.take i r).flatten.length + j by omega, h1, show s + 1 + i = s + (i + 1) by omega]
theorem at_pre {LL : List (List DTimer)} {i j : Nat} (hi : i < LL.length) (hj : j < (LL.getD i []).length) : slotAt LL (pre LL i + j) = i ∧ timAt LL (pre LL i + j) = (LL.getD i []).getD j default ∧ pre LL i + j < (timers LL).length := by
  have h := flatGo_get (s := 0) hi hj
  have h1 : (flat LL)[pre LL i + j]? = some (0 + i, (LL.getD i [])[j]) := h
  have h2 := (List.getElem?_eq_some_iff.1 h1).1
  rw [flat_len] at h2
  refine ⟨?_, ?_, h2⟩
  · unfold slotAt; rw [List.getD_eq_getElem?_getD, h1]; simp
  · unfold timAt
    rw [List.getD_eq_getElem?_getD, h1]
    show (LL.getD i [])[j] = _
    rw [List.getD_eq_getElem?_getD (l := LL.getD i []), List.getElem?_eq_getElem hj]; rfl
theorem pre_zero (LL : List (List DTimer)) : pre LL 0 = 0 := rfl
theorem pre_next {LL : List (List DTimer)} {i : Nat} (hi : i < LL.length) : pre LL (i + 1) = pre LL i + (LL.getD i []).length := by
  unfold pre
  rw [List.take_succ_eq_append_getElem hi, List.flatten_append, List.length_append]
  simp [List.getD_eq_getElem?_getD, hi]
theorem pre_all {LL : List (List DTimer)} {i : Nat} (hi : LL.length ≤ i) : pre LL i = (timers LL).length := by
  unfold pre timers; rw [List.take_of_length_le hi]
end Wh
end Go.Sx

/- Timing wheels: the place of a timer. -/
namespace Go.Sx.Wh
theorem ofInt_nat {m : Nat} (h : m < 18446744073709551616) : (BitVec.ofInt 64 (m : Int)).toNat = m := by
  rw [BitVec.toNat_ofInt]; show ((m : Int) % (18446744073709551616 : Nat)).toNat = m; omega
theorem xorI_nat {a b : Nat} (ha : a < 262144) (hb : b < 262144) : xorI (a : Int) (b : Int) = ((a ^^^ b : Nat) : Int) := by
  have h : a ^^^ b < 2 ^ 18 := Nat.xor_lt_two_pow ha hb
  unfold xorI
  rw [BitVec.toNat_xor, ofInt_nat (by omega), ofInt_nat (by omega), wrap_i64 (by omega)]
theorem andI7 {z : Nat} (h : z < 9223372036854775808) : andI (z : Int) 7 = (z : Int) % 8 := by
  unfold andI
  have e : (BitVec.ofInt 64 (7 : Int)).toNat = 7 := by decide
  rw [BitVec.toNat_and, ofInt_nat (by omega), e, show (7 : Nat) = 2 ^ 3 - 1 by rfl, Nat.and_two_pow_sub_one_eq_mod]
  rw [wrap_i64 (by omega)]
  omega
theorem bl_le {x k : Nat} : bl x ≤ k ↔ x < 2 ^ k := by
  cases x with
  | zero => simp [bl]; exact Nat.pow_pos (by decide)
  | succ x =>
    show Nat.log2 (x + 1) + 1 ≤ k ↔ _
    rw [← Nat.log2_lt (by omega)]; omega
theorem xor_lt {a b k : Nat} : a ^^^ b < 2 ^ k ↔ a / 2 ^ k = b / 2 ^ k := by
  have h1 : a ^^^ b < 2 ^ k ↔ (a ^^^ b) / 2 ^ k = 0 := by
    rw [Nat.div_eq_zero_iff]
    have := Nat.pow_pos (n := k) (show 0 < 2 by decide)
    omega
  rw [h1, ← Nat.shiftRight_eq_div_pow, Nat.shiftRight_xor_distrib, ← Nat.shiftRight_eq_div_pow, ← Nat.shiftRight_eq_div_pow]
  refine ⟨fun h => Nat.eq_of_testBit_eq fun i => ?_, fun h => by rw [h, Nat.xor_self]⟩
  have h2 := congrArg (Nat.testBit · i) h
  simpa [Nat.testBit_xor] using h2
theorem level_code {a b : Nat} : max 0 (((bl (a ^^^ b) : Int) - 1).tdiv 3) = level (a : Int) (b : Int) ∨ 262144 ≤ a ∨ 262144 ≤ b := by
  by_cases ha : a < 262144
  · by_cases hb : b < 262144
    · left
      have h3 := (bl_le (x := a ^^^ b) (k := 3)).trans xor_lt
      have h6 := (bl_le (x := a ^^^ b) (k := 6)).trans xor_lt
      have h9 := (bl_le (x := a ^^^ b) (k := 9)).trans xor_lt
      have h12 := (bl_le (x := a ^^^ b) (k := 12)).trans xor_lt
      have h15 := (bl_le (x := a ^^^ b) (k := 15)).trans xor_lt
      have h18 := (bl_le (x := a ^^^ b) (k := 18)).2 (Nat.xor_lt_two_pow ha hb)
      generalize bl (a ^^^ b) = m at *
      simp only [show (2 : Nat) ^ 3 = 8 by rfl, show (2 : Nat) ^ 6 = 64 by rfl, show (2 : Nat) ^ 9 = 512 by rfl, show (2 : Nat) ^ 12 = 4096 by rfl, show (2 : Nat) ^ 15 = 32768 by rfl] at *
      have e : ((m : Int) - 1).tdiv 3 = if m = 0 then 0 else (((m - 1) / 3 : Nat) : Int) := by
        by_cases h0 : m = 0
        · subst h0; rfl
        · rw [if_neg h0, Int.tdiv_eq_ediv_of_nonneg (by omega)]; omega
      rw [e]
      unfold level
      split <;> (try (split <;> (try (split <;> (try (split <;> (try (split <;> omega)))))))) <;> omega
    · exact .inr (.inr (by omega))
  · exact .inr (.inl (by omega))
theorem pow8_two {l : Int} (h : 0 ≤ l ∧ l ≤ 5) : pow8 l = 2 ^ (3 * l).toNat := by
  have : l = 0 ∨ l = 1 ∨ l = 2 ∨ l = 3 ∨ l = 4 ∨ l = 5 := by omega
  rcases this with rfl | rfl | rfl | rfl | rfl | rfl <;> rfl
theorem place_code {a n lv : Int} (ha : 0 ≤ a ∧ a ≤ 262143) (hl : lv = level a n) : 8 * lv + andI (a / 2 ^ (3 * lv).toNat) 7 = place a n := by
  have hb := level_bd a n
  rw [hl, ← pow8_two hb]
  unfold place
  congr 1
  have hp : 1 ≤ pow8 (level a n) := by unfold pow8; split; omega; split; omega; split; omega; split; omega; split <;> omega
  have h0 : 0 ≤ a / pow8 (level a n) := Int.ediv_nonneg ha.1 (by omega)
  have h1 : a / pow8 (level a n) ≤ a := Int.ediv_le_self _ ha.1
  generalize a / pow8 (level a n) = z at *
  obtain ⟨m, rfl⟩ : ∃ m : Nat, z = m := ⟨z.toNat, by omega⟩
  exact andI7 (by omega)
theorem level_of {a n : Int} (ha : 0 ≤ a ∧ a ≤ 262143) (hn : 0 ≤ n ∧ n ≤ 262143) : max 0 (((bl (toU (xorI a n)).toNat : Int) - 1).tdiv 3) = level a n ∧ bl (toU (xorI a n)).toNat ≤ 18 ∧ (toU (xorI a n)).toNat < 262144 := by
  obtain ⟨p, rfl⟩ : ∃ m : Nat, a = m := ⟨a.toNat, by omega⟩
  obtain ⟨q, rfl⟩ : ∃ m : Nat, n = m := ⟨n.toNat, by omega⟩
  have hx : p ^^^ q < 2 ^ 18 := Nat.xor_lt_two_pow (by omega) (by omega)
  have e : (toU (xorI (p : Int) (q : Int))).toNat = p ^^^ q := by
    have := toU_toNat (xorI (p : Int) (q : Int))
    rw [xorI_nat (by omega) (by omega)] at this ⊢
    omega
  rw [e]
  refine ⟨?_, bl_le.2 hx, hx⟩
  rcases level_code (a := p) (b := q) with h | h | h
  · exact h
  · omega
  · omega
/-! ### bits.Len64, for small numbers -/
def tab : ByteArray := ⟨(Array.range 256).map fun i => UInt8.ofNat (bl i)⟩
theorem bl_div {x k : Nat} (h : 2 ^ k ≤ x) : bl x = k + bl (x / 2 ^ k) := by
  have key : ∀ m, bl x ≤ m ↔ k + bl (x / 2 ^ k) ≤ m := fun m => by
    by_cases hm : k ≤ m
    · rw [bl_le]
      have e : k + bl (x / 2 ^ k) ≤ m ↔ bl (x / 2 ^ k) ≤ m - k := by omega
      rw [e, bl_le, Nat.div_lt_iff_lt_mul (Nat.pow_pos (by decide)), ← Nat.pow_add, Nat.sub_add_cancel hm]
    · constructor
      · intro h2
        have h3 := bl_le.1 h2
        have h4 : 2 ^ m < 2 ^ k := Nat.pow_lt_pow_right (by decide) (by omega)
        omega
      · intro h2; omega
  have h1 := (key (bl x)).1 (Nat.le_refl _)
  have h2 := (key (k + bl (x / 2 ^ k))).2 (Nat.le_refl _)
  omega
end Go.Sx.Wh

/- Timing wheels: what the walks ask. -/
namespace Go.Sx.Wh
theorem u_le {x y : UInt64} : x ≤ y ↔ x.toNat ≤ y.toNat := UInt64.le_iff_toNat_le
theorem u_no {x : UInt64} (h : x.toNat < 262144) (h2 : 4294967296 ≤ x) : False := by
  have := u_le.1 h2
  have e : (4294967296 : UInt64).toNat = 4294967296 := rfl
  omega
theorem u_no2 {x : UInt64} (h : x.toNat < 262144) (h2 : 256 ≤ shrU x 16) : False := by
  have := u_le.1 h2
  have e : (256 : UInt64).toNat = 256 := rfl
  rw [shrU_toNat, e] at this
  have e2 : 2 ^ min 16 64 = 65536 := rfl
  rw [e2] at this
  omega
def T : ByteArray := (ByteArray.mk #[0, 1, 2, 2, 3, 3, 3, 3, 4, 4, 4, 4, 4, 4, 4, 4, 5, 5, 5, 5, 5, 5, 5, 5, 5, 5, 5, 5, 5, 5, 5, 5, 6, 6, 6, 6, 6, 6, 6, 6, 6, 6, 6, 6, 6, 6, 6, 6, 6, 6, 6, 6, 6, 6, 6, 6, 6, 6, 6, 6, 6, 6, 6, 6, 7, 7, 7, 7, 7, 7, 7, 7, 7, 7, 7, 7, 7, 7, 7, 7, 7, 7, 7, 7, 7, 7, 7, 7, 7, 7, 7, 7, 7, 7, 7, 7, 7, 7, 7, 7, 7, 7, 7, 7, 7, 7, 7, 7, 7, 7, 7, 7, 7, 7, 7, 7, 7, 7, 7, 7, 7, 7, 7, 7, 7, 7, 7, 7, 8, 8, 8, 8, 8, 8, 8, 8, 8, 8, 8, 8, 8, 8, 8, 8, 8, 8, 8, 8, 8, 8, 8, 8, 8, 8, 8, 8, 8, 8, 8, 8, 8, 8, 8, 8, 8, 8, 8, 8, 8, 8, 8, 8, 8, 8, 8, 8, 8, 8, 8, 8, 8, 8, 8, 8, 8, 8, 8, 8, 8, 8, 8, 8, 8, 8, 8, 8, 8, 8, 8, 8, 8, 8, 8, 8, 8, 8, 8, 8, 8, 8, 8, 8, 8, 8, 8, 8, 8, 8, 8, 8, 8, 8, 8, 8, 8, 8, 8, 8, 8, 8, 8, 8, 8, 8, 8, 8, 8, 8, 8, 8, 8, 8, 8, 8, 8, 8, 8, 8, 8, 8, 8, 8, 8, 8, 8, 8])
theorem tab_at : ∀ i, i < 256 → (byteAt T i).toNat = bl i := by decide +kernel
theorem at_small {y : UInt64} {n : Int} (hy : y.toNat < 256) (hn : 0 ≤ n ∧ n ≤ 64) : IntKind.i64.wrap (n + IntKind.i64.wrap ((byteAt T (IntKind.u8.wrap (y.toNat : Int)).toNat).toNat : Int)) = n + (bl y.toNat : Int) := by
  have e : (IntKind.u8.wrap (y.toNat : Int)).toNat = y.toNat := by simp [IntKind.wrap, IntKind.bits, IntKind.signed]; omega
  have hb : bl y.toNat ≤ 8 := bl_le.2 hy
  have hi : IntKind.i64.wrap (bl y.toNat : Int) = (bl y.toNat : Int) := wrap_i64 (by omega)
  rw [e, tab_at _ hy, hi, wrap_i64 (by omega)]
theorem u8_bd (z : Int) : 0 ≤ IntKind.u8.wrap z ∧ IntKind.u8.wrap z < 256 := by simp [IntKind.wrap, IntKind.bits, IntKind.signed]; omega
theorem u8_lt (z : Int) : (IntKind.u8.wrap z).toNat < 256 := by have := u8_bd z; omega
theorem td_bd (m : Nat) : 0 ≤ ((m : Int) - 1).tdiv 3 ∧ ((m : Int) - 1).tdiv 3 ≤ m := by
  by_cases h0 : m = 0
  · subst h0; decide
  · rw [Int.tdiv_eq_ediv_of_nonneg (by omega)]; omega
theorem u_b8 {x : UInt64} (h : ¬ 65536 ≤ x) : x.toNat < 65536 := by
  have h2 : ¬ (65536 : UInt64).toNat ≤ x.toNat := fun h3 => h (u_le.2 h3)
  have e : (65536 : UInt64).toNat = 65536 := rfl
  omega
theorem u_small {x : UInt64} (h : ¬ 256 ≤ x) : x.toNat < 256 := by
  have h2 : ¬ (256 : UInt64).toNat ≤ x.toNat := fun h3 => h (u_le.2 h3)
  have e : (256 : UInt64).toNat = 256 := rfl
  omega
theorem len_a {x : UInt64} (h : ¬ 256 ≤ x) : IntKind.i64.wrap (0 + IntKind.i64.wrap ((byteAt T (IntKind.u8.wrap (x.toNat : Int)).toNat).toNat : Int)) = (bl x.toNat : Int) := by
  rw [at_small (u_small h) (by omega)]; omega
theorem len_b {x : UInt64} (_h : x.toNat < 262144) (h16 : ¬ 65536 ≤ x) (h8 : 256 ≤ x) : IntKind.i64.wrap ((0 + 8) + IntKind.i64.wrap ((byteAt T (IntKind.u8.wrap ((shrU x 8).toNat : Int)).toNat).toNat : Int)) = (bl x.toNat : Int) := by
  have h1 := u_b8 h16
  have h2 := u_le.1 h8
  have e : (256 : UInt64).toNat = 256 := rfl
  have e2 : (shrU x 8).toNat = x.toNat / 2 ^ 8 := by rw [shrU_toNat]; rfl
  rw [at_small (by rw [e2]; omega) (by omega), e2, bl_div (x := x.toNat) (k := 8) (by omega)]
  omega
theorem len_c {x : UInt64} (h : x.toNat < 262144) (h16 : 65536 ≤ x) : IntKind.i64.wrap ((0 + 16) + IntKind.i64.wrap ((byteAt T (IntKind.u8.wrap ((shrU x 16).toNat : Int)).toNat).toNat : Int)) = (bl x.toNat : Int) := by
  have h2 := u_le.1 h16
  have e : (65536 : UInt64).toNat = 65536 := rfl
  have e2 : (shrU x 16).toNat = x.toNat / 2 ^ 16 := by rw [shrU_toNat]; rfl
  rw [at_small (by rw [e2]; omega) (by omega), e2, bl_div (x := x.toNat) (k := 16) (by omega)]
  omega
/-! ### cmp.Or -/
def orI : List Int → Int
  | [] => 0
  | x :: l => if x ≠ 0 then x else orI l
theorem or_at {l : List Int} : ∀ {k : Nat}, k < l.length → (∀ j, j < k → l.getD j default = 0) → l.getD k default ≠ 0 → l.getD k default = orI l := by
  induction l with
  | nil => intro k h; exact absurd h (Nat.not_lt_zero _)
  | cons x l ih =>
    intro k h h1 h2
    cases k with
    | zero => simp only [List.getD_cons_zero] at h2 ⊢; exact (if_pos h2).symm
    | succ k =>
      have h0 := h1 0 (by omega)
      simp only [List.getD_cons_zero] at h0
      simp only [List.getD_cons_succ] at h2 ⊢
      rw [orI, if_neg (by simpa using h0)]
      exact ih (by simpa using h) (fun j hj => by simpa using h1 (j + 1) (by omega)) h2
theorem or_found {l : List Int} {k : Nat} (h : k < l.length) (h1 : ∀ j, j < k → l.getD j default = 0) (h2 : ¬ l.getD k default = 0) : l.getD k default = orI l := or_at h h1 h2
theorem or_none {l : List Int} {k : Nat} (h1 : ∀ j, j < k → l.getD j default = 0) (h : l.length ≤ k) : 0 = orI l := by
  induction l generalizing k with
  | nil => rfl
  | cons x l ih =>
    have h0 := h1 0 (by simp at h; omega)
    simp only [List.getD_cons_zero] at h0
    rw [orI, if_neg (by simpa using h0)]
    exact ih (k := k - 1) (fun j hj => by simpa using h1 (j + 1) (by omega)) (by simp at h; omega)
theorem or_step {l : List Int} {k : Nat} (h1 : ∀ j, j < k → l.getD j default = 0) (h2 : l.getD k default = 0) : ∀ j, j < k + 1 → l.getD j default = 0 := fun j hj => by
  by_cases e : j = k
  · subst e; exact h2
  · exact h1 j (by omega)
theorem or_order (a b : DTimer) : orI [cmpI a.due b.due, cmpI a.id b.id] = order a b := by
  unfold order orI orI orI
  by_cases h : cmpI a.due b.due ≠ 0
  · rw [if_pos h, if_pos h]
  · rw [if_neg h, if_neg h]
    by_cases h2 : cmpI a.id b.id ≠ 0
    · rw [if_pos h2]
    · rw [if_neg h2]
      have : cmpI a.id b.id = 0 := by simpa using h2
      exact this.symm
end Go.Sx.Wh
