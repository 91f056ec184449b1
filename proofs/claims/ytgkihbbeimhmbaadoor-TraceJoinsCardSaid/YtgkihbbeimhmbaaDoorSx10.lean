/- Numbers of 64 bits without a sign; bits; shifts; conversions; the bytes of a string. -/
import Derived.Test.YtgkihbbeimhmbaaDoorSx9
namespace Go.Sx
open Go.RowKit
section
variable {P : Program} {n : Nat} {w0 : World} {r : Option Nat} {ds : List Deferred} {F : List (Nat × Value)} {H : List Ent} {ty : TypeId} {pos : String} {after : Array Edge} {guard : Option (Nat × Bool)} {dst : Option Tmp} {tx tY : TypeId} {x y : Operand}
theorem wrapU (m : Nat) : IntKind.u64.wrap (m : Int) = ((m % 18446744073709551616 : Nat) : Int) := by
  simp [IntKind.wrap, IntKind.bits, IntKind.signed]
theorem wrapU_lt {m : Nat} (h : m < 18446744073709551616) : IntKind.u64.wrap (m : Int) = (m : Int) := by rw [wrapU, Nat.mod_eq_of_lt h]
theorem ofInt_u64 (p : UInt64) : BitVec.ofInt 64 (p.toNat : Int) = p.toBitVec := by
  apply BitVec.eq_of_toNat_eq
  rw [BitVec.toNat_ofInt]
  have := p.toNat_lt
  show ((p.toNat : Int) % (18446744073709551616 : Nat)).toNat = p.toNat
  omega
variable {p q : UInt64}
theorem pu_add (hx : ev F x = some (.int .u64 (p.toNat : Int))) (hy : ev F y = some (.int .u64 (q.toNat : Int))) : Pure ds P n w0 ⟨dst, .binOp .add tx x y tY, ty, pos, after, guard⟩ F H (.int .u64 ((p + q).toNat : Int)) := by
  have := p_add (P := P) (n := n) (w0 := w0) (ds := ds) (dst := dst) (tx := tx) (tY := tY) (ty := ty) (pos := pos) (after := after) (guard := guard) (H := H) hx hy
  rwa [← Int.natCast_add, wrapU, show (p.toNat + q.toNat) % 18446744073709551616 = (p + q).toNat from (UInt64.toNat_add p q).symm] at this
theorem pu_mul (hx : ev F x = some (.int .u64 (p.toNat : Int))) (hy : ev F y = some (.int .u64 (q.toNat : Int))) : Pure ds P n w0 ⟨dst, .binOp .mul tx x y tY, ty, pos, after, guard⟩ F H (.int .u64 ((p * q).toNat : Int)) := by
  have := p_mul (P := P) (n := n) (w0 := w0) (ds := ds) (dst := dst) (tx := tx) (tY := tY) (ty := ty) (pos := pos) (after := after) (guard := guard) (H := H) hx hy
  rwa [← Int.natCast_mul, wrapU, show (p.toNat * q.toNat) % 18446744073709551616 = (p * q).toNat from (UInt64.toNat_mul p q).symm] at this
theorem pu_sub (hx : ev F x = some (.int .u64 (p.toNat : Int))) (hy : ev F y = some (.int .u64 (q.toNat : Int))) : Pure ds P n w0 ⟨dst, .binOp .sub tx x y tY, ty, pos, after, guard⟩ F H (.int .u64 ((p - q).toNat : Int)) := by
  have := p_sub (P := P) (n := n) (w0 := w0) (ds := ds) (dst := dst) (tx := tx) (tY := tY) (ty := ty) (pos := pos) (after := after) (guard := guard) (H := H) hx hy
  have e : IntKind.u64.wrap ((p.toNat : Int) - (q.toNat : Int)) = ((p - q).toNat : Int) := by
    rw [UInt64.toNat_sub]
    have h1 := p.toNat_lt; have h2 := q.toNat_lt
    simp [IntKind.wrap, IntKind.bits, IntKind.signed]
    omega
  rwa [e] at this
theorem pu_xor (hx : ev F x = some (.int .u64 (p.toNat : Int))) (hy : ev F y = some (.int .u64 (q.toNat : Int))) : Pure ds P n w0 ⟨dst, .binOp .xor tx x y tY, ty, pos, after, guard⟩ F H (.int .u64 ((p ^^^ q).toNat : Int)) := fun a w ha _ => by
  have e : IntKind.u64.wrap (((BitVec.ofInt 64 (p.toNat : Int) ^^^ BitVec.ofInt 64 (q.toNat : Int)).toNat : Nat) : Int) = ((p ^^^ q).toNat : Int) := by
    rw [ofInt_u64, ofInt_u64]; exact wrapU_lt (p ^^^ q).toNat_lt
  have h : (Op.intBits .xor .u64 (p.toNat : Int) (q.toNat : Int)) = (pure (.int .u64 ((p ^^^ q).toNat : Int)) : Sem Value) := by rw [← e]; rfl
  simp [execOp, ha.eval hx, ha.eval hy, eqGuard, binOp, h]
theorem pu_and (hx : ev F x = some (.int .u64 (p.toNat : Int))) (hy : ev F y = some (.int .u64 (q.toNat : Int))) : Pure ds P n w0 ⟨dst, .binOp .and tx x y tY, ty, pos, after, guard⟩ F H (.int .u64 ((p &&& q).toNat : Int)) := fun a w ha _ => by
  have e : IntKind.u64.wrap (((BitVec.ofInt 64 (p.toNat : Int) &&& BitVec.ofInt 64 (q.toNat : Int)).toNat : Nat) : Int) = ((p &&& q).toNat : Int) := by
    rw [ofInt_u64, ofInt_u64]; exact wrapU_lt (p &&& q).toNat_lt
  have h : (Op.intBits .and .u64 (p.toNat : Int) (q.toNat : Int)) = (pure (.int .u64 ((p &&& q).toNat : Int)) : Sem Value) := by rw [← e]; rfl
  simp [execOp, ha.eval hx, ha.eval hy, eqGuard, binOp, h]
theorem pu_or (hx : ev F x = some (.int .u64 (p.toNat : Int))) (hy : ev F y = some (.int .u64 (q.toNat : Int))) : Pure ds P n w0 ⟨dst, .binOp .or tx x y tY, ty, pos, after, guard⟩ F H (.int .u64 ((p ||| q).toNat : Int)) := fun a w ha _ => by
  have e : IntKind.u64.wrap (((BitVec.ofInt 64 (p.toNat : Int) ||| BitVec.ofInt 64 (q.toNat : Int)).toNat : Nat) : Int) = ((p ||| q).toNat : Int) := by
    rw [ofInt_u64, ofInt_u64]; exact wrapU_lt (p ||| q).toNat_lt
  have h : (Op.intBits .or .u64 (p.toNat : Int) (q.toNat : Int)) = (pure (.int .u64 ((p ||| q).toNat : Int)) : Sem Value) := by rw [← e]; rfl
  simp [execOp, ha.eval hx, ha.eval hy, eqGuard, binOp, h]
/-- The bits that two whole numbers share. -/
def andI (p q : Int) : Int := IntKind.i64.wrap ((BitVec.ofInt 64 p &&& BitVec.ofInt 64 q).toNat : Int)
theorem p_andI {p q : Int} (hx : ev F x = some (.int .i64 p)) (hy : ev F y = some (.int .i64 q)) : Pure ds P n w0 ⟨dst, .binOp .and tx x y tY, ty, pos, after, guard⟩ F H (.int .i64 (andI p q)) := fun a w ha _ => by
  have h : (Op.intBits .and .i64 p q) = (pure (.int .i64 (andI p q)) : Sem Value) := rfl
  simp [execOp, ha.eval hx, ha.eval hy, eqGuard, binOp, h]
theorem andI_low (p : Int) (m : Nat) (h : m < 9223372036854775808) : 0 ≤ andI p m ∧ andI p m ≤ m := by
  have e : (BitVec.ofInt 64 (m : Int)).toNat = m := by rw [BitVec.toNat_ofInt]; show ((m : Int) % (18446744073709551616 : Nat)).toNat = m; omega
  have h2 : (BitVec.ofInt 64 p &&& BitVec.ofInt 64 (m : Int)).toNat ≤ m := by
    rw [BitVec.toNat_and, e]; exact Nat.and_le_right
  unfold andI
  rw [wrap_i64 (by omega)]
  omega
/-- A shift to the right. -/
def shrU (p : UInt64) (m : Nat) : UInt64 := UInt64.ofNat (p.toNat / 2 ^ min m 64)
theorem shrU_toNat (p : UInt64) (m : Nat) : (shrU p m).toNat = p.toNat / 2 ^ min m 64 := by
  unfold shrU
  show (p.toNat / 2 ^ min m 64) % 2 ^ 64 = _
  exact Nat.mod_eq_of_lt (Nat.lt_of_le_of_lt (Nat.div_le_self _ _) p.toNat_lt)
theorem shrU_eq (p q : UInt64) (h : q.toNat < 64) : shrU p q.toNat = p >>> q := by
  apply UInt64.toNat_inj.1
  rw [shrU_toNat, UInt64.toNat_shiftRight, Nat.mod_eq_of_lt h, Nat.shiftRight_eq_div_pow, Nat.min_eq_left (by omega)]
theorem pu_shr {k : IntKind} {m : Nat} {z : Int} (hx : ev F x = some (.int .u64 (p.toNat : Int))) (hy : ev F y = some (.int k z)) (hz : z = (m : Int)) : Pure ds P n w0 ⟨dst, .binOp .shr tx x y tY, ty, pos, after, guard⟩ F H (.int .u64 ((shrU p m).toNat : Int)) := fun a w ha _ => by
  subst hz
  have e : ((p.toNat : Int).fdiv (2 ^ min m 64)) = ((shrU p m).toNat : Int) := by
    rw [shrU_toNat, Int.fdiv_eq_ediv_of_nonneg _ (by exact_mod_cast Nat.zero_le _)]; simp
  have h : (Op.shift .shr .u64 (p.toNat : Int) k (m : Int)) = (pure (.int .u64 ((shrU p m).toNat : Int)) : Sem Value) := by
    unfold Op.shift
    rw [if_neg (by omega)]
    show (pure (.int .u64 ((p.toNat : Int).fdiv (2 ^ min m 64))) : Sem Value) = _
    rw [e]
  simp [execOp, ha.eval hx, ha.eval hy, eqGuard, binOp, h]
theorem pu_eq (hx : ev F x = some (.int .u64 (p.toNat : Int))) (hy : ev F y = some (.int .u64 (q.toNat : Int))) : Pure ds P n w0 ⟨dst, .binOp .eql tx x y tY, ty, pos, after, guard⟩ F H (.bool (p == q)) := by
  have := p_eq (P := P) (n := n) (w0 := w0) (ds := ds) (dst := dst) (tx := tx) (tY := tY) (ty := ty) (pos := pos) (after := after) (guard := guard) (H := H) hx hy
  have e : ((p.toNat : Int) == (q.toNat : Int)) = (p == q) := by
    rw [Bool.eq_iff_iff, beq_iff_eq, beq_iff_eq, ← UInt64.toNat_inj]; omega
  rwa [e] at this
theorem pu_ne (hx : ev F x = some (.int .u64 (p.toNat : Int))) (hy : ev F y = some (.int .u64 (q.toNat : Int))) : Pure ds P n w0 ⟨dst, .binOp .neq tx x y tY, ty, pos, after, guard⟩ F H (.bool (p != q)) := by
  have := p_ne (P := P) (n := n) (w0 := w0) (ds := ds) (dst := dst) (tx := tx) (tY := tY) (ty := ty) (pos := pos) (after := after) (guard := guard) (H := H) hx hy
  have e : ((p.toNat : Int) != (q.toNat : Int)) = (p != q) := by
    rw [Bool.eq_iff_iff, bne_iff_ne, bne_iff_ne, ne_eq, ne_eq, ← UInt64.toNat_inj]; omega
  rwa [e] at this
theorem ltU : decide ((p.toNat : Int) < (q.toNat : Int)) = decide (p < q) := by
  rw [Bool.eq_iff_iff, decide_eq_true_eq, decide_eq_true_eq, UInt64.lt_iff_toNat_lt]; omega
theorem leU : decide ((p.toNat : Int) ≤ (q.toNat : Int)) = decide (p ≤ q) := by
  rw [Bool.eq_iff_iff, decide_eq_true_eq, decide_eq_true_eq, UInt64.le_iff_toNat_le]; omega
theorem pu_lt (hx : ev F x = some (.int .u64 (p.toNat : Int))) (hy : ev F y = some (.int .u64 (q.toNat : Int))) : Pure ds P n w0 ⟨dst, .binOp .lss tx x y tY, ty, pos, after, guard⟩ F H (.bool (decide (p < q))) := by
  have := p_lt (P := P) (n := n) (w0 := w0) (ds := ds) (dst := dst) (tx := tx) (tY := tY) (ty := ty) (pos := pos) (after := after) (guard := guard) (H := H) hx hy
  rwa [ltU] at this
theorem pu_le (hx : ev F x = some (.int .u64 (p.toNat : Int))) (hy : ev F y = some (.int .u64 (q.toNat : Int))) : Pure ds P n w0 ⟨dst, .binOp .leq tx x y tY, ty, pos, after, guard⟩ F H (.bool (decide (p ≤ q))) := by
  have := p_le (P := P) (n := n) (w0 := w0) (ds := ds) (dst := dst) (tx := tx) (tY := tY) (ty := ty) (pos := pos) (after := after) (guard := guard) (H := H) hx hy
  rwa [leU] at this
theorem pu_gt (hx : ev F x = some (.int .u64 (p.toNat : Int))) (hy : ev F y = some (.int .u64 (q.toNat : Int))) : Pure ds P n w0 ⟨dst, .binOp .gtr tx x y tY, ty, pos, after, guard⟩ F H (.bool (decide (q < p))) := by
  have := p_gt (P := P) (n := n) (w0 := w0) (ds := ds) (dst := dst) (tx := tx) (tY := tY) (ty := ty) (pos := pos) (after := after) (guard := guard) (H := H) hx hy
  rwa [ltU] at this
theorem pu_ge (hx : ev F x = some (.int .u64 (p.toNat : Int))) (hy : ev F y = some (.int .u64 (q.toNat : Int))) : Pure ds P n w0 ⟨dst, .binOp .geq tx x y tY, ty, pos, after, guard⟩ F H (.bool (decide (q ≤ p))) := by
  have := p_ge (P := P) (n := n) (w0 := w0) (ds := ds) (dst := dst) (tx := tx) (tY := tY) (ty := ty) (pos := pos) (after := after) (guard := guard) (H := H) hx hy
  rwa [leU] at this
/-! ### Division -/
theorem pu_quo (hx : ev F x = some (.int .u64 (p.toNat : Int))) (hy : ev F y = some (.int .u64 (q.toNat : Int))) (h0 : q ≠ 0) : Pure ds P n w0 ⟨dst, .binOp .quo tx x y tY, ty, pos, after, guard⟩ F H (.int .u64 ((p / q).toNat : Int)) := by
  have hq : (q.toNat : Int) ≠ 0 := fun h => h0 (UInt64.toNat_inj.1 (by simpa using h))
  have := p_quo (P := P) (n := n) (w0 := w0) (ds := ds) (dst := dst) (tx := tx) (tY := tY) (ty := ty) (pos := pos) (after := after) (guard := guard) (H := H) hx hy hq
  have e : IntKind.u64.wrap ((p.toNat : Int).tdiv (q.toNat : Int)) = ((p / q).toNat : Int) := by
    rw [Int.tdiv_eq_ediv_of_nonneg (by omega), ← Int.natCast_ediv, UInt64.toNat_div]
    exact wrapU_lt (Nat.lt_of_le_of_lt (Nat.div_le_self _ _) p.toNat_lt)
  rwa [e] at this
theorem pu_rem (hx : ev F x = some (.int .u64 (p.toNat : Int))) (hy : ev F y = some (.int .u64 (q.toNat : Int))) (h0 : q ≠ 0) : Pure ds P n w0 ⟨dst, .binOp .rem tx x y tY, ty, pos, after, guard⟩ F H (.int .u64 ((p % q).toNat : Int)) := by
  have hq : (q.toNat : Int) ≠ 0 := fun h => h0 (UInt64.toNat_inj.1 (by simpa using h))
  have := p_rem (P := P) (n := n) (w0 := w0) (ds := ds) (dst := dst) (tx := tx) (tY := tY) (ty := ty) (pos := pos) (after := after) (guard := guard) (H := H) hx hy hq
  have e : ((p.toNat : Int).tmod (q.toNat : Int)) = ((p % q).toNat : Int) := by
    rw [Int.tmod_eq_emod_of_nonneg (by omega), ← Int.natCast_emod, UInt64.toNat_mod]
  rwa [e] at this

/-! ### Conversions of whole numbers -/
theorem p_conv {k k' : IntKind} {z : Int} {ts td : TypeId} {dk : TypeDesc} (hx : ev F x = some (.int k z)) (hs : P.underlying ts = some dk) (hd : P.underlying td = some (.int k')) : Pure ds P n w0 ⟨dst, .convert ts td x, ty, pos, after, guard⟩ F H (.int k' (k'.wrap z)) := fun a w ha _ => by
  simp [execOp, ha.eval hx, convert, run_bind, run_underlying hs, run_underlying hd, Conv.intToInt]
/-- A whole number as one of 64 bits without a sign. -/
def toU (z : Int) : UInt64 := UInt64.ofNat (z % 18446744073709551616).toNat
theorem toU_toNat (z : Int) : ((toU z).toNat : Int) = z % 18446744073709551616 := by
  have : (toU z).toNat = (z % 18446744073709551616).toNat % 2 ^ 64 := rfl
  omega
theorem wrapU_int (z : Int) : IntKind.u64.wrap z = ((toU z).toNat : Int) := by
  rw [toU_toNat]; simp [IntKind.wrap, IntKind.bits, IntKind.signed]
theorem pu_conv {k : IntKind} {z : Int} {ts td : TypeId} {dk : TypeDesc} (hx : ev F x = some (.int k z)) (hs : P.underlying ts = some dk) (hd : P.underlying td = some (.int .u64)) : Pure ds P n w0 ⟨dst, .convert ts td x, ty, pos, after, guard⟩ F H (.int .u64 ((toU z).toNat : Int)) := by
  rw [← wrapU_int]; exact p_conv hx hs hd
theorem pu_convU {ts td : TypeId} {dk : TypeDesc} (hx : ev F x = some (.int .u64 (p.toNat : Int))) (hs : P.underlying ts = some dk) (hd : P.underlying td = some (.int .u64)) : Pure ds P n w0 ⟨dst, .convert ts td x, ty, pos, after, guard⟩ F H (.int .u64 (p.toNat : Int)) := by
  have h := p_conv (P := P) (n := n) (w0 := w0) (ds := ds) (dst := dst) (ty := ty) (pos := pos) (after := after) (guard := guard) (H := H) hx hs hd
  rwa [wrapU_lt p.toNat_lt] at h
theorem pu_convB {c : UInt8} {ts td : TypeId} {dk : TypeDesc} (hx : ev F x = some (.int .u8 (c.toNat : Int))) (hs : P.underlying ts = some dk) (hd : P.underlying td = some (.int .u64)) : Pure ds P n w0 ⟨dst, .convert ts td x, ty, pos, after, guard⟩ F H (.int .u64 ((c.toUInt64).toNat : Int)) := by
  have h := p_conv (P := P) (n := n) (w0 := w0) (ds := ds) (dst := dst) (ty := ty) (pos := pos) (after := after) (guard := guard) (H := H) hx hs hd
  have hc : c.toNat < 256 := c.toNat_lt
  rwa [wrapU_lt (by omega)] at h

theorem u64_of {z : Int} (h : (Lit.int .u64 z).wf = true) : ∃ u : UInt64, z = (u.toNat : Int) := by
  have h1 : IntKind.u64.min = 0 := rfl
  have h2 : IntKind.u64.max = 18446744073709551615 := rfl
  simp only [Lit.wf, Bool.and_eq_true, decide_eq_true_eq] at h
  exact ⟨toU z, by rw [toU_toNat]; omega⟩

/-! ### The bytes of a string -/
def byteAt (s : ByteArray) (i : Nat) : UInt8 := s.data.getD i 0
theorem p_indexStr {s : ByteArray} {z : Int} {i : Nat} {t : TypeId} {k : IntKind} (hx : ev F x = some (.string s)) (hy : ev F y = some (.int k z)) (hu : P.underlying t = some .string) (hz : z = (i : Int)) (hi : i < s.size) : Pure ds P n w0 ⟨dst, .index t x y, ty, pos, after, guard⟩ F H (.int .u8 ((byteAt s i).toNat : Int)) := fun a w ha _ => by
  subst hz
  have e : s[(i : Int).toNat]? = some (byteAt s i) := by
    rw [Int.toNat_natCast, getElem?_pos s i hi]
    have hs : i < s.data.size := hi
    have : byteAt s i = s.data[i] := by simp [byteAt, Array.getD, hi]
    rw [this]; rfl
  have h0 : (0 : Int) ≤ (i : Int) := by omega
  simp only [Int.toNat_natCast] at e
  simp [execOp, Instr.index, ha.eval hx, ha.eval hy, run_bind, run_underlying hu, asIntOf, e]
end
end Go.Sx
