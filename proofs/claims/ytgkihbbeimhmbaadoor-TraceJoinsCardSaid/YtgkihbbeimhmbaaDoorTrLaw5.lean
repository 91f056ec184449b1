/- The text form of traces: bounds. -/
import Derived.Test.YtgkihbbeimhmbaaDoorTrLaw4
namespace Go.Sx.Trc
theorem ext_size (s : ByteArray) {fr : Int} {i : Nat} (h0 : 0 ≤ fr) (h1 : fr ≤ (i : Int)) (h2 : (i : Int) ≤ (s.size : Int)) : ((s.extract fr.toNat i).size : Int) = (i : Int) - fr := by
  rw [ByteArray.size_extract]; omega
theorem tdiv_bd {n : Int} (h : 0 ≤ n ∧ n ≤ 9999999) : 0 ≤ n.tdiv 10 ∧ n.tdiv 10 ≤ 9999999 := by rw [(tdiv10 h.1).1]; omega
theorem tmod_bd {n : Int} (h : 0 ≤ n ∧ n ≤ 9999999) : 0 ≤ n.tmod 10 ∧ n.tmod 10 ≤ 9999999 := by rw [(tdiv10 h.1).2]; omega
theorem tdiv_lt {n : Int} {k : Nat} (h : 0 ≤ n ∧ n ≤ 9999999) (h1 : 10 ≤ n) (hk : n.toNat = k) : (n.tdiv 10).toNat < k := by rw [(tdiv10 h.1).1, Int.toNat_natCast]; omega
theorem tmod_lt {n : Int} {k : Nat} (h : 0 ≤ n ∧ n ≤ 9999999) (h1 : 10 ≤ n) (hk : n.toNat = k) : (n.tmod 10).toNat < k := by rw [(tdiv10 h.1).2, Int.toNat_natCast]; omega
theorem dig_eq {x : Int} (h1 : 48 ≤ x) (h2 : x ≤ 57) : IntKind.i64.wrap (IntKind.u8.wrap (x - 48)) = x - 48 := by
  have a : IntKind.u8.wrap (x - 48) = x - 48 := by rw [IntKind.wrap_u8]; omega
  rw [a]; exact wrap_i64 (by omega)
theorem rise_bd {l : List Int} {n : Nat} (hl : l ≠ []) (hk : ∀ k ∈ l, Lru.okKey k = true) (hr : run 1 l = n) : 0 ≤ l.getD 0 default + (n : Int) - 1 ∧ l.getD 0 default + (n : Int) - 1 ≤ 1048576 := by
  have := okKey_iff.1 (rise_last hl hk)
  rw [hr] at this; exact this
theorem bad_true {w : ByteArray} {key many : Int} (e1 : key = pk w) (e2 : many = pm w) (h : (0 ≤ cutI w ∧ ((byteAt w (cutI w).toNat).toNat : Int) = 42) ∧ many < 2) :
    ((decide (0 ≤ cutI w) && (((byteAt w (cutI w).toNat).toNat : Int) == 42)) && decide (many < 2)) = decide (badForm w) := by
  rw [decide_eq_true (bad_star e1 e2 h), decide_eq_true h.1.1, decide_eq_true h.2, h.1.2]; rfl
end Go.Sx.Trc
