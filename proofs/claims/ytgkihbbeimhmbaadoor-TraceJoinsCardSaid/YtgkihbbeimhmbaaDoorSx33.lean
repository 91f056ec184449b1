/- Shifts and differences of whole numbers with a sign; texts made of bytes. -/
import Derived.Test.YtgkihbbeimhmbaaDoorSx31
import Derived.Laws.BytesString
namespace Go.Sx
open Go.RowKit
section
variable {P : Program} {n : Nat} {w0 : World} {r : Option Nat} {ds : List Deferred} {F : List (Nat × Value)} {H : List Ent}
variable {ty : TypeId} {pos : String} {after : Array Edge} {guard : Option (Nat × Bool)} {dst : Option Tmp} {tx tY : TypeId} {x y : Operand}
theorem p_shrI {k : IntKind} {p z : Int} {m : Nat} (hx : ev F x = some (.int .i64 p)) (hy : ev F y = some (.int k z)) (hz : z = (m : Int)) (hm : m ≤ 64) : Pure ds P n w0 ⟨dst, .binOp .shr tx x y tY, ty, pos, after, guard⟩ F H (.int .i64 (p / 2 ^ m)) := fun a w ha _ => by
  subst hz
  have h : (Op.shift .shr .i64 p k (m : Int)) = (pure (.int .i64 (p / 2 ^ m)) : Sem Value) := by
    unfold Op.shift
    rw [if_neg (by omega)]
    have e : min ((m : Int)).toNat IntKind.i64.bits = m := by simp [IntKind.bits]; omega
    have e2 : p.fdiv (2 ^ m) = p / 2 ^ m := Int.fdiv_eq_ediv_of_nonneg _ (Int.le_of_lt (Int.pow_pos (by decide)))
    show (pure (.int .i64 (p.fdiv (2 ^ min ((m : Int)).toNat IntKind.i64.bits))) : Sem Value) = _
    rw [e, e2]
  simp [execOp, ha.eval hx, ha.eval hy, eqGuard, binOp, h]
/-- The bits in which two whole numbers differ. -/
def xorI (p q : Int) : Int := IntKind.i64.wrap ((BitVec.ofInt 64 p ^^^ BitVec.ofInt 64 q).toNat : Int)
theorem p_xorI {p q : Int} (hx : ev F x = some (.int .i64 p)) (hy : ev F y = some (.int .i64 q)) : Pure ds P n w0 ⟨dst, .binOp .xor tx x y tY, ty, pos, after, guard⟩ F H (.int .i64 (xorI p q)) := fun a w ha _ => by
  have h : (Op.intBits .xor .i64 p q) = (pure (.int .i64 (xorI p q)) : Sem Value) := rfl
  simp [execOp, ha.eval hx, ha.eval hy, eqGuard, binOp, h]
def tU8 : Ty Int := ⟨1, fun z => [.int .u8 z], fun _ => rfl⟩
def bytesOf (l : List Int) : ByteArray := l.foldl (fun r n => r.push (UInt8.ofNat n.toNat)) ByteArray.empty
theorem p_bytesStr {ts td e : TypeId} {a : Option Addr} {cap : Nat} {L : List Int} (hx : ev F x = some (.slice a L.length cap)) (hr : ∀ w, HeapIs w0 H w → Rd tU8 w a cap L) (hs : P.underlying ts = some (.slice e)) (he : P.underlying e = some (.int .u8)) (hd : P.underlying td = some .string) :
    Pure ds P n w0 ⟨dst, .convert ts td x, ty, pos, after, guard⟩ F H (.string (bytesOf L)) := fun b w hb hw => by
  have h : (Conv.bytesToString (.slice a L.length cap)).run P w = .ok (.string (bytesOf L)) w := by
    have hrd := hr w hw
    cases a with
    | none =>
      have h1 := hrd.1
      have h2 : cap = 0 := hrd.2.2
      have hL : L = [] := List.length_eq_zero_iff.1 (by omega)
      subst hL; rfl
    | some z =>
      refine run_bytesToString w z L.length cap L ?_
      obtain ⟨h1, _, h2, h3⟩ := hrd
      by_cases h00 : L.length = 0
      · have hL : L = [] := List.length_eq_zero_iff.1 h00
        subst hL; simp [loadCells, loadCellsFrom]
      have hspot := (h2 (by omega)).1
      obtain ⟨bb, o, s⟩ := z
      simp only at hspot h3
      subst hspot
      have := run_loadCellsFrom (P := P) (w := w) (a := ⟨bb, o, none⟩) L.length 0 #[] (L.map (Value.int .u8)) (by simp) (fun q hq => by
        have had : Addr.add ⟨bb, o, none⟩ (0 + q) = ⟨bb, o + q * tU8.k + 0, none⟩ := by
          have e1 : q * tU8.k = q := Nat.mul_one q
          rw [e1]; unfold Addr.add; split <;> simp_all
        rw [had, h3 q hq 0 (by decide)]
        simp [tU8, hq])
      simpa [loadCells] using this
  simp [execOp, hb.eval hx, convert, run_bind, run_underlying hs, run_underlying he, run_underlying hd, h]
end
end Go.Sx
