/- Structs that hold slices, as they come in. -/
import Derived.Test.YtgkihbbeimhmbaaDoorSx14
namespace Go.Sx
open Go.RowKit Go.ChangeShapes Go.WideShapes Go.ChangeAt
theorem p_neBool {P : Program} {n : Nat} {w0 : World} {ds : List Deferred} {F : List (Nat × Value)} {H : List Ent} {ty : TypeId} {pos : String} {after : Array Edge} {guard : Option (Nat × Bool)} {dst : Option Tmp} {x y : Operand} {tx tY : TypeId} {b c : Bool} (hx : ev F x = some (.bool b)) (hy : ev F y = some (.bool c)) (hu : P.underlying tx = some .bool) : Pure ds P n w0 ⟨dst, .binOp .neq tx x y tY, ty, pos, after, guard⟩ F H (.bool (b != c)) := fun a w ha _ => by
  have h : (Op.equal tx (.bool b) (.bool c)).run P w = .ok (b == c) w := by
    show ((Go.underlying tx).bind _).run P w = _
    exact (run_bind (P := P) (Go.underlying tx) _ w).trans (by rw [run_underlying hu]; rfl)
  simp [execOp, ha.eval hx, ha.eval hy, eqGuard, binOp, h]; cases b <;> cases c <;> rfl
section
variable {α H : Type} {P : Program} {enc : TypeId × Value → H} {w : World} {T : Ty α} {WF : α → Prop}
theorem open_rd_cs {t e : TypeId} {fuel : Nat} {cs : List Value} {d : DataW H} {ps : List MemPlace} (hu : P.underlying t = some (.slice e)) (hT : ElTy P e T WF) (hby : 0 < P.bytesOf e) (hf : DataW.trod enc P w 0 (fun _ => true) true fuel t cs = some (d, ps))
    (hsz : ∀ m ∈ d.weights P t, m ≤ reachBytes) : ∃ (a : Option Addr) (cap : Nat) (L : List α), cs = [.slice a L.length cap] ∧ Rd T w a cap L ∧ ∀ z ∈ L, WF z := by
  have h1 : ∃ a len cap, cs = [.slice a len cap] := by
    rcases DataW.trod_slice hu hf with ⟨h0, _⟩ | ⟨x, len', cap', elems, rest, n, _, hcs, _⟩
    · exact ⟨_, _, _, h0⟩
    · exact ⟨_, _, _, hcs⟩
  obtain ⟨a, len, cap, rfl⟩ := h1
  obtain ⟨L, rfl, h2, h3⟩ := open_rd_of hu hT hby hf hsz
  exact ⟨a, cap, L, rfl, h2, h3⟩
theorem rd_small {t e : TypeId} {a : Option Addr} {len cap b : Nat} {d : DataW H} {ps : List MemPlace} (hu : P.underlying t = some (.slice e)) (hb : P.bytesOf e = b) (h : DataW.Trod enc P w 0 (fun _ => true) true t (.slice a len cap) d ps) (hsz : ∀ m ∈ d.weights P t, m ≤ reachBytes) : len * b ≤ 140737488351232 := by
  obtain ⟨fuel, hf⟩ := h
  subst hb
  rcases DataW.trod_slice hu hf with ⟨h0, _⟩ | ⟨x, len', cap', elems, rest, n, _, hcs, hx, hb, hl, hm, hlen, hel, hsp, _⟩
  · simp only [Value.cells, List.cons.injEq, Value.slice.injEq, and_true] at h0
    obtain ⟨_, rfl, _⟩ := h0; simp
  · simp only [Value.cells, List.cons.injEq, Value.slice.injEq, and_true] at hcs
    obtain ⟨_, rfl, rfl⟩ := hcs
    simp only [Prod.mk.injEq] at hx
    obtain ⟨rfl, _⟩ := hx
    have hreach : (elems.length + rest.length) * P.bytesOf e ≤ reachBytes := hsz _ (by simp [DataW.weights, hu])
    have h1 : len * P.bytesOf e ≤ (elems.length + rest.length) * P.bytesOf e := Nat.mul_le_mul_right _ (by omega)
    have : reachBytes = 140737488351232 := by decide
    omega
theorem weights_each {ts : List TypeId} {ds : List (DataW H)} {j : Nat} {t : TypeId} {d : DataW H} (h1 : ts[j]? = some t) (h2 : ds[j]? = some d) : ∀ m ∈ d.weights P t, m ∈ DataW.weightsEach P ts ds := by
  induction ts generalizing ds j with
  | nil => simp at h1
  | cons a ts ih =>
    cases ds with
    | nil => simp at h2
    | cons b ds =>
      intro m hm
      rw [DataW.weightsEach]
      cases j with
      | zero => simp at h1 h2; subst h1; subst h2; exact List.mem_append_left _ hm
      | succ j => exact List.mem_append_right _ (ih (by simpa using h1) (by simpa using h2) m hm)
end
end Go.Sx
