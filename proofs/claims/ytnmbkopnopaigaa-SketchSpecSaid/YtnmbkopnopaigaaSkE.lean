/- How the arguments read. -/
import Derived.Test.YtnmbkopnopaigaaProg
import Derived.Test.YtnmbkopnopaigaaSx32
import Derived.Test.YtnmbkopnopaigaaSkLaw
namespace Go.Proofs.Ytnmbkopnopaigaa
open Go.ChangeShapes Go.WideShapes Go.ChangeAt Go.RowKit Go.Sx
set_option maxRecDepth 100000 in
theorem open_sketch {Hh : Type} {enc : TypeId × Value → Hh} {w : World} {v : Value} {dd : DataW Hh} {ps : List MemPlace} {b0 : Nat} {r : Reach} (hv : Value.okWide Try.prog w r b0 24 v) (h : DataW.Trod enc Try.prog w 0 (fun _ => true) true 24 v dd ps) (hsz : ∀ m ∈ dd.weights Try.prog 24, m ≤ reachBytes) : ∃ (c : DSketch) (ac_0 : Option Addr) (cc_0 : NC), v = .agg #[.int .i64 c.wide, .slice ac_0 c.counts.length cc_0.n] ∧ RdN tInt w ac_0 cc_0 c.counts ∧ (∀ l_ ∈ c.counts, ∀ z ∈ l_, In64 z) := by
 obtain ⟨cs, rfl, _⟩ := okWide_struct Try.underlying24 hv
 obtain ⟨fuel, hm⟩ := h
 obtain ⟨xs, n, _, hx, hl, hxs, hf⟩ := DataW.trod_struct Try.underlying24 hm
 rw [show Try.prog.cellsOf 24 = 2 by kernel_rfl] at hl
 simp only [Value.cells] at hl hf hx
 match hcs : cs.toList, hl, xs, hxs with
 | [c0, c1], _, [y0, y1], _ =>
  rw [hcs] at hf
  have hd : dd = .agg [y0.1, y1.1] := by have := congrArg Prod.fst hx; simpa using this
  subst hd
  have k3 : Try.prog.cellsOf 3 = 1 := by kernel_rfl
  have k22 : Try.prog.cellsOf 22 = 1 := by kernel_rfl
  have h0 : DataW.trod enc Try.prog w 0 (fun _ => true) true n 3 (([c0, c1].drop 0).take (Try.prog.cellsOf 3)) = some y0 := hf 0 _ rfl
  rw [k3] at h0
  simp only [List.drop_zero, List.drop_succ_cons, List.take_succ_cons, List.take_zero] at h0
  obtain ⟨z0, e0, _, w0⟩ := DataW.trod_int Try.underlying3 h0
  simp only [List.cons.injEq, and_true] at e0
  have h1 : DataW.trod enc Try.prog w 0 (fun _ => true) true n 22 (([c0, c1].drop 1).take (Try.prog.cellsOf 22)) = some y1 := hf 1 _ rfl
  rw [k22] at h1
  simp only [List.drop_zero, List.drop_succ_cons, List.take_succ_cons, List.take_zero] at h1
  obtain ⟨a1, cp1, z1, e1, rd1, wf1⟩ := open_rdN_cs Try.underlying22 Try.underlying37 (by kernel_rfl) (elTy_int Try.underlying3 (by kernel_rfl)) (of_decide_eq_true (by kernel_rfl)) (of_decide_eq_true (by kernel_rfl)) (show DataW.trod enc Try.prog w 0 (fun _ => true) true n 22 [c1] = some (y1.1, y1.2) from h1) (fun m hm => hsz m (by simp only [DataW.weights, Try.underlying24]; exact weights_each (j := 1) rfl rfl m hm))
  simp only [List.cons.injEq, and_true] at e1
  subst e0 e1
  refine ⟨⟨z0, z1⟩, a1, cp1, ?_, rd1, wf1⟩
  have : cs = #[.int .i64 z0, .slice a1 z1.length cp1.n] := by apply Array.ext'; rw [hcs]
  rw [this]
end Go.Proofs.Ytnmbkopnopaigaa
