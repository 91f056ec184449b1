/- How the arguments read. -/
import Derived.Test.YtfncgfcehkalnaaProg
import Derived.Test.YtfncgfcehkalnaaSx28
import Derived.Test.YtfncgfcehkalnaaBlLaw
namespace Go.Proofs.Ytfncgfcehkalnaa
open Go.ChangeShapes Go.WideShapes Go.ChangeAt Go.RowKit Go.Sx
set_option maxRecDepth 100000 in
theorem open_filter {Hh : Type} {enc : TypeId × Value → Hh} {w : World} {v : Value} {dd : DataW Hh} {ps : List MemPlace} {b0 : Nat} {r : Reach} (hv : Value.okWide Try.prog w r b0 24 v) (h : DataW.Trod enc Try.prog w 0 (fun _ => true) true 24 v dd ps) (hsz : ∀ m ∈ dd.weights Try.prog 24, m ≤ reachBytes) : ∃ (c : DFilter) (ac_0 : Option Addr) (cc_0 : Nat), v = .agg #[.int .i64 c.size, .int .i64 c.hashes, .slice ac_0 c.set.length cc_0] ∧ Rd tInt w ac_0 cc_0 c.set ∧ (∀ z ∈ c.set, In64 z) := by
 obtain ⟨cs, rfl, _⟩ := okWide_struct Try.underlying24 hv
 obtain ⟨fuel, hm⟩ := h
 obtain ⟨xs, n, _, hx, hl, hxs, hf⟩ := DataW.trod_struct Try.underlying24 hm
 rw [show Try.prog.cellsOf 24 = 3 by kernel_rfl] at hl
 simp only [Value.cells] at hl hf hx
 match hcs : cs.toList, hl, xs, hxs with
 | [c0, c1, c2], _, [y0, y1, y2], _ =>
  rw [hcs] at hf
  have hd : dd = .agg [y0.1, y1.1, y2.1] := by have := congrArg Prod.fst hx; simpa using this
  subst hd
  have k3 : Try.prog.cellsOf 3 = 1 := by kernel_rfl
  have k22 : Try.prog.cellsOf 22 = 1 := by kernel_rfl
  have h0 : DataW.trod enc Try.prog w 0 (fun _ => true) true n 3 (([c0, c1, c2].drop 0).take (Try.prog.cellsOf 3)) = some y0 := hf 0 _ rfl
  rw [k3] at h0
  simp only [List.drop_zero, List.drop_succ_cons, List.take_succ_cons, List.take_zero] at h0
  obtain ⟨z0, e0, _, w0⟩ := DataW.trod_int Try.underlying3 h0
  simp only [List.cons.injEq, and_true] at e0
  have h1 : DataW.trod enc Try.prog w 0 (fun _ => true) true n 3 (([c0, c1, c2].drop 1).take (Try.prog.cellsOf 3)) = some y1 := hf 1 _ rfl
  rw [k3] at h1
  simp only [List.drop_zero, List.drop_succ_cons, List.take_succ_cons, List.take_zero] at h1
  obtain ⟨z1, e1, _, w1⟩ := DataW.trod_int Try.underlying3 h1
  simp only [List.cons.injEq, and_true] at e1
  have h2 : DataW.trod enc Try.prog w 0 (fun _ => true) true n 22 (([c0, c1, c2].drop 2).take (Try.prog.cellsOf 22)) = some y2 := hf 2 _ rfl
  rw [k22] at h2
  simp only [List.drop_zero, List.drop_succ_cons, List.take_succ_cons, List.take_zero] at h2
  obtain ⟨a2, cp2, z2, e2, rd2, wf2⟩ := open_rd_cs Try.underlying22 (elTy_int Try.underlying3 (by kernel_rfl)) (of_decide_eq_true (by kernel_rfl)) (show DataW.trod enc Try.prog w 0 (fun _ => true) true n 22 [c2] = some (y2.1, y2.2) from h2) (fun m hm => hsz m (by simp only [DataW.weights, Try.underlying24]; exact weights_each (j := 2) rfl rfl m hm))
  simp only [List.cons.injEq, and_true] at e2
  subst e0 e1 e2
  refine ⟨⟨z0, z1, z2⟩, a2, cp2, ?_, rd2, wf2⟩
  have : cs = #[.int .i64 z0, .int .i64 z1, .slice a2 z2.length cp2] := by apply Array.ext'; rw [hcs]
  rw [this]
end Go.Proofs.Ytfncgfcehkalnaa
