/- How the arguments read. -/
import Derived.Test.YthecfjipaepcgaaProg
import Derived.Test.YthecfjipaepcgaaSx27
import Derived.Test.YthecfjipaepcgaaShLaw
namespace Go.Proofs.Ythecfjipaepcgaa
open Go.ChangeShapes Go.WideShapes Go.ChangeAt Go.RowKit Go.Sx
def WtShard (c : DShard) : Prop := c.name.size ≤ 9223372036854775807 ∧ In64 c.weight
set_option maxRecDepth 100000 in
theorem elTy_shard : ElTy Try.prog 50 tShard WtShard := by
  refine ⟨by kernel_rfl, by decide, fun {H} enc w fuel cs x h => ?_⟩
  obtain ⟨xs, n, _, _, hl, hxs, hf⟩ := DataW.trod_struct Try.underlying50 h
  rw [show Try.prog.cellsOf 50 = 2 by kernel_rfl] at hl
  match cs, hl, xs, hxs with
  | [c0, c1], _, [y0, y1], _ =>
    have k3 : Try.prog.cellsOf 3 = 1 := by kernel_rfl
    have k9 : Try.prog.cellsOf 9 = 1 := by kernel_rfl
    have h0 : DataW.trod enc Try.prog w 0 (fun _ => true) true n 9 (([c0, c1].drop 0).take (Try.prog.cellsOf 9)) = some y0 := hf 0 _ rfl
    rw [k9] at h0
    simp only [List.drop_zero, List.drop_succ_cons, List.take_succ_cons, List.take_zero] at h0
    obtain ⟨z0, e0, _, w0⟩ := DataW.trod_string Try.underlying9 h0
    simp only [List.cons.injEq, and_true] at e0
    have h1 : DataW.trod enc Try.prog w 0 (fun _ => true) true n 3 (([c0, c1].drop 1).take (Try.prog.cellsOf 3)) = some y1 := hf 1 _ rfl
    rw [k3] at h1
    simp only [List.drop_zero, List.drop_succ_cons, List.take_succ_cons, List.take_zero] at h1
    obtain ⟨z1, e1, _, w1⟩ := DataW.trod_int Try.underlying3 h1
    simp only [List.cons.injEq, and_true] at e1
    subst e0 e1
    exact ⟨⟨z0, z1⟩, rfl, ⟨w0, in64_of w1⟩⟩
end Go.Proofs.Ythecfjipaepcgaa
