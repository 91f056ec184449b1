/- How the arguments read. -/
import Derived.Test.YtgjdmnljnimamaaProg
import Derived.Test.YtgjdmnljnimamaaSx21
import Derived.Test.YtgjdmnljnimamaaRgLaw3
namespace Go.Proofs.Ytgjdmnljnimamaa
open Go.ChangeShapes Go.WideShapes Go.ChangeAt Go.RowKit Go.Sx
def WtPoint (c : DPoint) : Prop := In64 c.at_ ∧ In64 c.shard
set_option maxRecDepth 100000 in
theorem elTy_point : ElTy Try.prog 35 tPoint WtPoint := by
  refine ⟨by kernel_rfl, by decide, fun {H} enc w fuel cs x h => ?_⟩
  obtain ⟨xs, n, _, _, hl, hxs, hf⟩ := DataW.trod_struct Try.underlying35 h
  rw [show Try.prog.cellsOf 35 = 2 by kernel_rfl] at hl
  match cs, hl, xs, hxs with
  | [c0, c1], _, [y0, y1], _ =>
    have k3 : Try.prog.cellsOf 3 = 1 := by kernel_rfl
    have h0 : DataW.trod enc Try.prog w 0 (fun _ => true) true n 3 (([c0, c1].drop 0).take (Try.prog.cellsOf 3)) = some y0 := hf 0 _ rfl
    rw [k3] at h0
    simp only [List.drop_zero, List.drop_succ_cons, List.take_succ_cons, List.take_zero] at h0
    obtain ⟨z0, e0, _, w0⟩ := DataW.trod_int Try.underlying3 h0
    simp only [List.cons.injEq, and_true] at e0
    have h1 : DataW.trod enc Try.prog w 0 (fun _ => true) true n 3 (([c0, c1].drop 1).take (Try.prog.cellsOf 3)) = some y1 := hf 1 _ rfl
    rw [k3] at h1
    simp only [List.drop_zero, List.drop_succ_cons, List.take_succ_cons, List.take_zero] at h1
    obtain ⟨z1, e1, _, w1⟩ := DataW.trod_int Try.underlying3 h1
    simp only [List.cons.injEq, and_true] at e1
    subst e0 e1
    exact ⟨⟨z0, z1⟩, rfl, ⟨in64_of w0, in64_of w1⟩⟩
end Go.Proofs.Ytgjdmnljnimamaa
