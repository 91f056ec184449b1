/- CompareMonotone: for every input the statement holds. No condition. -/
import Derived.Test.YtfncgfcehkalnaaRows
import Derived.Test.YtfncgfcehkalnaaCpF
import Derived.Test.YtfncgfcehkalnaaCpPureM3
import Derived.Test.YtfncgfcehkalnaaCpW6M7
namespace Go.Proofs.Ytfncgfcehkalnaa
open Go.ChangeShapes Go.WideShapes Go.ChangeAt Go.RowKit Go.Sx
open Go.ChangeMaps (open_string shut_string)

namespace compareMonotone
theorem own : ownKnob Try.prog.godebug = none := by kernel_rfl
theorem laidOut : laidOutB Try.prog = true := by kernel_rfl
set_option maxRecDepth 100000 in
theorem lifted (os : Os) (started : os.Started) (H : Type) (enc : TypeId × Value → H) :
  ReturnsInHanded {} Try.checked os 8 .any (Rows.compareMonotoneSpec.pre6 enc Try.prog Try.f8 Rows.compareMonotoneRow.domain false) (Rows.compareMonotoneSpec.post enc Try.prog Try.f8 false true false false) := by
 refine returnsInHanded_of_change_sized (C := Try.checked) own started (by kernel_rfl) Try.func8
  (ChangeSpec.witness6 (enc := enc) (C := Try.checked) false ⟨#[], #[.slice none 0 0], []⟩ 8 (by kernel_rfl) (by kernel_rfl) (by kernel_rfl) (by kernel_rfl)) ?_
 intro W base args ds gs before hval0 hW hcnd hsz0 _
 have hval : ∀ (j : Nat) t v, Try.f8.params[j]? = some t → args[j]? = some v → Value.okWide Try.prog W .any base t v := hval0
 have hW' := hW
 obtain ⟨p, q, hA0, hV, rfl, hfz, hnd⟩ := hW
 have hA : DataW.TrodAll enc Try.prog W 0 (fun _ => true) true Try.f8.params.toList args.toList ds p := hA0
 have hsz : (DataW.weightsEach Try.prog (Try.f8.params.toList ++ Rows.compareMonotoneSpec.plain.varTypes Try.prog) (ds ++ gs)).all (· ≤ reachBytes) = true := hsz0
 rw [Try.params8] at hA hval hsz
 have hAll := hA
 obtain ⟨v0, vs0, d0, ds0, p0, q0, hargs, rfl, rfl, h0, r0⟩ := trodAll_cons hA
 obtain ⟨rfl, rfl, rfl⟩ := trodAll_nil r0
 obtain rfl : args = #[v0] := by cases args; simp_all
 obtain ⟨rfl, rfl⟩ := trodVars_none hV
 have z0 : ∀ m ∈ d0.weights Try.prog 22, m ≤ reachBytes := fun m hm => by simpa using List.all_eq_true.1 hsz m (DataW.weights_mem_each (j := 0) rfl rfl m hm)
 obtain ⟨a0, c0, x0, rfl, rd0, wf0⟩ := open_rd Try.underlying22 (elTy_int Try.underlying3 (by kernel_rfl)) (of_decide_eq_true (by kernel_rfl)) (hval 0 22 v0 rfl rfl) h0 z0
 refine ((compareMonotone_ok x0 a0 c0 W rd0).mono ?_)
 rintro e W' ⟨he, bel⟩
 subst he
 refine ⟨_, rfl, _, _, _, [], _, [], hW', trodAll_mk1 (shut_bool Try.underlying4 _), trodAll_below laidOut bel ?_ hAll, rfl, bel.frame _, fun h => by cases h⟩
 intro t ht
 have hall : [22].all (fun t => Try.prog.readableRec t && decide (t < Try.prog.types.size)) = true := by kernel_rfl
 have h2 := List.all_eq_true.1 hall t ht
 simpa using h2
theorem over : Rows.compareMonotoneRow.holds Try.pinned (OpenSpec.ofChange Rows.compareMonotoneSpec) :=
 OpenClaim.holds_of_wide 8 Try.f8 rfl rfl rfl rfl rfl rfl rfl ⟨rfl, rfl, rfl, rfl, rfl⟩ rfl rfl rfl rfl rfl (by kernel_rfl) Try.func8 (by kernel_rfl)
  (of_decide_eq_true (by kernel_rfl)) (by unfold Func.isWrapper; first | (rw [if_pos (by decide +kernel)]; kernel_rfl) | (rw [if_neg (by decide +kernel)]; exact ⟨rfl, rfl⟩))
  (fun os started H enc _ => lifted os started H enc)
theorem proved : Rows.CompareMonotoneSaid := over
end compareMonotone
end Go.Proofs.Ytfncgfcehkalnaa
