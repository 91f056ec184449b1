/- TopShards: for every input the statement holds. No condition. -/
import Derived.Test.YthecfjipaepcgaaRows
import Derived.Test.YthecfjipaepcgaaYsF
import Derived.Test.YthecfjipaepcgaaYsLawM4
import Derived.Test.YthecfjipaepcgaaYsW1M4
namespace Go.Proofs.Ythecfjipaepcgaa
open Go.ChangeShapes Go.WideShapes Go.ChangeAt Go.RowKit Go.Sx
open Go.ChangeMaps (open_string shut_string)

namespace topShards
theorem own : ownKnob Try.prog.godebug = none := by kernel_rfl
theorem laidOut : laidOutB Try.prog = true := by kernel_rfl
set_option maxRecDepth 100000 in
theorem lifted (os : Os) (started : os.Started) (H : Type) (enc : TypeId × Value → H) :
  ReturnsInHanded {} Try.checked os 14 .any (Rows.topShardsSpec.pre6 enc Try.prog Try.f14 Rows.topShardsRow.domain false) (Rows.topShardsSpec.post enc Try.prog Try.f14 false true false false) := by
 refine returnsInHanded_of_change_sized (C := Try.checked) own started (by kernel_rfl) Try.func14
  (ChangeSpec.witness6 (enc := enc) (C := Try.checked) false ⟨#[], #[.slice none 0 0, .slice none 0 0, .slice none 0 0, .int .i64 0], []⟩ 8 (by kernel_rfl) (by kernel_rfl) (by kernel_rfl) (by kernel_rfl)) ?_
 intro W base args ds gs before hval0 hW hcnd hsz0 _
 have hval : ∀ (j : Nat) t v, Try.f14.params[j]? = some t → args[j]? = some v → Value.okWide Try.prog W .any base t v := hval0
 have hW' := hW
 obtain ⟨p, q, hA0, hV, rfl, hfz, hnd⟩ := hW
 have hA : DataW.TrodAll enc Try.prog W 0 (fun _ => true) true Try.f14.params.toList args.toList ds p := hA0
 have hsz : (DataW.weightsEach Try.prog (Try.f14.params.toList ++ Rows.topShardsSpec.plain.varTypes Try.prog) (ds ++ gs)).all (· ≤ reachBytes) = true := hsz0
 rw [Try.params14] at hA hval hsz
 have hAll := hA
 obtain ⟨v0, vs0, d0, ds0, p0, q0, hargs, rfl, rfl, h0, r0⟩ := trodAll_cons hA
 obtain ⟨v1, vs1, d1, ds1, p1, q1, rfl, rfl, rfl, h1, r1⟩ := trodAll_cons r0
 obtain ⟨v2, vs2, d2, ds2, p2, q2, rfl, rfl, rfl, h2, r2⟩ := trodAll_cons r1
 obtain ⟨v3, vs3, d3, ds3, p3, q3, rfl, rfl, rfl, h3, r3⟩ := trodAll_cons r2
 obtain ⟨rfl, rfl, rfl⟩ := trodAll_nil r3
 obtain rfl : args = #[v0, v1, v2, v3] := by cases args; simp_all
 obtain ⟨rfl, rfl⟩ := trodVars_none hV
 have z0 : ∀ m ∈ d0.weights Try.prog 43, m ≤ reachBytes := fun m hm => by simpa using List.all_eq_true.1 hsz m (DataW.weights_mem_each (j := 0) rfl rfl m hm)
 obtain ⟨a0, c0, x0, rfl, rd0, wf0⟩ := open_rd Try.underlying43 (elTy_shard) (of_decide_eq_true (by kernel_rfl)) (hval 0 43 v0 rfl rfl) h0 z0
 have z1 : ∀ m ∈ d1.weights Try.prog 78, m ≤ reachBytes := fun m hm => by simpa using List.all_eq_true.1 hsz m (DataW.weights_mem_each (j := 1) rfl rfl m hm)
 obtain ⟨a1, c1, x1, rfl, rd1, wf1⟩ := open_rd Try.underlying78 (elTy_point) (of_decide_eq_true (by kernel_rfl)) (hval 1 78 v1 rfl rfl) h1 z1
 have z2 : ∀ m ∈ d2.weights Try.prog 44, m ≤ reachBytes := fun m hm => by simpa using List.all_eq_true.1 hsz m (DataW.weights_mem_each (j := 2) rfl rfl m hm)
 obtain ⟨a2, c2, x2, rfl, rd2, wf2⟩ := open_rd Try.underlying44 (elTy_str Try.underlying9 (by kernel_rfl)) (of_decide_eq_true (by kernel_rfl)) (hval 2 44 v2 rfl rfl) h2 z2
 obtain ⟨x3, rfl, rfl, rfl, wf3⟩ := open_int Try.underlying3 (hval 3 3 v3 rfl rfl) h3
 refine ((topShards_ok x0 a0 c0 x1 a1 c1 x2 a2 c2 x3 W ⟨rd0, rd1, rd2⟩).mono ?_)
 rintro e W' ⟨he, bel⟩
 subst he
 refine ⟨_, rfl, _, _, _, [], _, [], hW', trodAll_mk1 (shut_bool Try.underlying4 _), trodAll_below laidOut bel ?_ hAll, rfl, bel.frame _, fun h => by cases h⟩
 intro t ht
 have hall : [43, 78, 44, 3].all (fun t => Try.prog.readableRec t && decide (t < Try.prog.types.size)) = true := by kernel_rfl
 have h2 := List.all_eq_true.1 hall t ht
 simpa using h2
theorem over : Rows.topShardsRow.holds Try.pinned (OpenSpec.ofChange Rows.topShardsSpec) :=
 OpenClaim.holds_of_wide 14 Try.f14 rfl rfl rfl rfl rfl rfl rfl ⟨rfl, rfl, rfl, rfl, rfl⟩ rfl rfl rfl rfl rfl (by kernel_rfl) Try.func14 (by kernel_rfl)
  (of_decide_eq_true (by kernel_rfl)) (by unfold Func.isWrapper; first | (rw [if_pos (by decide +kernel)]; kernel_rfl) | (rw [if_neg (by decide +kernel)]; exact ⟨rfl, rfl⟩))
  (fun os started H enc _ => lifted os started H enc)
theorem proved : Rows.TopShardsSaid := over
end topShards
end Go.Proofs.Ythecfjipaepcgaa
