/- The walks, printed by a program from the translation and a specification. -/
import Derived.Test.YthecfjipaepcgaaShF
import Derived.Test.YthecfjipaepcgaaShLaw
import Derived.Test.YthecfjipaepcgaaShLaw3
import Derived.Test.YthecfjipaepcgaaShW4
import Derived.Test.YthecfjipaepcgaaShW5
namespace Go.Proofs.Ythecfjipaepcgaa
open Go.Sx Go.RowKit
set_option maxHeartbeats 8000000 in
set_option maxRecDepth 100000 in
theorem shardMinimal_ok (l : List DShard) (al : Option Addr) (cl : Nat) (at_ : Int) (keys : List ByteArray) (akeys : Option Addr) (ckeys : Nat) (hy1 : l.length ≤ 5864062014634) : Fn0 Try.prog 7 [.slice al l.length cl, .int .i64 at_, .slice akeys keys.length ckeys] (fun w => Rd tShard w al cl l ∧ Rd tStr w akeys ckeys keys) (.bool true) := by
  refine fn0 (nt := 200) (F0 := [(0, .slice al l.length cl), (1, .int .i64 at_), (2, .slice akeys keys.length ckeys)]) Try.func7 rfl Try.ntmps7 rfl rfl (fun w0 hpre => ?_)
  obtain ⟨hl, hkeys⟩ := hpre
  have hlhl := hl.2.1
  have hlhkeys := hkeys.2.1
  have hks : (keys.take (min (keys.length : Int) 40).toNat).length ≤ 40 := by simp only [List.length_take]; omega
  refine c_seq ?_
  refine c_region ?_
  refine o_pure (p_assign (v := .bool false) rfl) rfl rfl rfl ?_
  refine o_nil ?_
  refine q_then ?_
  refine c_seq ?_
  refine c_region ?_
  refine o_pure (p_move (v := .slice akeys keys.length ckeys) rfl) rfl rfl rfl ?_
  refine o_pure (p_move (v := .slice akeys keys.length ckeys) rfl) rfl rfl rfl ?_
  refine o_pure (p_len_slice (len := keys.length) rfl rfl Try.underlying44) rfl rfl rfl ?_
  refine o_pure (p_min (p := (keys.length : Int)) (q := 40) rfl rfl) rfl rfl rfl ?_
  refine o_pure (p_sliceH (L := keys) (T := tStr) (h := (min (keys.length : Int) 40)) rfl rfl Try.underlying44 sz9 (by omega) (by omega) (rd_base (i := 0) rfl hkeys)) rfl rfl rfl ?_
  refine o_pure (p_assign (v := .slice akeys (keys.take ((min (keys.length : Int) 40).toNat)).length ckeys) rfl) rfl rfl rfl ?_
  refine o_nil ?_
  refine q_then ?_
  refine c_seq ?_
  refine c_seq ?_
  refine c_region ?_
  refine o_call0 (v := .bool true) rfl (shardBegun_ok ) hf30 (fun _ _ => trivial) rfl ?_
  refine o_pure (p_not (b := true) rfl) rfl rfl rfl ?_
  refine o_nil ?_
  refine q_then ?_
  refine c_false rfl ?_
  refine c_skip ?_
  refine q_then ?_
  refine c_seq ?_
  refine c_seq ?_
  refine c_region ?_
  refine o_pure (p_move (v := .int .i64 at_) rfl) rfl rfl rfl ?_
  refine o_pure (p_lt (p := at_) (q := 0) rfl rfl) rfl rfl rfl ?_
  refine o_pure (p_move (v := .bool (decide (at_ < 0))) rfl) rfl rfl rfl ?_
  refine o_or (p := 32) 5 (decide ((l.length : Int) ≤ at_)) ?_ ?_ ?_
  · intro hb1 hk
    simp only [decide_eq_false_iff_not, Int.not_lt] at hb1
    refine o_unguard 27 rfl rfl ?_
    refine o_pure (p_move (v := .int .i64 at_) rfl) rfl rfl rfl ?_
    refine o_unguard 27 rfl rfl ?_
    refine o_pure (p_move (v := .slice al l.length cl) rfl) rfl rfl rfl ?_
    refine o_unguard 27 rfl rfl ?_
    refine o_pure (p_len_slice (len := l.length) rfl rfl Try.underlying43) rfl rfl rfl ?_
    refine o_unguard 27 rfl rfl ?_
    refine o_pure (p_ge (p := at_) (q := (l.length : Int)) rfl rfl) rfl rfl rfl ?_
    refine o_pure (p_pick_false (v := .bool (decide ((l.length : Int) ≤ at_))) rfl rfl) rfl rfl rfl ?_
    exact o_sub (Sub.cons rfl (Sub.skip rfl (Sub.skip rfl (Sub.skip rfl (Sub.skip rfl (Sub.skip rfl (Sub.skip rfl (Sub.refl _)))))))) hk
  · intro hb1 hk
    refine o_guard_no rfl 27 rfl rfl rfl rfl rfl ?_
    refine o_guard_no rfl 27 rfl rfl rfl rfl rfl ?_
    refine o_guard_no rfl 27 rfl rfl rfl rfl rfl ?_
    refine o_guard_no rfl 27 rfl rfl rfl rfl rfl ?_
    refine o_pure (p_pick_true (u := .bool true) rfl rfl) rfl rfl rfl ?_
    exact o_sub (Sub.cons rfl (Sub.skip rfl (Sub.skip rfl (Sub.skip rfl (Sub.skip rfl (Sub.skip rfl (Sub.skip rfl (Sub.refl _)))))))) hk
  refine o_pure (p_move (v := .bool (decide (at_ < 0) || decide ((l.length : Int) ≤ at_))) rfl) rfl rfl rfl ?_
  refine o_or (p := 37) 4 (decide ((l.length : Int) < 2)) ?_ ?_ ?_
  · intro hb2 hk
    simp only [Bool.or_eq_false_iff, decide_eq_false_iff_not, Int.not_lt, Int.not_le] at hb2
    refine o_unguard 33 rfl rfl ?_
    refine o_pure (p_move (v := .slice al l.length cl) rfl) rfl rfl rfl ?_
    refine o_unguard 33 rfl rfl ?_
    refine o_pure (p_len_slice (len := l.length) rfl rfl Try.underlying43) rfl rfl rfl ?_
    refine o_unguard 33 rfl rfl ?_
    refine o_pure (p_lt (p := (l.length : Int)) (q := 2) rfl rfl) rfl rfl rfl ?_
    refine o_pure (p_pick_false (v := .bool (decide ((l.length : Int) < 2))) rfl rfl) rfl rfl rfl ?_
    exact o_sub (Sub.cons rfl (Sub.skip rfl (Sub.skip rfl (Sub.skip rfl (Sub.skip rfl (Sub.skip rfl (Sub.refl _))))))) hk
  · intro hb2 hk
    refine o_guard_no rfl 33 rfl rfl rfl rfl rfl ?_
    refine o_guard_no rfl 33 rfl rfl rfl rfl rfl ?_
    refine o_guard_no rfl 33 rfl rfl rfl rfl rfl ?_
    refine o_pure (p_pick_true (u := .bool true) rfl rfl) rfl rfl rfl ?_
    exact o_sub (Sub.cons rfl (Sub.skip rfl (Sub.skip rfl (Sub.skip rfl (Sub.skip rfl (Sub.skip rfl (Sub.refl _))))))) hk
  refine o_nil ?_
  refine q_then ?_
  refine c_cond (b := ((decide (at_ < 0) || decide ((l.length : Int) ≤ at_)) || decide ((l.length : Int) < 2))) rfl (fun hc3 => ?_) (fun hc3 => ?_)
  · simp only [Bool.or_eq_true, decide_eq_true_eq] at hc3
    refine c_seq ?_
    refine c_region ?_
    refine o_pure (p_assign (v := .bool true) rfl) rfl rfl rfl ?_
    refine o_nil ?_
    refine q_then ?_
    refine c_ret ?_
    refine q_then_ret ?_
    refine q_end0 (v := .bool true) (rt1 rfl (r_tmp rfl)) (i := 0) rfl ?_
    exact rfl
  · simp only [Bool.or_eq_false_iff, decide_eq_false_iff_not, Int.not_lt, Int.not_le] at hc3
    refine c_skip ?_
    refine q_then ?_
    refine c_seq ?_
    refine c_held hmix [base w0] rfl rfl ?_
    refine h_take (i := 1) (ls := #[false, true, false, false, false, false, false, false, false, false, false]) rfl (by kernel_rfl) (by kernel_rfl) (by kernel_rfl) (fun _ _ _ h => h) (p_move (v := .slice al l.length cl) rfl) rfl rfl rfl (fun _ hw => HeapIs.drop hw (List.Sublist.refl _)) rfl ?_
    refine h_take (i := 2) (ls := #[false, true, true, false, false, false, false, false, false, false, false]) rfl (by kernel_rfl) (by kernel_rfl) (by kernel_rfl) (fun _ _ _ h => h) (p_move (v := .int .i64 at_) rfl) rfl rfl rfl (fun _ hw => HeapIs.drop hw (List.Sublist.refl _)) rfl ?_
    refine h_take (i := 3) (ls := #[false, true, true, true, false, false, false, false, false, false, false]) rfl (by kernel_rfl) (by kernel_rfl) (by kernel_rfl) (fun _ _ _ h => h) (p_sliceH (L := l) (T := tShard) (h := at_) rfl rfl Try.underlying43 sz50 (by omega) (by omega) (rd_base (i := 0) rfl hl)) rfl rfl rfl (fun _ hw => HeapIs.drop hw (List.Sublist.refl _)) rfl ?_
    refine h_take (i := 5) (ls := #[false, true, true, true, false, true, false, false, false, false, false]) rfl (by kernel_rfl) (by kernel_rfl) (by kernel_rfl) (fun _ _ _ h => h) (p_move (v := .slice al l.length cl) rfl) rfl rfl rfl (fun _ hw => HeapIs.drop hw (List.Sublist.refl _)) rfl ?_
    refine h_take (i := 6) (ls := #[false, true, true, true, false, true, true, false, false, false, false]) rfl (by kernel_rfl) (by kernel_rfl) (by kernel_rfl) (fun _ _ _ h => h) (p_move (v := .int .i64 at_) rfl) rfl rfl rfl (fun _ hw => HeapIs.drop hw (List.Sublist.refl _)) rfl ?_
    refine h_take (i := 7) (ls := #[false, true, true, true, false, true, true, true, false, false, false]) rfl (by kernel_rfl) (by kernel_rfl) (by kernel_rfl) (fun _ _ _ h => h) (p_addb (p := at_) (q := 1) rfl rfl (by omega)) rfl rfl rfl (fun _ hw => HeapIs.drop hw (List.Sublist.refl _)) rfl ?_
    refine h_take (i := 8) (ls := #[false, true, true, true, false, true, true, true, true, false, false]) rfl (by kernel_rfl) (by kernel_rfl) (by kernel_rfl) (fun _ _ _ h => h) (p_sliceL (L := l) (T := tShard) (l := (at_ + 1)) rfl rfl Try.underlying43 sz50 (by omega) (by omega) (rd_base (i := 0) rfl hl)) rfl rfl rfl (fun _ hw => HeapIs.drop hw (List.Sublist.refl _)) rfl ?_
    refine h_one (i := 0) (ls := #[true, true, true, true, false, true, true, true, true, false, false]) (by kernel_rfl) rfl rfl ?_
    refine o_buildSlice (m := 0) (T := tShard) (L := []) (vs := []) rfl rfl rfl rfl Try.underlying43 sz50 (by decide) ze50 rfl (by decide) rfl (fun S4_0 a4_0 => ?_)
    refine o_nil ?_
    refine h_next (fun _ hw => HeapIs.drop hw (List.Sublist.cons _ (List.Sublist.cons_cons _ (List.Sublist.slnil)))) ?_
    refine h_one (i := 4) (ls := #[true, true, true, true, true, true, true, true, true, false, false]) (by kernel_rfl) rfl rfl ?_
    refine o_append (i := 0) (L := []) (M := (l.take at_.toNat)) (T := tShard) rfl rfl rfl (rd_takeC (hi := at_.toNat) (rd_base (i := 1) rfl hl) (by omega)) Try.underlying43 Try.underlying43 (by intro k h; cases h) el50 (by intro z; simp [tShard, one1]) (by decide) (by first | omega | (simp only [List.length_cons, List.length_nil]; omega) | (simp only [List.length_append, List.length_cons, List.length_nil, List.length_take, List.length_drop]; omega)) rfl (fun a4_4 c4_4 S4_4 => ?_)
    refine o_nil ?_
    refine h_next (fun _ hw => HeapIs.drop hw (List.Sublist.cons _ (List.Sublist.cons_cons _ (List.Sublist.slnil)))) ?_
    refine h_one (i := 9) (ls := #[true, true, true, true, true, true, true, true, true, true, false]) (by kernel_rfl) rfl rfl ?_
    refine o_append (i := 0) (L := (l.take at_.toNat)) (M := (l.drop ((at_ + 1).toNat))) (T := tShard) rfl rfl rfl (rd_dropC (l := (at_ + 1).toNat) (rd_base (i := 1) rfl hl) (by omega)) Try.underlying43 Try.underlying43 (by intro k h; cases h) el50 (by intro z; simp [tShard, one1]) (by decide) (by first | omega | (simp only [List.length_cons, List.length_nil]; omega) | (simp only [List.length_append, List.length_cons, List.length_nil, List.length_take, List.length_drop]; omega)) rfl (fun a4_9 c4_9 S4_9 => ?_)
    refine o_nil ?_
    refine h_next (fun _ hw => HeapIs.drop hw (List.Sublist.cons _ (List.Sublist.cons_cons _ (List.Sublist.slnil)))) ?_
    refine h_take (i := 10) (ls := #[true, true, true, true, true, true, true, true, true, true, true]) rfl (by kernel_rfl) (by kernel_rfl) (by kernel_rfl) (fun _ _ _ h => h) (p_assign (v := .slice a4_9 ((l.take at_.toNat) ++ (l.drop ((at_ + 1).toNat))).length c4_9) rfl) rfl rfl rfl (fun _ hw => HeapIs.drop hw (List.Sublist.cons _ (List.Sublist.cons_cons _ (List.Sublist.slnil)))) rfl ?_
    refine h_done (by kernel_rfl) ?_
    refine q_then ?_
    refine c_seq ?_
    refine c_region ?_
    refine o_pure (p_move (v := .slice al l.length cl) rfl) rfl rfl rfl ?_
    refine o_pure (p_move (v := .slice a4_9 ((l.take at_.toNat) ++ (l.drop ((at_ + 1).toNat))).length c4_9) rfl) rfl rfl rfl ?_
    refine o_pure (p_move (v := .slice akeys (keys.take ((min (keys.length : Int) 40).toNat)).length ckeys) rfl) rfl rfl rfl ?_
    refine o_callM rfl (smoved_ok l al cl ((l.take at_.toNat) ++ (l.drop ((at_ + 1).toNat))) a4_9 c4_9 (keys.take ((min (keys.length : Int) 40).toNat)) akeys ckeys) hf27 (fun w hw => ⟨(rd_base (i := 1) rfl hl) w hw, (rd_own (i := 0) rfl) w hw, (rd_takeC (hi := (min (keys.length : Int) 40).toNat) (rd_base (i := 1) rfl hkeys) (by omega)) w hw⟩) rfl (fun _ _ _ _ ha hA => SlO.agree ha hA) ?_
    rintro ⟨a7, c8⟩ S5
    refine o_know (fun w hw => own_len (i := 0) (T := tInt) hw rfl) (fun hlr9 => ?_)
    refine o_pure (p_move (v := .tuple #[.slice a7 (Shd.moved l ((l.take at_.toNat) ++ (l.drop ((at_ + 1).toNat))) (keys.take ((min (keys.length : Int) 40).toNat))).length c8, .int .i64 (Shd.movErr l ((l.take at_.toNat) ++ (l.drop ((at_ + 1).toNat))) (keys.take ((min (keys.length : Int) 40).toNat)))]) rfl) rfl rfl rfl ?_
    refine o_pure (p_extract (vs := [.slice a7 (Shd.moved l ((l.take at_.toNat) ++ (l.drop ((at_ + 1).toNat))) (keys.take ((min (keys.length : Int) 40).toNat))).length c8, .int .i64 (Shd.movErr l ((l.take at_.toNat) ++ (l.drop ((at_ + 1).toNat))) (keys.take ((min (keys.length : Int) 40).toNat)))]) (v := .slice a7 (Shd.moved l ((l.take at_.toNat) ++ (l.drop ((at_ + 1).toNat))) (keys.take ((min (keys.length : Int) 40).toNat))).length c8) rfl rfl) rfl rfl rfl ?_
    refine o_pure (p_extract (vs := [.slice a7 (Shd.moved l ((l.take at_.toNat) ++ (l.drop ((at_ + 1).toNat))) (keys.take ((min (keys.length : Int) 40).toNat))).length c8, .int .i64 (Shd.movErr l ((l.take at_.toNat) ++ (l.drop ((at_ + 1).toNat))) (keys.take ((min (keys.length : Int) 40).toNat)))]) (v := .int .i64 (Shd.movErr l ((l.take at_.toNat) ++ (l.drop ((at_ + 1).toNat))) (keys.take ((min (keys.length : Int) 40).toNat)))) rfl rfl) rfl rfl rfl ?_
    refine o_pure (p_assign (v := .slice a7 (Shd.moved l ((l.take at_.toNat) ++ (l.drop ((at_ + 1).toNat))) (keys.take ((min (keys.length : Int) 40).toNat))).length c8) rfl) rfl rfl rfl ?_
    refine o_pure (p_assign (v := .int .i64 (Shd.movErr l ((l.take at_.toNat) ++ (l.drop ((at_ + 1).toNat))) (keys.take ((min (keys.length : Int) 40).toNat)))) rfl) rfl rfl rfl ?_
    refine o_nil ?_
    refine q_then ?_
    refine c_seq ?_
    refine c_region ?_
    refine o_pure (p_move (v := .slice a4_9 ((l.take at_.toNat) ++ (l.drop ((at_ + 1).toNat))).length c4_9) rfl) rfl rfl rfl ?_
    refine o_pure (p_move (v := .slice al l.length cl) rfl) rfl rfl rfl ?_
    refine o_pure (p_move (v := .slice akeys (keys.take ((min (keys.length : Int) 40).toNat)).length ckeys) rfl) rfl rfl rfl ?_
    refine o_callM rfl (smoved_ok ((l.take at_.toNat) ++ (l.drop ((at_ + 1).toNat))) a4_9 c4_9 l al cl (keys.take ((min (keys.length : Int) 40).toNat)) akeys ckeys) hf27 (fun w hw => ⟨(rd_own (i := 1) rfl) w hw, (rd_base (i := 2) rfl hl) w hw, (rd_takeC (hi := (min (keys.length : Int) 40).toNat) (rd_base (i := 2) rfl hkeys) (by omega)) w hw⟩) rfl (fun _ _ _ _ ha hA => SlO.agree ha hA) ?_
    rintro ⟨a12, c13⟩ S10
    refine o_know (fun w hw => own_len (i := 0) (T := tInt) hw rfl) (fun hlr14 => ?_)
    refine o_pure (p_move (v := .tuple #[.slice a12 (Shd.moved ((l.take at_.toNat) ++ (l.drop ((at_ + 1).toNat))) l (keys.take ((min (keys.length : Int) 40).toNat))).length c13, .int .i64 (Shd.movErr ((l.take at_.toNat) ++ (l.drop ((at_ + 1).toNat))) l (keys.take ((min (keys.length : Int) 40).toNat)))]) rfl) rfl rfl rfl ?_
    refine o_pure (p_extract (vs := [.slice a12 (Shd.moved ((l.take at_.toNat) ++ (l.drop ((at_ + 1).toNat))) l (keys.take ((min (keys.length : Int) 40).toNat))).length c13, .int .i64 (Shd.movErr ((l.take at_.toNat) ++ (l.drop ((at_ + 1).toNat))) l (keys.take ((min (keys.length : Int) 40).toNat)))]) (v := .slice a12 (Shd.moved ((l.take at_.toNat) ++ (l.drop ((at_ + 1).toNat))) l (keys.take ((min (keys.length : Int) 40).toNat))).length c13) rfl rfl) rfl rfl rfl ?_
    refine o_pure (p_extract (vs := [.slice a12 (Shd.moved ((l.take at_.toNat) ++ (l.drop ((at_ + 1).toNat))) l (keys.take ((min (keys.length : Int) 40).toNat))).length c13, .int .i64 (Shd.movErr ((l.take at_.toNat) ++ (l.drop ((at_ + 1).toNat))) l (keys.take ((min (keys.length : Int) 40).toNat)))]) (v := .int .i64 (Shd.movErr ((l.take at_.toNat) ++ (l.drop ((at_ + 1).toNat))) l (keys.take ((min (keys.length : Int) 40).toNat)))) rfl rfl) rfl rfl rfl ?_
    refine o_pure (p_assign (v := .slice a12 (Shd.moved ((l.take at_.toNat) ++ (l.drop ((at_ + 1).toNat))) l (keys.take ((min (keys.length : Int) 40).toNat))).length c13) rfl) rfl rfl rfl ?_
    refine o_pure (p_assign (v := .int .i64 (Shd.movErr ((l.take at_.toNat) ++ (l.drop ((at_ + 1).toNat))) l (keys.take ((min (keys.length : Int) 40).toNat)))) rfl) rfl rfl rfl ?_
    refine o_nil ?_
    refine q_then ?_
    refine c_seq ?_
    refine c_seq ?_
    refine c_region ?_
    refine o_pure (p_move (v := .int .i64 (Shd.movErr l ((l.take at_.toNat) ++ (l.drop ((at_ + 1).toNat))) (keys.take ((min (keys.length : Int) 40).toNat)))) rfl) rfl rfl rfl ?_
    refine o_pure (p_ne (p := (Shd.movErr l ((l.take at_.toNat) ++ (l.drop ((at_ + 1).toNat))) (keys.take ((min (keys.length : Int) 40).toNat)))) (q := 0) rfl rfl) rfl rfl rfl ?_
    refine o_pure (p_move (v := .bool ((Shd.movErr l ((l.take at_.toNat) ++ (l.drop ((at_ + 1).toNat))) (keys.take ((min (keys.length : Int) 40).toNat))) != 0)) rfl) rfl rfl rfl ?_
    refine o_or (p := 67) 3 ((Shd.movErr ((l.take at_.toNat) ++ (l.drop ((at_ + 1).toNat))) l (keys.take ((min (keys.length : Int) 40).toNat))) != 0) ?_ ?_ ?_
    · intro hb15 hk
      simp only [bne_eq_false_iff_eq] at hb15
      refine o_unguard 64 rfl rfl ?_
      refine o_pure (p_move (v := .int .i64 (Shd.movErr ((l.take at_.toNat) ++ (l.drop ((at_ + 1).toNat))) l (keys.take ((min (keys.length : Int) 40).toNat)))) rfl) rfl rfl rfl ?_
      refine o_unguard 64 rfl rfl ?_
      refine o_pure (p_ne (p := (Shd.movErr ((l.take at_.toNat) ++ (l.drop ((at_ + 1).toNat))) l (keys.take ((min (keys.length : Int) 40).toNat)))) (q := 0) rfl rfl) rfl rfl rfl ?_
      refine o_pure (p_pick_false (v := .bool ((Shd.movErr ((l.take at_.toNat) ++ (l.drop ((at_ + 1).toNat))) l (keys.take ((min (keys.length : Int) 40).toNat))) != 0)) rfl rfl) rfl rfl rfl ?_
      exact o_sub (Sub.cons rfl (Sub.skip rfl (Sub.skip rfl (Sub.skip rfl (Sub.skip rfl (Sub.refl _)))))) hk
    · intro hb15 hk
      refine o_guard_no rfl 64 rfl rfl rfl rfl rfl ?_
      refine o_guard_no rfl 64 rfl rfl rfl rfl rfl ?_
      refine o_pure (p_pick_true (u := .bool true) rfl rfl) rfl rfl rfl ?_
      exact o_sub (Sub.cons rfl (Sub.skip rfl (Sub.skip rfl (Sub.skip rfl (Sub.skip rfl (Sub.refl _)))))) hk
    refine o_nil ?_
    refine q_then ?_
    refine c_cond (b := (((Shd.movErr l ((l.take at_.toNat) ++ (l.drop ((at_ + 1).toNat))) (keys.take ((min (keys.length : Int) 40).toNat))) != 0) || ((Shd.movErr ((l.take at_.toNat) ++ (l.drop ((at_ + 1).toNat))) l (keys.take ((min (keys.length : Int) 40).toNat))) != 0))) rfl (fun hc16 => ?_) (fun hc16 => ?_)
    · simp only [Bool.or_eq_true, bne_iff_ne, ne_eq] at hc16
      have hbad := hc16
      refine c_seq ?_
      refine c_region ?_
      refine o_pure (p_move (v := .slice a7 (Shd.moved l ((l.take at_.toNat) ++ (l.drop ((at_ + 1).toNat))) (keys.take ((min (keys.length : Int) 40).toNat))).length c8) rfl) rfl rfl rfl ?_
      refine o_pure (p_len_slice (len := (Shd.moved l ((l.take at_.toNat) ++ (l.drop ((at_ + 1).toNat))) (keys.take ((min (keys.length : Int) 40).toNat))).length) rfl rfl Try.underlying45) rfl rfl rfl ?_
      refine o_pure (p_move (v := .slice a12 (Shd.moved ((l.take at_.toNat) ++ (l.drop ((at_ + 1).toNat))) l (keys.take ((min (keys.length : Int) 40).toNat))).length c13) rfl) rfl rfl rfl ?_
      refine o_pure (p_len_slice (len := (Shd.moved ((l.take at_.toNat) ++ (l.drop ((at_ + 1).toNat))) l (keys.take ((min (keys.length : Int) 40).toNat))).length) rfl rfl Try.underlying45) rfl rfl rfl ?_
      refine o_pure (p_addb (p := ((Shd.moved l ((l.take at_.toNat) ++ (l.drop ((at_ + 1).toNat))) (keys.take ((min (keys.length : Int) 40).toNat))).length : Int)) (q := ((Shd.moved ((l.take at_.toNat) ++ (l.drop ((at_ + 1).toNat))) l (keys.take ((min (keys.length : Int) 40).toNat))).length : Int)) rfl rfl (by omega)) rfl rfl rfl ?_
      refine o_pure (p_eq (p := (((Shd.moved l ((l.take at_.toNat) ++ (l.drop ((at_ + 1).toNat))) (keys.take ((min (keys.length : Int) 40).toNat))).length : Int) + ((Shd.moved ((l.take at_.toNat) ++ (l.drop ((at_ + 1).toNat))) l (keys.take ((min (keys.length : Int) 40).toNat))).length : Int))) (q := 0) rfl rfl) rfl rfl rfl ?_
      refine o_pure (p_move (v := .bool ((((Shd.moved l ((l.take at_.toNat) ++ (l.drop ((at_ + 1).toNat))) (keys.take ((min (keys.length : Int) 40).toNat))).length : Int) + ((Shd.moved ((l.take at_.toNat) ++ (l.drop ((at_ + 1).toNat))) l (keys.take ((min (keys.length : Int) 40).toNat))).length : Int)) == 0)) rfl) rfl rfl rfl ?_
      refine o_or (p := 78) 4 ((Shd.movErr l ((l.take at_.toNat) ++ (l.drop ((at_ + 1).toNat))) (keys.take ((min (keys.length : Int) 40).toNat))) != (Shd.movErr ((l.take at_.toNat) ++ (l.drop ((at_ + 1).toNat))) l (keys.take ((min (keys.length : Int) 40).toNat)))) ?_ ?_ ?_
      · intro hb17 hk
        simp only [beq_eq_false_iff_ne, ne_eq] at hb17
        refine o_unguard 74 rfl rfl ?_
        refine o_pure (p_move (v := .int .i64 (Shd.movErr l ((l.take at_.toNat) ++ (l.drop ((at_ + 1).toNat))) (keys.take ((min (keys.length : Int) 40).toNat)))) rfl) rfl rfl rfl ?_
        refine o_unguard 74 rfl rfl ?_
        refine o_pure (p_move (v := .int .i64 (Shd.movErr ((l.take at_.toNat) ++ (l.drop ((at_ + 1).toNat))) l (keys.take ((min (keys.length : Int) 40).toNat)))) rfl) rfl rfl rfl ?_
        refine o_unguard 74 rfl rfl ?_
        refine o_pure (p_ne (p := (Shd.movErr l ((l.take at_.toNat) ++ (l.drop ((at_ + 1).toNat))) (keys.take ((min (keys.length : Int) 40).toNat)))) (q := (Shd.movErr ((l.take at_.toNat) ++ (l.drop ((at_ + 1).toNat))) l (keys.take ((min (keys.length : Int) 40).toNat)))) rfl rfl) rfl rfl rfl ?_
        refine o_pure (p_pick_false (v := .bool ((Shd.movErr l ((l.take at_.toNat) ++ (l.drop ((at_ + 1).toNat))) (keys.take ((min (keys.length : Int) 40).toNat))) != (Shd.movErr ((l.take at_.toNat) ++ (l.drop ((at_ + 1).toNat))) l (keys.take ((min (keys.length : Int) 40).toNat))))) rfl rfl) rfl rfl rfl ?_
        exact o_sub (Sub.cons rfl (Sub.skip rfl (Sub.skip rfl (Sub.skip rfl (Sub.skip rfl (Sub.skip rfl (Sub.refl _))))))) hk
      · intro hb17 hk
        refine o_guard_no rfl 74 rfl rfl rfl rfl rfl ?_
        refine o_guard_no rfl 74 rfl rfl rfl rfl rfl ?_
        refine o_guard_no rfl 74 rfl rfl rfl rfl rfl ?_
        refine o_pure (p_pick_true (u := .bool true) rfl rfl) rfl rfl rfl ?_
        exact o_sub (Sub.cons rfl (Sub.skip rfl (Sub.skip rfl (Sub.skip rfl (Sub.skip rfl (Sub.skip rfl (Sub.refl _))))))) hk
      refine o_pure (p_assign (v := .bool (((((Shd.moved l ((l.take at_.toNat) ++ (l.drop ((at_ + 1).toNat))) (keys.take ((min (keys.length : Int) 40).toNat))).length : Int) + ((Shd.moved ((l.take at_.toNat) ++ (l.drop ((at_ + 1).toNat))) l (keys.take ((min (keys.length : Int) 40).toNat))).length : Int)) == 0) || ((Shd.movErr l ((l.take at_.toNat) ++ (l.drop ((at_ + 1).toNat))) (keys.take ((min (keys.length : Int) 40).toNat))) != (Shd.movErr ((l.take at_.toNat) ++ (l.drop ((at_ + 1).toNat))) l (keys.take ((min (keys.length : Int) 40).toNat)))))) rfl) rfl rfl rfl ?_
      refine o_nil ?_
      refine q_then ?_
      refine c_ret ?_
      refine q_then_ret ?_
      have hr0 : ((((((Shd.moved l ((l.take at_.toNat) ++ (l.drop ((at_ + 1).toNat))) (keys.take ((min (keys.length : Int) 40).toNat))).length : Int) + ((Shd.moved ((l.take at_.toNat) ++ (l.drop ((at_ + 1).toNat))) l (keys.take ((min (keys.length : Int) 40).toNat))).length : Int)) == 0) || ((Shd.movErr l ((l.take at_.toNat) ++ (l.drop ((at_ + 1).toNat))) (keys.take ((min (keys.length : Int) 40).toNat))) != (Shd.movErr ((l.take at_.toNat) ++ (l.drop ((at_ + 1).toNat))) l (keys.take ((min (keys.length : Int) 40).toNat))))) : Bool) = true := by
        first | rfl | exact Shd.min_bad hbad
      refine q_end0 (v := .bool (((((Shd.moved l ((l.take at_.toNat) ++ (l.drop ((at_ + 1).toNat))) (keys.take ((min (keys.length : Int) 40).toNat))).length : Int) + ((Shd.moved ((l.take at_.toNat) ++ (l.drop ((at_ + 1).toNat))) l (keys.take ((min (keys.length : Int) 40).toNat))).length : Int)) == 0) || ((Shd.movErr l ((l.take at_.toNat) ++ (l.drop ((at_ + 1).toNat))) (keys.take ((min (keys.length : Int) 40).toNat))) != (Shd.movErr ((l.take at_.toNat) ++ (l.drop ((at_ + 1).toNat))) l (keys.take ((min (keys.length : Int) 40).toNat)))))) (rt1 rfl (r_tmp rfl)) (i := 3) rfl ?_
      exact (by have hcc := congrArg (fun (y0 : Bool) => (.bool y0 : Value)) hr0; exact hcc)
    · simp only [Bool.or_eq_false_iff, bne_eq_false_iff_eq] at hc16
      obtain ⟨z1, z2⟩ := hc16
      have hll : ((l.take at_.toNat) ++ (l.drop (at_ + 1).toNat)).length + 1 = l.length := Shd.less_len ⟨by omega, by omega⟩
      refine c_skip ?_
      refine q_then ?_
      refine c_seq ?_
      refine c_seq ?_
      refine c_region ?_
      refine o_pure (p_assign (v := .int .i64 0) rfl) rfl rfl rfl ?_
      refine o_nil ?_
      refine q_then ?_
      refine c_block ?_
      refine c_loop (St := Nat)
        (fun i => [(0, .slice al l.length cl), (1, .int .i64 at_), (2, .slice akeys (keys.take ((min (keys.length : Int) 40).toNat)).length ckeys), (7, .slice a4_9 ((l.take at_.toNat) ++ (l.drop ((at_ + 1).toNat))).length c4_9), (8, .slice a7 (Shd.moved l ((l.take at_.toNat) ++ (l.drop ((at_ + 1).toNat))) (keys.take ((min (keys.length : Int) 40).toNat))).length c8), (10, .slice a12 (Shd.moved ((l.take at_.toNat) ++ (l.drop ((at_ + 1).toNat))) l (keys.take ((min (keys.length : Int) 40).toNat))).length c13), (12, .int .i64 (i : Int))])
        (fun i => [own tInt S10 a12 c13 (Shd.moved ((l.take at_.toNat) ++ (l.drop ((at_ + 1).toNat))) l (keys.take ((min (keys.length : Int) 40).toNat))), own tInt S5 a7 c8 (Shd.moved l ((l.take at_.toNat) ++ (l.drop ((at_ + 1).toNat))) (keys.take ((min (keys.length : Int) 40).toNat))), own tShard S4_9 a4_9 c4_9 ((l.take at_.toNat) ++ (l.drop ((at_ + 1).toNat))), base w0])
        (fun i => i ≤ (keys.take (min (keys.length : Int) 40).toNat).length)
        (fun i => (keys.take (min (keys.length : Int) 40).toNat).length - i)
        0 ?_ (Sub.cons rfl (Sub.cons rfl (Sub.cons rfl (Sub.cons rfl (Sub.cons rfl (Sub.cons rfl (Sub.cons rfl (Sub.nil _)))))))) (fun _ hw => hw) ?_
      · exact Nat.zero_le _
      rintro i hI K hK18
      show SC _ _ Try.prog 200 w0 _ _ [(0, .slice al l.length cl), (1, .int .i64 at_), (2, .slice akeys (keys.take ((min (keys.length : Int) 40).toNat)).length ckeys), (7, .slice a4_9 ((l.take at_.toNat) ++ (l.drop ((at_ + 1).toNat))).length c4_9), (8, .slice a7 (Shd.moved l ((l.take at_.toNat) ++ (l.drop ((at_ + 1).toNat))) (keys.take ((min (keys.length : Int) 40).toNat))).length c8), (10, .slice a12 (Shd.moved ((l.take at_.toNat) ++ (l.drop ((at_ + 1).toNat))) l (keys.take ((min (keys.length : Int) 40).toNat))).length c13), (12, .int .i64 (i : Int))] [own tInt S10 a12 c13 (Shd.moved ((l.take at_.toNat) ++ (l.drop ((at_ + 1).toNat))) l (keys.take ((min (keys.length : Int) 40).toNat))), own tInt S5 a7 c8 (Shd.moved l ((l.take at_.toNat) ++ (l.drop ((at_ + 1).toNat))) (keys.take ((min (keys.length : Int) 40).toNat))), own tShard S4_9 a4_9 c4_9 ((l.take at_.toNat) ++ (l.drop ((at_ + 1).toNat))), base w0]
      refine c_seq ?_
      refine c_seq ?_
      refine c_region ?_
      refine o_pure (p_move (v := .int .i64 (i : Int)) rfl) rfl rfl rfl ?_
      refine o_pure (p_move (v := .slice akeys (keys.take ((min (keys.length : Int) 40).toNat)).length ckeys) rfl) rfl rfl rfl ?_
      refine o_pure (p_len_slice (len := (keys.take ((min (keys.length : Int) 40).toNat)).length) rfl rfl Try.underlying44) rfl rfl rfl ?_
      refine o_pure (p_lt (p := (i : Int)) (q := ((keys.take ((min (keys.length : Int) 40).toNat)).length : Int)) rfl rfl) rfl rfl rfl ?_
      refine o_nil ?_
      refine q_then ?_
      refine c_cond (b := decide ((i : Int) < ((keys.take ((min (keys.length : Int) 40).toNat)).length : Int))) rfl (fun hc19 => ?_) (fun hc19 => ?_)
      · simp only [decide_eq_true_eq] at hc19
        have hmn := Shd.minimal (l := l) (at_ := at_) (ks := (keys.take (min (keys.length : Int) 40).toNat)) (i := i) ⟨by omega, by omega⟩ (by omega) z1 z2 (by omega)
        have f1 : Shd.ownErr ((l.take at_.toNat) ++ (l.drop (at_ + 1).toNat)) ((keys.take (min (keys.length : Int) 40).toNat).getD i default) = 0 := hmn.h
        have f2 : 0 ≤ Shd.owner ((l.take at_.toNat) ++ (l.drop (at_ + 1).toNat)) ((keys.take (min (keys.length : Int) 40).toNat).getD i default) ∧ Shd.owner ((l.take at_.toNat) ++ (l.drop (at_ + 1).toNat)) ((keys.take (min (keys.length : Int) 40).toNat).getD i default) < (((l.take at_.toNat) ++ (l.drop (at_ + 1).toNat)).length : Int) := hmn.k
        have f3 := hmn.g
        have f4 := hmn.len
        have f5 := hmn.b0
        have f6 := hmn.b1
        have f7 : Ref.hasInt (Shd.moved l ((l.take at_.toNat) ++ (l.drop (at_ + 1).toNat)) (keys.take (min (keys.length : Int) 40).toNat)) (i : Int) = ((Shd.owners l ((keys.take (min (keys.length : Int) 40).toNat).getD i default) 2).getD 0 default == at_) := hmn.m
        have f8 : Ref.hasInt (Shd.moved ((l.take at_.toNat) ++ (l.drop (at_ + 1).toNat)) l (keys.take (min (keys.length : Int) 40).toNat)) (i : Int) = ((Shd.owners l ((keys.take (min (keys.length : Int) 40).toNat).getD i default) 2).getD 0 default == at_) := hmn.n
        refine c_skip ?_
        refine q_then ?_
        refine c_seq ?_
        refine c_block ?_
        refine c_seq ?_
        refine c_region ?_
        refine o_pure (p_move (v := .slice al l.length cl) rfl) rfl rfl rfl ?_
        refine o_pure (p_move (v := .slice akeys (keys.take ((min (keys.length : Int) 40).toNat)).length ckeys) rfl) rfl rfl rfl ?_
        refine o_pure (p_move (v := .int .i64 (i : Int)) rfl) rfl rfl rfl ?_
        refine o_pure (p_indexAddr (L := (keys.take ((min (keys.length : Int) 40).toNat))) (T := tStr) (i := (i : Int)) rfl rfl (rd_takeC (hi := (min (keys.length : Int) 40).toNat) (rd_base (i := 3) rfl hkeys) (by omega)) Try.underlying44 sz9 (by omega) (by omega)) rfl rfl rfl ?_
        refine o_pure (p_loadE1 (i := i) (T := tStr) (L := (keys.take ((min (keys.length : Int) 40).toNat))) (v := .string ((keys.take ((min (keys.length : Int) 40).toNat)).getD i default)) rfl (rd_takeC (hi := (min (keys.length : Int) 40).toNat) (rd_base (i := 3) rfl hkeys) (by omega)) (by first | assumption | omega) sh9 (congrArg tStr.enc (getd_at (by first | assumption | omega) default))) rfl rfl rfl ?_
        refine o_callM rfl (sowners_ok l al cl ((keys.take ((min (keys.length : Int) 40).toNat)).getD i default) (2 : Int)) hf32 (fun w hw => (rd_base (i := 3) rfl hl) w hw) rfl (fun _ _ _ _ ha hA => SlO.agree ha hA) ?_
        rintro ⟨a22, c23⟩ S20
        refine o_know (fun w hw => own_len (i := 0) (T := tInt) hw rfl) (fun hlr24 => ?_)
        refine o_pure (p_move (v := .tuple #[.slice a22 (Shd.owners l ((keys.take ((min (keys.length : Int) 40).toNat)).getD i default) (2 : Int)).length c23, .int .i64 (Shd.ownsErr l ((keys.take ((min (keys.length : Int) 40).toNat)).getD i default) (2 : Int))]) rfl) rfl rfl rfl ?_
        refine o_pure (p_extract (vs := [.slice a22 (Shd.owners l ((keys.take ((min (keys.length : Int) 40).toNat)).getD i default) (2 : Int)).length c23, .int .i64 (Shd.ownsErr l ((keys.take ((min (keys.length : Int) 40).toNat)).getD i default) (2 : Int))]) (v := .slice a22 (Shd.owners l ((keys.take ((min (keys.length : Int) 40).toNat)).getD i default) (2 : Int)).length c23) rfl rfl) rfl rfl rfl ?_
        refine o_pure (p_extract (vs := [.slice a22 (Shd.owners l ((keys.take ((min (keys.length : Int) 40).toNat)).getD i default) (2 : Int)).length c23, .int .i64 (Shd.ownsErr l ((keys.take ((min (keys.length : Int) 40).toNat)).getD i default) (2 : Int))]) (v := .int .i64 (Shd.ownsErr l ((keys.take ((min (keys.length : Int) 40).toNat)).getD i default) (2 : Int))) rfl rfl) rfl rfl rfl ?_
        refine o_pure (p_assign (v := .slice a22 (Shd.owners l ((keys.take ((min (keys.length : Int) 40).toNat)).getD i default) (2 : Int)).length c23) rfl) rfl rfl rfl ?_
        refine o_pure (p_assign (v := .int .i64 (Shd.ownsErr l ((keys.take ((min (keys.length : Int) 40).toNat)).getD i default) (2 : Int))) rfl) rfl rfl rfl ?_
        refine o_nil ?_
        refine q_then ?_
        refine c_seq ?_
        refine c_region ?_
        refine o_pure (p_move (v := .slice a4_9 ((l.take at_.toNat) ++ (l.drop ((at_ + 1).toNat))).length c4_9) rfl) rfl rfl rfl ?_
        refine o_pure (p_move (v := .slice akeys (keys.take ((min (keys.length : Int) 40).toNat)).length ckeys) rfl) rfl rfl rfl ?_
        refine o_pure (p_move (v := .int .i64 (i : Int)) rfl) rfl rfl rfl ?_
        refine o_pure (p_indexAddr (L := (keys.take ((min (keys.length : Int) 40).toNat))) (T := tStr) (i := (i : Int)) rfl rfl (rd_takeC (hi := (min (keys.length : Int) 40).toNat) (rd_base (i := 4) rfl hkeys) (by omega)) Try.underlying44 sz9 (by omega) (by omega)) rfl rfl rfl ?_
        refine o_pure (p_loadE1 (i := i) (T := tStr) (L := (keys.take ((min (keys.length : Int) 40).toNat))) (v := .string ((keys.take ((min (keys.length : Int) 40).toNat)).getD i default)) rfl (rd_takeC (hi := (min (keys.length : Int) 40).toNat) (rd_base (i := 4) rfl hkeys) (by omega)) (by first | assumption | omega) sh9 (congrArg tStr.enc (getd_at (by first | assumption | omega) default))) rfl rfl rfl ?_
        refine o_call0 (v := .tuple #[.int .i64 (Shd.owner ((l.take at_.toNat) ++ (l.drop ((at_ + 1).toNat))) ((keys.take ((min (keys.length : Int) 40).toNat)).getD i default)), .int .i64 (Shd.ownErr ((l.take at_.toNat) ++ (l.drop ((at_ + 1).toNat))) ((keys.take ((min (keys.length : Int) 40).toNat)).getD i default))]) rfl (sowner_ok ((l.take at_.toNat) ++ (l.drop ((at_ + 1).toNat))) a4_9 c4_9 ((keys.take ((min (keys.length : Int) 40).toNat)).getD i default)) hf33 (fun w hw => (rd_own (i := 3) rfl) w hw) rfl ?_
        refine o_pure (p_move (v := .tuple #[.int .i64 (Shd.owner ((l.take at_.toNat) ++ (l.drop ((at_ + 1).toNat))) ((keys.take ((min (keys.length : Int) 40).toNat)).getD i default)), .int .i64 (Shd.ownErr ((l.take at_.toNat) ++ (l.drop ((at_ + 1).toNat))) ((keys.take ((min (keys.length : Int) 40).toNat)).getD i default))]) rfl) rfl rfl rfl ?_
        refine o_pure (p_extract (vs := [.int .i64 (Shd.owner ((l.take at_.toNat) ++ (l.drop ((at_ + 1).toNat))) ((keys.take ((min (keys.length : Int) 40).toNat)).getD i default)), .int .i64 (Shd.ownErr ((l.take at_.toNat) ++ (l.drop ((at_ + 1).toNat))) ((keys.take ((min (keys.length : Int) 40).toNat)).getD i default))]) (v := .int .i64 (Shd.owner ((l.take at_.toNat) ++ (l.drop ((at_ + 1).toNat))) ((keys.take ((min (keys.length : Int) 40).toNat)).getD i default))) rfl rfl) rfl rfl rfl ?_
        refine o_pure (p_extract (vs := [.int .i64 (Shd.owner ((l.take at_.toNat) ++ (l.drop ((at_ + 1).toNat))) ((keys.take ((min (keys.length : Int) 40).toNat)).getD i default)), .int .i64 (Shd.ownErr ((l.take at_.toNat) ++ (l.drop ((at_ + 1).toNat))) ((keys.take ((min (keys.length : Int) 40).toNat)).getD i default))]) (v := .int .i64 (Shd.ownErr ((l.take at_.toNat) ++ (l.drop ((at_ + 1).toNat))) ((keys.take ((min (keys.length : Int) 40).toNat)).getD i default))) rfl rfl) rfl rfl rfl ?_
        refine o_pure (p_assign (v := .int .i64 (Shd.owner ((l.take at_.toNat) ++ (l.drop ((at_ + 1).toNat))) ((keys.take ((min (keys.length : Int) 40).toNat)).getD i default))) rfl) rfl rfl rfl ?_
        refine o_pure (p_assign (v := .int .i64 (Shd.ownErr ((l.take at_.toNat) ++ (l.drop ((at_ + 1).toNat))) ((keys.take ((min (keys.length : Int) 40).toNat)).getD i default))) rfl) rfl rfl rfl ?_
        refine o_nil ?_
        refine q_then ?_
        refine c_seq ?_
        refine c_seq ?_
        refine c_draw hmix (by kernel_rfl) ?_
        refine w_pure (p_move (v := .int .i64 (Shd.ownsErr l ((keys.take ((min (keys.length : Int) 40).toNat)).getD i default) (2 : Int))) rfl) rfl rfl rfl ?_
        refine w_pure (p_ne (p := (Shd.ownsErr l ((keys.take ((min (keys.length : Int) 40).toNat)).getD i default) (2 : Int))) (q := 0) rfl rfl) rfl rfl rfl ?_
        refine w_pure (p_move (v := .bool ((Shd.ownsErr l ((keys.take ((min (keys.length : Int) 40).toNat)).getD i default) (2 : Int)) != 0)) rfl) rfl rfl rfl ?_
        refine w_or (p := 108) 3 ((Shd.ownErr ((l.take at_.toNat) ++ (l.drop ((at_ + 1).toNat))) ((keys.take ((min (keys.length : Int) 40).toNat)).getD i default)) != 0) ?_ ?_ ?_
        · intro hb25 hk
          simp only [bne_eq_false_iff_eq] at hb25
          refine w_unguard 105 rfl rfl ?_
          refine w_pure (p_move (v := .int .i64 (Shd.ownErr ((l.take at_.toNat) ++ (l.drop ((at_ + 1).toNat))) ((keys.take ((min (keys.length : Int) 40).toNat)).getD i default))) rfl) rfl rfl rfl ?_
          refine w_unguard 105 rfl rfl ?_
          refine w_pure (p_ne (p := (Shd.ownErr ((l.take at_.toNat) ++ (l.drop ((at_ + 1).toNat))) ((keys.take ((min (keys.length : Int) 40).toNat)).getD i default))) (q := 0) rfl rfl) rfl rfl rfl ?_
          refine w_pure (p_pick_false (v := .bool ((Shd.ownErr ((l.take at_.toNat) ++ (l.drop ((at_ + 1).toNat))) ((keys.take ((min (keys.length : Int) 40).toNat)).getD i default)) != 0)) rfl rfl) rfl rfl rfl ?_
          exact w_sub (Sub.cons rfl (Sub.skip rfl (Sub.skip rfl (Sub.skip rfl (Sub.skip rfl (Sub.refl _)))))) hk
        · intro hb25 hk
          refine w_guard_no rfl 105 rfl rfl rfl rfl rfl ?_
          refine w_guard_no rfl 105 rfl rfl rfl rfl rfl ?_
          refine w_pure (p_pick_true (u := .bool true) rfl rfl) rfl rfl rfl ?_
          exact w_sub (Sub.cons rfl (Sub.skip rfl (Sub.skip rfl (Sub.skip rfl (Sub.skip rfl (Sub.refl _)))))) hk
        refine w_pure (p_move (v := .bool (((Shd.ownsErr l ((keys.take ((min (keys.length : Int) 40).toNat)).getD i default) (2 : Int)) != 0) || ((Shd.ownErr ((l.take at_.toNat) ++ (l.drop ((at_ + 1).toNat))) ((keys.take ((min (keys.length : Int) 40).toNat)).getD i default)) != 0))) rfl) rfl rfl rfl ?_
        refine w_or (p := 113) 4 (((Shd.owners l ((keys.take ((min (keys.length : Int) 40).toNat)).getD i default) (2 : Int)).length : Int) != 2) ?_ ?_ ?_
        · intro hb26 hk
          simp only [Bool.or_eq_false_iff, bne_eq_false_iff_eq] at hb26
          refine w_unguard 109 rfl rfl ?_
          refine w_pure (p_move (v := .slice a22 (Shd.owners l ((keys.take ((min (keys.length : Int) 40).toNat)).getD i default) (2 : Int)).length c23) rfl) rfl rfl rfl ?_
          refine w_unguard 109 rfl rfl ?_
          refine w_pure (p_len_slice (len := (Shd.owners l ((keys.take ((min (keys.length : Int) 40).toNat)).getD i default) (2 : Int)).length) rfl rfl Try.underlying45) rfl rfl rfl ?_
          refine w_unguard 109 rfl rfl ?_
          refine w_pure (p_ne (p := ((Shd.owners l ((keys.take ((min (keys.length : Int) 40).toNat)).getD i default) (2 : Int)).length : Int)) (q := 2) rfl rfl) rfl rfl rfl ?_
          refine w_pure (p_pick_false (v := .bool (((Shd.owners l ((keys.take ((min (keys.length : Int) 40).toNat)).getD i default) (2 : Int)).length : Int) != 2)) rfl rfl) rfl rfl rfl ?_
          exact w_sub (Sub.cons rfl (Sub.skip rfl (Sub.skip rfl (Sub.skip rfl (Sub.skip rfl (Sub.skip rfl (Sub.refl _))))))) hk
        · intro hb26 hk
          refine w_guard_no rfl 109 rfl rfl rfl rfl rfl ?_
          refine w_guard_no rfl 109 rfl rfl rfl rfl rfl ?_
          refine w_guard_no rfl 109 rfl rfl rfl rfl rfl ?_
          refine w_pure (p_pick_true (u := .bool true) rfl rfl) rfl rfl rfl ?_
          exact w_sub (Sub.cons rfl (Sub.skip rfl (Sub.skip rfl (Sub.skip rfl (Sub.skip rfl (Sub.skip rfl (Sub.refl _))))))) hk
        refine w_pure (p_move (v := .bool ((((Shd.ownsErr l ((keys.take ((min (keys.length : Int) 40).toNat)).getD i default) (2 : Int)) != 0) || ((Shd.ownErr ((l.take at_.toNat) ++ (l.drop ((at_ + 1).toNat))) ((keys.take ((min (keys.length : Int) 40).toNat)).getD i default)) != 0)) || (((Shd.owners l ((keys.take ((min (keys.length : Int) 40).toNat)).getD i default) (2 : Int)).length : Int) != 2))) rfl) rfl rfl rfl ?_
        refine w_or (p := 119) 5 (decide (((Shd.owners l ((keys.take ((min (keys.length : Int) 40).toNat)).getD i default) (2 : Int)).getD 0 default) < 0)) ?_ ?_ ?_
        · intro hb27 hk
          simp only [Bool.or_eq_false_iff, bne_eq_false_iff_eq] at hb27
          refine w_unguard 114 rfl rfl ?_
          refine w_pure (p_move (v := .slice a22 (Shd.owners l ((keys.take ((min (keys.length : Int) 40).toNat)).getD i default) (2 : Int)).length c23) rfl) rfl rfl rfl ?_
          refine w_unguard 114 rfl rfl ?_
          refine w_pure (p_indexAddr (L := (Shd.owners l ((keys.take ((min (keys.length : Int) 40).toNat)).getD i default) (2 : Int))) (T := tInt) (i := 0) rfl rfl (rd_own (i := 0) rfl) Try.underlying45 sz3 (by omega) (by omega)) rfl rfl rfl ?_
          refine w_unguard 114 rfl rfl ?_
          refine w_pure (p_loadE1 (i := 0) (T := tInt) (L := (Shd.owners l ((keys.take ((min (keys.length : Int) 40).toNat)).getD i default) (2 : Int))) (v := .int .i64 ((Shd.owners l ((keys.take ((min (keys.length : Int) 40).toNat)).getD i default) (2 : Int)).getD 0 default)) rfl (rd_own (i := 0) rfl) (by first | assumption | omega) sh3 (congrArg tInt.enc (getd_at (by first | assumption | omega) default))) rfl rfl rfl ?_
          refine w_unguard 114 rfl rfl ?_
          refine w_pure (p_lt (p := ((Shd.owners l ((keys.take ((min (keys.length : Int) 40).toNat)).getD i default) (2 : Int)).getD 0 default)) (q := 0) rfl rfl) rfl rfl rfl ?_
          refine w_pure (p_pick_false (v := .bool (decide (((Shd.owners l ((keys.take ((min (keys.length : Int) 40).toNat)).getD i default) (2 : Int)).getD 0 default) < 0))) rfl rfl) rfl rfl rfl ?_
          exact w_sub (Sub.cons rfl (Sub.skip rfl (Sub.skip rfl (Sub.skip rfl (Sub.skip rfl (Sub.skip rfl (Sub.skip rfl (Sub.refl _)))))))) hk
        · intro hb27 hk
          refine w_guard_no rfl 114 rfl rfl rfl rfl rfl ?_
          refine w_guard_no rfl 114 rfl rfl rfl rfl rfl ?_
          refine w_guard_no rfl 114 rfl rfl rfl rfl rfl ?_
          refine w_guard_no rfl 114 rfl rfl rfl rfl rfl ?_
          refine w_pure (p_pick_true (u := .bool true) rfl rfl) rfl rfl rfl ?_
          exact w_sub (Sub.cons rfl (Sub.skip rfl (Sub.skip rfl (Sub.skip rfl (Sub.skip rfl (Sub.skip rfl (Sub.skip rfl (Sub.refl _)))))))) hk
        refine w_pure (p_move (v := .bool (((((Shd.ownsErr l ((keys.take ((min (keys.length : Int) 40).toNat)).getD i default) (2 : Int)) != 0) || ((Shd.ownErr ((l.take at_.toNat) ++ (l.drop ((at_ + 1).toNat))) ((keys.take ((min (keys.length : Int) 40).toNat)).getD i default)) != 0)) || (((Shd.owners l ((keys.take ((min (keys.length : Int) 40).toNat)).getD i default) (2 : Int)).length : Int) != 2)) || decide (((Shd.owners l ((keys.take ((min (keys.length : Int) 40).toNat)).getD i default) (2 : Int)).getD 0 default) < 0))) rfl) rfl rfl rfl ?_
        refine w_or (p := 127) 7 (decide ((l.length : Int) ≤ ((Shd.owners l ((keys.take ((min (keys.length : Int) 40).toNat)).getD i default) (2 : Int)).getD 0 default))) ?_ ?_ ?_
        · intro hb28 hk
          simp only [Bool.or_eq_false_iff, bne_eq_false_iff_eq, decide_eq_false_iff_not, Int.not_lt] at hb28
          refine w_unguard 120 rfl rfl ?_
          refine w_pure (p_move (v := .slice a22 (Shd.owners l ((keys.take ((min (keys.length : Int) 40).toNat)).getD i default) (2 : Int)).length c23) rfl) rfl rfl rfl ?_
          refine w_unguard 120 rfl rfl ?_
          refine w_pure (p_indexAddr (L := (Shd.owners l ((keys.take ((min (keys.length : Int) 40).toNat)).getD i default) (2 : Int))) (T := tInt) (i := 0) rfl rfl (rd_own (i := 0) rfl) Try.underlying45 sz3 (by omega) (by omega)) rfl rfl rfl ?_
          refine w_unguard 120 rfl rfl ?_
          refine w_pure (p_loadE1 (i := 0) (T := tInt) (L := (Shd.owners l ((keys.take ((min (keys.length : Int) 40).toNat)).getD i default) (2 : Int))) (v := .int .i64 ((Shd.owners l ((keys.take ((min (keys.length : Int) 40).toNat)).getD i default) (2 : Int)).getD 0 default)) rfl (rd_own (i := 0) rfl) (by first | assumption | omega) sh3 (congrArg tInt.enc (getd_at (by first | assumption | omega) default))) rfl rfl rfl ?_
          refine w_unguard 120 rfl rfl ?_
          refine w_pure (p_move (v := .slice al l.length cl) rfl) rfl rfl rfl ?_
          refine w_unguard 120 rfl rfl ?_
          refine w_pure (p_len_slice (len := l.length) rfl rfl Try.underlying43) rfl rfl rfl ?_
          refine w_unguard 120 rfl rfl ?_
          refine w_pure (p_ge (p := ((Shd.owners l ((keys.take ((min (keys.length : Int) 40).toNat)).getD i default) (2 : Int)).getD 0 default)) (q := (l.length : Int)) rfl rfl) rfl rfl rfl ?_
          refine w_pure (p_pick_false (v := .bool (decide ((l.length : Int) ≤ ((Shd.owners l ((keys.take ((min (keys.length : Int) 40).toNat)).getD i default) (2 : Int)).getD 0 default)))) rfl rfl) rfl rfl rfl ?_
          exact w_sub (Sub.cons rfl (Sub.skip rfl (Sub.skip rfl (Sub.skip rfl (Sub.skip rfl (Sub.skip rfl (Sub.skip rfl (Sub.skip rfl (Sub.skip rfl (Sub.refl _)))))))))) hk
        · intro hb28 hk
          refine w_guard_no rfl 120 rfl rfl rfl rfl rfl ?_
          refine w_guard_no rfl 120 rfl rfl rfl rfl rfl ?_
          refine w_guard_no rfl 120 rfl rfl rfl rfl rfl ?_
          refine w_guard_no rfl 120 rfl rfl rfl rfl rfl ?_
          refine w_guard_no rfl 120 rfl rfl rfl rfl rfl ?_
          refine w_guard_no rfl 120 rfl rfl rfl rfl rfl ?_
          refine w_pure (p_pick_true (u := .bool true) rfl rfl) rfl rfl rfl ?_
          exact w_sub (Sub.cons rfl (Sub.skip rfl (Sub.skip rfl (Sub.skip rfl (Sub.skip rfl (Sub.skip rfl (Sub.skip rfl (Sub.skip rfl (Sub.skip rfl (Sub.refl _)))))))))) hk
        refine w_pure (p_move (v := .bool ((((((Shd.ownsErr l ((keys.take ((min (keys.length : Int) 40).toNat)).getD i default) (2 : Int)) != 0) || ((Shd.ownErr ((l.take at_.toNat) ++ (l.drop ((at_ + 1).toNat))) ((keys.take ((min (keys.length : Int) 40).toNat)).getD i default)) != 0)) || (((Shd.owners l ((keys.take ((min (keys.length : Int) 40).toNat)).getD i default) (2 : Int)).length : Int) != 2)) || decide (((Shd.owners l ((keys.take ((min (keys.length : Int) 40).toNat)).getD i default) (2 : Int)).getD 0 default) < 0)) || decide ((l.length : Int) ≤ ((Shd.owners l ((keys.take ((min (keys.length : Int) 40).toNat)).getD i default) (2 : Int)).getD 0 default)))) rfl) rfl rfl rfl ?_
        refine w_or (p := 133) 5 (decide (((Shd.owners l ((keys.take ((min (keys.length : Int) 40).toNat)).getD i default) (2 : Int)).getD 1 default) < 0)) ?_ ?_ ?_
        · intro hb29 hk
          simp only [Bool.or_eq_false_iff, bne_eq_false_iff_eq, decide_eq_false_iff_not, Int.not_lt, Int.not_le] at hb29
          refine w_unguard 128 rfl rfl ?_
          refine w_pure (p_move (v := .slice a22 (Shd.owners l ((keys.take ((min (keys.length : Int) 40).toNat)).getD i default) (2 : Int)).length c23) rfl) rfl rfl rfl ?_
          refine w_unguard 128 rfl rfl ?_
          refine w_pure (p_indexAddr (L := (Shd.owners l ((keys.take ((min (keys.length : Int) 40).toNat)).getD i default) (2 : Int))) (T := tInt) (i := 1) rfl rfl (rd_own (i := 0) rfl) Try.underlying45 sz3 (by omega) (by omega)) rfl rfl rfl ?_
          refine w_unguard 128 rfl rfl ?_
          refine w_pure (p_loadE1 (i := 1) (T := tInt) (L := (Shd.owners l ((keys.take ((min (keys.length : Int) 40).toNat)).getD i default) (2 : Int))) (v := .int .i64 ((Shd.owners l ((keys.take ((min (keys.length : Int) 40).toNat)).getD i default) (2 : Int)).getD 1 default)) rfl (rd_own (i := 0) rfl) (by first | assumption | omega) sh3 (congrArg tInt.enc (getd_at (by first | assumption | omega) default))) rfl rfl rfl ?_
          refine w_unguard 128 rfl rfl ?_
          refine w_pure (p_lt (p := ((Shd.owners l ((keys.take ((min (keys.length : Int) 40).toNat)).getD i default) (2 : Int)).getD 1 default)) (q := 0) rfl rfl) rfl rfl rfl ?_
          refine w_pure (p_pick_false (v := .bool (decide (((Shd.owners l ((keys.take ((min (keys.length : Int) 40).toNat)).getD i default) (2 : Int)).getD 1 default) < 0))) rfl rfl) rfl rfl rfl ?_
          exact w_sub (Sub.cons rfl (Sub.skip rfl (Sub.skip rfl (Sub.skip rfl (Sub.skip rfl (Sub.skip rfl (Sub.skip rfl (Sub.refl _)))))))) hk
        · intro hb29 hk
          refine w_guard_no rfl 128 rfl rfl rfl rfl rfl ?_
          refine w_guard_no rfl 128 rfl rfl rfl rfl rfl ?_
          refine w_guard_no rfl 128 rfl rfl rfl rfl rfl ?_
          refine w_guard_no rfl 128 rfl rfl rfl rfl rfl ?_
          refine w_pure (p_pick_true (u := .bool true) rfl rfl) rfl rfl rfl ?_
          exact w_sub (Sub.cons rfl (Sub.skip rfl (Sub.skip rfl (Sub.skip rfl (Sub.skip rfl (Sub.skip rfl (Sub.skip rfl (Sub.refl _)))))))) hk
        refine w_pure (p_move (v := .bool (((((((Shd.ownsErr l ((keys.take ((min (keys.length : Int) 40).toNat)).getD i default) (2 : Int)) != 0) || ((Shd.ownErr ((l.take at_.toNat) ++ (l.drop ((at_ + 1).toNat))) ((keys.take ((min (keys.length : Int) 40).toNat)).getD i default)) != 0)) || (((Shd.owners l ((keys.take ((min (keys.length : Int) 40).toNat)).getD i default) (2 : Int)).length : Int) != 2)) || decide (((Shd.owners l ((keys.take ((min (keys.length : Int) 40).toNat)).getD i default) (2 : Int)).getD 0 default) < 0)) || decide ((l.length : Int) ≤ ((Shd.owners l ((keys.take ((min (keys.length : Int) 40).toNat)).getD i default) (2 : Int)).getD 0 default))) || decide (((Shd.owners l ((keys.take ((min (keys.length : Int) 40).toNat)).getD i default) (2 : Int)).getD 1 default) < 0))) rfl) rfl rfl rfl ?_
        refine w_or (p := 141) 7 (decide ((l.length : Int) ≤ ((Shd.owners l ((keys.take ((min (keys.length : Int) 40).toNat)).getD i default) (2 : Int)).getD 1 default))) ?_ ?_ ?_
        · intro hb30 hk
          simp only [Bool.or_eq_false_iff, bne_eq_false_iff_eq, decide_eq_false_iff_not, Int.not_lt, Int.not_le] at hb30
          refine w_unguard 134 rfl rfl ?_
          refine w_pure (p_move (v := .slice a22 (Shd.owners l ((keys.take ((min (keys.length : Int) 40).toNat)).getD i default) (2 : Int)).length c23) rfl) rfl rfl rfl ?_
          refine w_unguard 134 rfl rfl ?_
          refine w_pure (p_indexAddr (L := (Shd.owners l ((keys.take ((min (keys.length : Int) 40).toNat)).getD i default) (2 : Int))) (T := tInt) (i := 1) rfl rfl (rd_own (i := 0) rfl) Try.underlying45 sz3 (by omega) (by omega)) rfl rfl rfl ?_
          refine w_unguard 134 rfl rfl ?_
          refine w_pure (p_loadE1 (i := 1) (T := tInt) (L := (Shd.owners l ((keys.take ((min (keys.length : Int) 40).toNat)).getD i default) (2 : Int))) (v := .int .i64 ((Shd.owners l ((keys.take ((min (keys.length : Int) 40).toNat)).getD i default) (2 : Int)).getD 1 default)) rfl (rd_own (i := 0) rfl) (by first | assumption | omega) sh3 (congrArg tInt.enc (getd_at (by first | assumption | omega) default))) rfl rfl rfl ?_
          refine w_unguard 134 rfl rfl ?_
          refine w_pure (p_move (v := .slice al l.length cl) rfl) rfl rfl rfl ?_
          refine w_unguard 134 rfl rfl ?_
          refine w_pure (p_len_slice (len := l.length) rfl rfl Try.underlying43) rfl rfl rfl ?_
          refine w_unguard 134 rfl rfl ?_
          refine w_pure (p_ge (p := ((Shd.owners l ((keys.take ((min (keys.length : Int) 40).toNat)).getD i default) (2 : Int)).getD 1 default)) (q := (l.length : Int)) rfl rfl) rfl rfl rfl ?_
          refine w_pure (p_pick_false (v := .bool (decide ((l.length : Int) ≤ ((Shd.owners l ((keys.take ((min (keys.length : Int) 40).toNat)).getD i default) (2 : Int)).getD 1 default)))) rfl rfl) rfl rfl rfl ?_
          exact w_sub (Sub.cons rfl (Sub.skip rfl (Sub.skip rfl (Sub.skip rfl (Sub.skip rfl (Sub.skip rfl (Sub.skip rfl (Sub.skip rfl (Sub.skip rfl (Sub.refl _)))))))))) hk
        · intro hb30 hk
          refine w_guard_no rfl 134 rfl rfl rfl rfl rfl ?_
          refine w_guard_no rfl 134 rfl rfl rfl rfl rfl ?_
          refine w_guard_no rfl 134 rfl rfl rfl rfl rfl ?_
          refine w_guard_no rfl 134 rfl rfl rfl rfl rfl ?_
          refine w_guard_no rfl 134 rfl rfl rfl rfl rfl ?_
          refine w_guard_no rfl 134 rfl rfl rfl rfl rfl ?_
          refine w_pure (p_pick_true (u := .bool true) rfl rfl) rfl rfl rfl ?_
          exact w_sub (Sub.cons rfl (Sub.skip rfl (Sub.skip rfl (Sub.skip rfl (Sub.skip rfl (Sub.skip rfl (Sub.skip rfl (Sub.skip rfl (Sub.skip rfl (Sub.refl _)))))))))) hk
        refine w_pure (p_move (v := .bool ((((((((Shd.ownsErr l ((keys.take ((min (keys.length : Int) 40).toNat)).getD i default) (2 : Int)) != 0) || ((Shd.ownErr ((l.take at_.toNat) ++ (l.drop ((at_ + 1).toNat))) ((keys.take ((min (keys.length : Int) 40).toNat)).getD i default)) != 0)) || (((Shd.owners l ((keys.take ((min (keys.length : Int) 40).toNat)).getD i default) (2 : Int)).length : Int) != 2)) || decide (((Shd.owners l ((keys.take ((min (keys.length : Int) 40).toNat)).getD i default) (2 : Int)).getD 0 default) < 0)) || decide ((l.length : Int) ≤ ((Shd.owners l ((keys.take ((min (keys.length : Int) 40).toNat)).getD i default) (2 : Int)).getD 0 default))) || decide (((Shd.owners l ((keys.take ((min (keys.length : Int) 40).toNat)).getD i default) (2 : Int)).getD 1 default) < 0)) || decide ((l.length : Int) ≤ ((Shd.owners l ((keys.take ((min (keys.length : Int) 40).toNat)).getD i default) (2 : Int)).getD 1 default)))) rfl) rfl rfl rfl ?_
        refine w_or (p := 145) 3 (decide ((Shd.owner ((l.take at_.toNat) ++ (l.drop ((at_ + 1).toNat))) ((keys.take ((min (keys.length : Int) 40).toNat)).getD i default)) < 0)) ?_ ?_ ?_
        · intro hb31 hk
          simp only [Bool.or_eq_false_iff, bne_eq_false_iff_eq, decide_eq_false_iff_not, Int.not_lt, Int.not_le] at hb31
          refine w_unguard 142 rfl rfl ?_
          refine w_pure (p_move (v := .int .i64 (Shd.owner ((l.take at_.toNat) ++ (l.drop ((at_ + 1).toNat))) ((keys.take ((min (keys.length : Int) 40).toNat)).getD i default))) rfl) rfl rfl rfl ?_
          refine w_unguard 142 rfl rfl ?_
          refine w_pure (p_lt (p := (Shd.owner ((l.take at_.toNat) ++ (l.drop ((at_ + 1).toNat))) ((keys.take ((min (keys.length : Int) 40).toNat)).getD i default))) (q := 0) rfl rfl) rfl rfl rfl ?_
          refine w_pure (p_pick_false (v := .bool (decide ((Shd.owner ((l.take at_.toNat) ++ (l.drop ((at_ + 1).toNat))) ((keys.take ((min (keys.length : Int) 40).toNat)).getD i default)) < 0))) rfl rfl) rfl rfl rfl ?_
          exact w_sub (Sub.cons rfl (Sub.skip rfl (Sub.skip rfl (Sub.skip rfl (Sub.skip rfl (Sub.refl _)))))) hk
        · intro hb31 hk
          refine w_guard_no rfl 142 rfl rfl rfl rfl rfl ?_
          refine w_guard_no rfl 142 rfl rfl rfl rfl rfl ?_
          refine w_pure (p_pick_true (u := .bool true) rfl rfl) rfl rfl rfl ?_
          exact w_sub (Sub.cons rfl (Sub.skip rfl (Sub.skip rfl (Sub.skip rfl (Sub.skip rfl (Sub.refl _)))))) hk
        refine w_pure (p_move (v := .bool (((((((((Shd.ownsErr l ((keys.take ((min (keys.length : Int) 40).toNat)).getD i default) (2 : Int)) != 0) || ((Shd.ownErr ((l.take at_.toNat) ++ (l.drop ((at_ + 1).toNat))) ((keys.take ((min (keys.length : Int) 40).toNat)).getD i default)) != 0)) || (((Shd.owners l ((keys.take ((min (keys.length : Int) 40).toNat)).getD i default) (2 : Int)).length : Int) != 2)) || decide (((Shd.owners l ((keys.take ((min (keys.length : Int) 40).toNat)).getD i default) (2 : Int)).getD 0 default) < 0)) || decide ((l.length : Int) ≤ ((Shd.owners l ((keys.take ((min (keys.length : Int) 40).toNat)).getD i default) (2 : Int)).getD 0 default))) || decide (((Shd.owners l ((keys.take ((min (keys.length : Int) 40).toNat)).getD i default) (2 : Int)).getD 1 default) < 0)) || decide ((l.length : Int) ≤ ((Shd.owners l ((keys.take ((min (keys.length : Int) 40).toNat)).getD i default) (2 : Int)).getD 1 default))) || decide ((Shd.owner ((l.take at_.toNat) ++ (l.drop ((at_ + 1).toNat))) ((keys.take ((min (keys.length : Int) 40).toNat)).getD i default)) < 0))) rfl) rfl rfl rfl ?_
        refine w_or (p := 151) 5 (decide ((((l.take at_.toNat) ++ (l.drop ((at_ + 1).toNat))).length : Int) ≤ (Shd.owner ((l.take at_.toNat) ++ (l.drop ((at_ + 1).toNat))) ((keys.take ((min (keys.length : Int) 40).toNat)).getD i default)))) ?_ ?_ ?_
        · intro hb32 hk
          simp only [Bool.or_eq_false_iff, bne_eq_false_iff_eq, decide_eq_false_iff_not, Int.not_lt, Int.not_le] at hb32
          refine w_unguard 146 rfl rfl ?_
          refine w_pure (p_move (v := .int .i64 (Shd.owner ((l.take at_.toNat) ++ (l.drop ((at_ + 1).toNat))) ((keys.take ((min (keys.length : Int) 40).toNat)).getD i default))) rfl) rfl rfl rfl ?_
          refine w_unguard 146 rfl rfl ?_
          refine w_pure (p_move (v := .slice a4_9 ((l.take at_.toNat) ++ (l.drop ((at_ + 1).toNat))).length c4_9) rfl) rfl rfl rfl ?_
          refine w_unguard 146 rfl rfl ?_
          refine w_pure (p_len_slice (len := ((l.take at_.toNat) ++ (l.drop ((at_ + 1).toNat))).length) rfl rfl Try.underlying43) rfl rfl rfl ?_
          refine w_unguard 146 rfl rfl ?_
          refine w_pure (p_ge (p := (Shd.owner ((l.take at_.toNat) ++ (l.drop ((at_ + 1).toNat))) ((keys.take ((min (keys.length : Int) 40).toNat)).getD i default))) (q := (((l.take at_.toNat) ++ (l.drop ((at_ + 1).toNat))).length : Int)) rfl rfl) rfl rfl rfl ?_
          refine w_pure (p_pick_false (v := .bool (decide ((((l.take at_.toNat) ++ (l.drop ((at_ + 1).toNat))).length : Int) ≤ (Shd.owner ((l.take at_.toNat) ++ (l.drop ((at_ + 1).toNat))) ((keys.take ((min (keys.length : Int) 40).toNat)).getD i default))))) rfl rfl) rfl rfl rfl ?_
          exact w_sub (Sub.cons rfl (Sub.skip rfl (Sub.skip rfl (Sub.skip rfl (Sub.skip rfl (Sub.skip rfl (Sub.skip rfl (Sub.refl _)))))))) hk
        · intro hb32 hk
          refine w_guard_no rfl 146 rfl rfl rfl rfl rfl ?_
          refine w_guard_no rfl 146 rfl rfl rfl rfl rfl ?_
          refine w_guard_no rfl 146 rfl rfl rfl rfl rfl ?_
          refine w_guard_no rfl 146 rfl rfl rfl rfl rfl ?_
          refine w_pure (p_pick_true (u := .bool true) rfl rfl) rfl rfl rfl ?_
          exact w_sub (Sub.cons rfl (Sub.skip rfl (Sub.skip rfl (Sub.skip rfl (Sub.skip rfl (Sub.skip rfl (Sub.skip rfl (Sub.refl _)))))))) hk
        refine w_pure (p_move (v := .bool ((((((((((Shd.ownsErr l ((keys.take ((min (keys.length : Int) 40).toNat)).getD i default) (2 : Int)) != 0) || ((Shd.ownErr ((l.take at_.toNat) ++ (l.drop ((at_ + 1).toNat))) ((keys.take ((min (keys.length : Int) 40).toNat)).getD i default)) != 0)) || (((Shd.owners l ((keys.take ((min (keys.length : Int) 40).toNat)).getD i default) (2 : Int)).length : Int) != 2)) || decide (((Shd.owners l ((keys.take ((min (keys.length : Int) 40).toNat)).getD i default) (2 : Int)).getD 0 default) < 0)) || decide ((l.length : Int) ≤ ((Shd.owners l ((keys.take ((min (keys.length : Int) 40).toNat)).getD i default) (2 : Int)).getD 0 default))) || decide (((Shd.owners l ((keys.take ((min (keys.length : Int) 40).toNat)).getD i default) (2 : Int)).getD 1 default) < 0)) || decide ((l.length : Int) ≤ ((Shd.owners l ((keys.take ((min (keys.length : Int) 40).toNat)).getD i default) (2 : Int)).getD 1 default))) || decide ((Shd.owner ((l.take at_.toNat) ++ (l.drop ((at_ + 1).toNat))) ((keys.take ((min (keys.length : Int) 40).toNat)).getD i default)) < 0)) || decide ((((l.take at_.toNat) ++ (l.drop ((at_ + 1).toNat))).length : Int) ≤ (Shd.owner ((l.take at_.toNat) ++ (l.drop ((at_ + 1).toNat))) ((keys.take ((min (keys.length : Int) 40).toNat)).getD i default))))) rfl) rfl rfl rfl ?_
        refine w_or (p := 162) 10 ((Ref.hasInt (Shd.moved l ((l.take at_.toNat) ++ (l.drop ((at_ + 1).toNat))) (keys.take ((min (keys.length : Int) 40).toNat))) (i : Int)) != (((Shd.owners l ((keys.take ((min (keys.length : Int) 40).toNat)).getD i default) (2 : Int)).getD 0 default) == at_)) ?_ ?_ ?_
        · intro hb33 hk
          simp only [Bool.or_eq_false_iff, bne_eq_false_iff_eq, decide_eq_false_iff_not, Int.not_lt, Int.not_le] at hb33
          refine w_unguard 152 rfl rfl ?_
          refine w_pure (p_move (v := .slice a7 (Shd.moved l ((l.take at_.toNat) ++ (l.drop ((at_ + 1).toNat))) (keys.take ((min (keys.length : Int) 40).toNat))).length c8) rfl) rfl rfl rfl ?_
          refine w_unguard 152 rfl rfl ?_
          refine w_pure (p_move (v := .int .i64 (i : Int)) rfl) rfl rfl rfl ?_
          refine w_unguard 152 rfl rfl ?_
          refine w_call0 (v := .bool (Ref.hasInt (Shd.moved l ((l.take at_.toNat) ++ (l.drop ((at_ + 1).toNat))) (keys.take ((min (keys.length : Int) 40).toNat))) (i : Int))) rfl (hasInt_ok (Shd.moved l ((l.take at_.toNat) ++ (l.drop ((at_ + 1).toNat))) (keys.take ((min (keys.length : Int) 40).toNat))) a7 c8 (i : Int)) hf34 (fun w hw => (rd_own (i := 2) rfl) w hw) rfl ?_
          refine w_unguard 152 rfl rfl ?_
          refine w_pure (p_move (v := .slice a22 (Shd.owners l ((keys.take ((min (keys.length : Int) 40).toNat)).getD i default) (2 : Int)).length c23) rfl) rfl rfl rfl ?_
          refine w_unguard 152 rfl rfl ?_
          refine w_pure (p_indexAddr (L := (Shd.owners l ((keys.take ((min (keys.length : Int) 40).toNat)).getD i default) (2 : Int))) (T := tInt) (i := 0) rfl rfl (rd_own (i := 0) rfl) Try.underlying45 sz3 (by omega) (by omega)) rfl rfl rfl ?_
          refine w_unguard 152 rfl rfl ?_
          refine w_pure (p_loadE1 (i := 0) (T := tInt) (L := (Shd.owners l ((keys.take ((min (keys.length : Int) 40).toNat)).getD i default) (2 : Int))) (v := .int .i64 ((Shd.owners l ((keys.take ((min (keys.length : Int) 40).toNat)).getD i default) (2 : Int)).getD 0 default)) rfl (rd_own (i := 0) rfl) (by first | assumption | omega) sh3 (congrArg tInt.enc (getd_at (by first | assumption | omega) default))) rfl rfl rfl ?_
          refine w_unguard 152 rfl rfl ?_
          refine w_pure (p_move (v := .int .i64 at_) rfl) rfl rfl rfl ?_
          refine w_unguard 152 rfl rfl ?_
          refine w_pure (p_eq (p := ((Shd.owners l ((keys.take ((min (keys.length : Int) 40).toNat)).getD i default) (2 : Int)).getD 0 default)) (q := at_) rfl rfl) rfl rfl rfl ?_
          refine w_unguard 152 rfl rfl ?_
          refine w_pure (p_neBool (b := (Ref.hasInt (Shd.moved l ((l.take at_.toNat) ++ (l.drop ((at_ + 1).toNat))) (keys.take ((min (keys.length : Int) 40).toNat))) (i : Int))) (c := (((Shd.owners l ((keys.take ((min (keys.length : Int) 40).toNat)).getD i default) (2 : Int)).getD 0 default) == at_)) rfl rfl Try.underlying4) rfl rfl rfl ?_
          refine w_pure (p_pick_false (v := .bool ((Ref.hasInt (Shd.moved l ((l.take at_.toNat) ++ (l.drop ((at_ + 1).toNat))) (keys.take ((min (keys.length : Int) 40).toNat))) (i : Int)) != (((Shd.owners l ((keys.take ((min (keys.length : Int) 40).toNat)).getD i default) (2 : Int)).getD 0 default) == at_))) rfl rfl) rfl rfl rfl ?_
          exact w_sub (Sub.cons rfl (Sub.skip rfl (Sub.skip rfl (Sub.skip rfl (Sub.skip rfl (Sub.skip rfl (Sub.skip rfl (Sub.skip rfl (Sub.skip rfl (Sub.skip rfl (Sub.skip rfl (Sub.skip rfl (Sub.refl _))))))))))))) hk
        · intro hb33 hk
          refine w_guard_no rfl 152 rfl rfl rfl rfl rfl ?_
          refine w_guard_no rfl 152 rfl rfl rfl rfl rfl ?_
          refine w_guard_no rfl 152 rfl rfl rfl rfl rfl ?_
          refine w_guard_no rfl 152 rfl rfl rfl rfl rfl ?_
          refine w_guard_no rfl 152 rfl rfl rfl rfl rfl ?_
          refine w_guard_no rfl 152 rfl rfl rfl rfl rfl ?_
          refine w_guard_no rfl 152 rfl rfl rfl rfl rfl ?_
          refine w_guard_no rfl 152 rfl rfl rfl rfl rfl ?_
          refine w_guard_no rfl 152 rfl rfl rfl rfl rfl ?_
          refine w_pure (p_pick_true (u := .bool true) rfl rfl) rfl rfl rfl ?_
          exact w_sub (Sub.cons rfl (Sub.skip rfl (Sub.skip rfl (Sub.skip rfl (Sub.skip rfl (Sub.skip rfl (Sub.skip rfl (Sub.skip rfl (Sub.skip rfl (Sub.skip rfl (Sub.skip rfl (Sub.skip rfl (Sub.refl _))))))))))))) hk
        refine w_pure (p_move (v := .bool (((((((((((Shd.ownsErr l ((keys.take ((min (keys.length : Int) 40).toNat)).getD i default) (2 : Int)) != 0) || ((Shd.ownErr ((l.take at_.toNat) ++ (l.drop ((at_ + 1).toNat))) ((keys.take ((min (keys.length : Int) 40).toNat)).getD i default)) != 0)) || (((Shd.owners l ((keys.take ((min (keys.length : Int) 40).toNat)).getD i default) (2 : Int)).length : Int) != 2)) || decide (((Shd.owners l ((keys.take ((min (keys.length : Int) 40).toNat)).getD i default) (2 : Int)).getD 0 default) < 0)) || decide ((l.length : Int) ≤ ((Shd.owners l ((keys.take ((min (keys.length : Int) 40).toNat)).getD i default) (2 : Int)).getD 0 default))) || decide (((Shd.owners l ((keys.take ((min (keys.length : Int) 40).toNat)).getD i default) (2 : Int)).getD 1 default) < 0)) || decide ((l.length : Int) ≤ ((Shd.owners l ((keys.take ((min (keys.length : Int) 40).toNat)).getD i default) (2 : Int)).getD 1 default))) || decide ((Shd.owner ((l.take at_.toNat) ++ (l.drop ((at_ + 1).toNat))) ((keys.take ((min (keys.length : Int) 40).toNat)).getD i default)) < 0)) || decide ((((l.take at_.toNat) ++ (l.drop ((at_ + 1).toNat))).length : Int) ≤ (Shd.owner ((l.take at_.toNat) ++ (l.drop ((at_ + 1).toNat))) ((keys.take ((min (keys.length : Int) 40).toNat)).getD i default)))) || ((Ref.hasInt (Shd.moved l ((l.take at_.toNat) ++ (l.drop ((at_ + 1).toNat))) (keys.take ((min (keys.length : Int) 40).toNat))) (i : Int)) != (((Shd.owners l ((keys.take ((min (keys.length : Int) 40).toNat)).getD i default) (2 : Int)).getD 0 default) == at_)))) rfl) rfl rfl rfl ?_
        refine w_or (p := 173) 10 ((Ref.hasInt (Shd.moved ((l.take at_.toNat) ++ (l.drop ((at_ + 1).toNat))) l (keys.take ((min (keys.length : Int) 40).toNat))) (i : Int)) != (((Shd.owners l ((keys.take ((min (keys.length : Int) 40).toNat)).getD i default) (2 : Int)).getD 0 default) == at_)) ?_ ?_ ?_
        · intro hb34 hk
          simp only [Bool.or_eq_false_iff, bne_eq_false_iff_eq, decide_eq_false_iff_not, Int.not_lt, Int.not_le] at hb34
          refine w_unguard 163 rfl rfl ?_
          refine w_pure (p_move (v := .slice a12 (Shd.moved ((l.take at_.toNat) ++ (l.drop ((at_ + 1).toNat))) l (keys.take ((min (keys.length : Int) 40).toNat))).length c13) rfl) rfl rfl rfl ?_
          refine w_unguard 163 rfl rfl ?_
          refine w_pure (p_move (v := .int .i64 (i : Int)) rfl) rfl rfl rfl ?_
          refine w_unguard 163 rfl rfl ?_
          refine w_call0 (v := .bool (Ref.hasInt (Shd.moved ((l.take at_.toNat) ++ (l.drop ((at_ + 1).toNat))) l (keys.take ((min (keys.length : Int) 40).toNat))) (i : Int))) rfl (hasInt_ok (Shd.moved ((l.take at_.toNat) ++ (l.drop ((at_ + 1).toNat))) l (keys.take ((min (keys.length : Int) 40).toNat))) a12 c13 (i : Int)) hf34 (fun w hw => (rd_own (i := 1) rfl) w hw) rfl ?_
          refine w_unguard 163 rfl rfl ?_
          refine w_pure (p_move (v := .slice a22 (Shd.owners l ((keys.take ((min (keys.length : Int) 40).toNat)).getD i default) (2 : Int)).length c23) rfl) rfl rfl rfl ?_
          refine w_unguard 163 rfl rfl ?_
          refine w_pure (p_indexAddr (L := (Shd.owners l ((keys.take ((min (keys.length : Int) 40).toNat)).getD i default) (2 : Int))) (T := tInt) (i := 0) rfl rfl (rd_own (i := 0) rfl) Try.underlying45 sz3 (by omega) (by omega)) rfl rfl rfl ?_
          refine w_unguard 163 rfl rfl ?_
          refine w_pure (p_loadE1 (i := 0) (T := tInt) (L := (Shd.owners l ((keys.take ((min (keys.length : Int) 40).toNat)).getD i default) (2 : Int))) (v := .int .i64 ((Shd.owners l ((keys.take ((min (keys.length : Int) 40).toNat)).getD i default) (2 : Int)).getD 0 default)) rfl (rd_own (i := 0) rfl) (by first | assumption | omega) sh3 (congrArg tInt.enc (getd_at (by first | assumption | omega) default))) rfl rfl rfl ?_
          refine w_unguard 163 rfl rfl ?_
          refine w_pure (p_move (v := .int .i64 at_) rfl) rfl rfl rfl ?_
          refine w_unguard 163 rfl rfl ?_
          refine w_pure (p_eq (p := ((Shd.owners l ((keys.take ((min (keys.length : Int) 40).toNat)).getD i default) (2 : Int)).getD 0 default)) (q := at_) rfl rfl) rfl rfl rfl ?_
          refine w_unguard 163 rfl rfl ?_
          refine w_pure (p_neBool (b := (Ref.hasInt (Shd.moved ((l.take at_.toNat) ++ (l.drop ((at_ + 1).toNat))) l (keys.take ((min (keys.length : Int) 40).toNat))) (i : Int))) (c := (((Shd.owners l ((keys.take ((min (keys.length : Int) 40).toNat)).getD i default) (2 : Int)).getD 0 default) == at_)) rfl rfl Try.underlying4) rfl rfl rfl ?_
          refine w_pure (p_pick_false (v := .bool ((Ref.hasInt (Shd.moved ((l.take at_.toNat) ++ (l.drop ((at_ + 1).toNat))) l (keys.take ((min (keys.length : Int) 40).toNat))) (i : Int)) != (((Shd.owners l ((keys.take ((min (keys.length : Int) 40).toNat)).getD i default) (2 : Int)).getD 0 default) == at_))) rfl rfl) rfl rfl rfl ?_
          exact w_sub (Sub.cons rfl (Sub.skip rfl (Sub.skip rfl (Sub.skip rfl (Sub.skip rfl (Sub.skip rfl (Sub.skip rfl (Sub.skip rfl (Sub.skip rfl (Sub.skip rfl (Sub.skip rfl (Sub.skip rfl (Sub.refl _))))))))))))) hk
        · intro hb34 hk
          refine w_guard_no rfl 163 rfl rfl rfl rfl rfl ?_
          refine w_guard_no rfl 163 rfl rfl rfl rfl rfl ?_
          refine w_guard_no rfl 163 rfl rfl rfl rfl rfl ?_
          refine w_guard_no rfl 163 rfl rfl rfl rfl rfl ?_
          refine w_guard_no rfl 163 rfl rfl rfl rfl rfl ?_
          refine w_guard_no rfl 163 rfl rfl rfl rfl rfl ?_
          refine w_guard_no rfl 163 rfl rfl rfl rfl rfl ?_
          refine w_guard_no rfl 163 rfl rfl rfl rfl rfl ?_
          refine w_guard_no rfl 163 rfl rfl rfl rfl rfl ?_
          refine w_pure (p_pick_true (u := .bool true) rfl rfl) rfl rfl rfl ?_
          exact w_sub (Sub.cons rfl (Sub.skip rfl (Sub.skip rfl (Sub.skip rfl (Sub.skip rfl (Sub.skip rfl (Sub.skip rfl (Sub.skip rfl (Sub.skip rfl (Sub.skip rfl (Sub.skip rfl (Sub.skip rfl (Sub.refl _))))))))))))) hk
        refine w_nil ?_
        refine q_then ?_
        refine c_cond (b := ((((((((((((Shd.ownsErr l ((keys.take ((min (keys.length : Int) 40).toNat)).getD i default) (2 : Int)) != 0) || ((Shd.ownErr ((l.take at_.toNat) ++ (l.drop ((at_ + 1).toNat))) ((keys.take ((min (keys.length : Int) 40).toNat)).getD i default)) != 0)) || (((Shd.owners l ((keys.take ((min (keys.length : Int) 40).toNat)).getD i default) (2 : Int)).length : Int) != 2)) || decide (((Shd.owners l ((keys.take ((min (keys.length : Int) 40).toNat)).getD i default) (2 : Int)).getD 0 default) < 0)) || decide ((l.length : Int) ≤ ((Shd.owners l ((keys.take ((min (keys.length : Int) 40).toNat)).getD i default) (2 : Int)).getD 0 default))) || decide (((Shd.owners l ((keys.take ((min (keys.length : Int) 40).toNat)).getD i default) (2 : Int)).getD 1 default) < 0)) || decide ((l.length : Int) ≤ ((Shd.owners l ((keys.take ((min (keys.length : Int) 40).toNat)).getD i default) (2 : Int)).getD 1 default))) || decide ((Shd.owner ((l.take at_.toNat) ++ (l.drop ((at_ + 1).toNat))) ((keys.take ((min (keys.length : Int) 40).toNat)).getD i default)) < 0)) || decide ((((l.take at_.toNat) ++ (l.drop ((at_ + 1).toNat))).length : Int) ≤ (Shd.owner ((l.take at_.toNat) ++ (l.drop ((at_ + 1).toNat))) ((keys.take ((min (keys.length : Int) 40).toNat)).getD i default)))) || ((Ref.hasInt (Shd.moved l ((l.take at_.toNat) ++ (l.drop ((at_ + 1).toNat))) (keys.take ((min (keys.length : Int) 40).toNat))) (i : Int)) != (((Shd.owners l ((keys.take ((min (keys.length : Int) 40).toNat)).getD i default) (2 : Int)).getD 0 default) == at_))) || ((Ref.hasInt (Shd.moved ((l.take at_.toNat) ++ (l.drop ((at_ + 1).toNat))) l (keys.take ((min (keys.length : Int) 40).toNat))) (i : Int)) != (((Shd.owners l ((keys.take ((min (keys.length : Int) 40).toNat)).getD i default) (2 : Int)).getD 0 default) == at_)))) rfl (fun hc35 => ?_) (fun hc35 => ?_)
        · simp only [Bool.or_eq_true, bne_iff_ne, ne_eq, decide_eq_true_eq] at hc35
          exfalso; have hq := hc35
          rcases hq with ((((((((h9 | h9) | h9) | h9) | h9) | h9) | h9) | h9) | h9) | h9 <;> first | omega | exact h9 f7 | exact h9 f8 | (simp_all; done)
        · simp only [Bool.or_eq_false_iff, bne_eq_false_iff_eq, decide_eq_false_iff_not, Int.not_lt, Int.not_le] at hc35
          refine c_skip ?_
          refine q_then ?_
          refine c_seq ?_
          refine c_region ?_
          refine o_pure (p_move (v := .slice al l.length cl) rfl) rfl rfl rfl ?_
          refine o_pure (p_move (v := .slice a22 (Shd.owners l ((keys.take ((min (keys.length : Int) 40).toNat)).getD i default) (2 : Int)).length c23) rfl) rfl rfl rfl ?_
          refine o_pure (p_indexAddr (L := (Shd.owners l ((keys.take ((min (keys.length : Int) 40).toNat)).getD i default) (2 : Int))) (T := tInt) (i := 0) rfl rfl (rd_own (i := 0) rfl) Try.underlying45 sz3 (by omega) (by omega)) rfl rfl rfl ?_
          refine o_pure (p_loadE1 (i := 0) (T := tInt) (L := (Shd.owners l ((keys.take ((min (keys.length : Int) 40).toNat)).getD i default) (2 : Int))) (v := .int .i64 ((Shd.owners l ((keys.take ((min (keys.length : Int) 40).toNat)).getD i default) (2 : Int)).getD 0 default)) rfl (rd_own (i := 0) rfl) (by first | assumption | omega) sh3 (congrArg tInt.enc (getd_at (by first | assumption | omega) default))) rfl rfl rfl ?_
          refine o_pure (p_indexAddr (L := l) (T := tShard) (i := ((Shd.owners l ((keys.take ((min (keys.length : Int) 40).toNat)).getD i default) (2 : Int)).getD 0 default)) rfl rfl (rd_base (i := 4) rfl hl) Try.underlying43 sz50 (by omega) (by omega)) rfl rfl rfl ?_
          refine o_pure (p_fieldAddrE rfl fo50_0) rfl rfl rfl ?_
          refine o_pure (p_loadF (i := ((Shd.owners l ((keys.take ((min (keys.length : Int) 40).toNat)).getD i default) (2 : Int)).getD 0 default).toNat) (j := 0) (T := tShard) (L := l) (v := .string ((l.getD (((Shd.owners l ((keys.take ((min (keys.length : Int) 40).toNat)).getD i default) (2 : Int)).getD 0 default).toNat) default).name)) rfl (rd_base (i := 4) rfl hl) (by first | assumption | omega) sh9 (congrArg (fun z => (tShard.enc z)[0]?) (getd_at (by first | assumption | omega) default))) rfl rfl rfl ?_
          refine o_pure (p_assign (v := .string ((l.getD (((Shd.owners l ((keys.take ((min (keys.length : Int) 40).toNat)).getD i default) (2 : Int)).getD 0 default).toNat) default).name)) rfl) rfl rfl rfl ?_
          refine o_nil ?_
          refine q_then ?_
          refine c_seq ?_
          refine c_seq ?_
          refine c_region ?_
          refine o_pure (p_move (v := .slice a22 (Shd.owners l ((keys.take ((min (keys.length : Int) 40).toNat)).getD i default) (2 : Int)).length c23) rfl) rfl rfl rfl ?_
          refine o_pure (p_indexAddr (L := (Shd.owners l ((keys.take ((min (keys.length : Int) 40).toNat)).getD i default) (2 : Int))) (T := tInt) (i := 0) rfl rfl (rd_own (i := 0) rfl) Try.underlying45 sz3 (by omega) (by omega)) rfl rfl rfl ?_
          refine o_pure (p_loadE1 (i := 0) (T := tInt) (L := (Shd.owners l ((keys.take ((min (keys.length : Int) 40).toNat)).getD i default) (2 : Int))) (v := .int .i64 ((Shd.owners l ((keys.take ((min (keys.length : Int) 40).toNat)).getD i default) (2 : Int)).getD 0 default)) rfl (rd_own (i := 0) rfl) (by first | assumption | omega) sh3 (congrArg tInt.enc (getd_at (by first | assumption | omega) default))) rfl rfl rfl ?_
          refine o_pure (p_move (v := .int .i64 at_) rfl) rfl rfl rfl ?_
          refine o_pure (p_eq (p := ((Shd.owners l ((keys.take ((min (keys.length : Int) 40).toNat)).getD i default) (2 : Int)).getD 0 default)) (q := at_) rfl rfl) rfl rfl rfl ?_
          refine o_nil ?_
          refine q_then ?_
          refine c_cond (b := (((Shd.owners l ((keys.take ((min (keys.length : Int) 40).toNat)).getD i default) (2 : Int)).getD 0 default) == at_)) rfl (fun hc36 => ?_) (fun hc36 => ?_)
          · simp only [beq_iff_eq] at hc36
            have hsm := hmn.same hc36
            refine c_region ?_
            refine o_pure (p_move (v := .slice al l.length cl) rfl) rfl rfl rfl ?_
            refine o_pure (p_move (v := .slice a22 (Shd.owners l ((keys.take ((min (keys.length : Int) 40).toNat)).getD i default) (2 : Int)).length c23) rfl) rfl rfl rfl ?_
            refine o_pure (p_indexAddr (L := (Shd.owners l ((keys.take ((min (keys.length : Int) 40).toNat)).getD i default) (2 : Int))) (T := tInt) (i := 1) rfl rfl (rd_own (i := 0) rfl) Try.underlying45 sz3 (by omega) (by omega)) rfl rfl rfl ?_
            refine o_pure (p_loadE1 (i := 1) (T := tInt) (L := (Shd.owners l ((keys.take ((min (keys.length : Int) 40).toNat)).getD i default) (2 : Int))) (v := .int .i64 ((Shd.owners l ((keys.take ((min (keys.length : Int) 40).toNat)).getD i default) (2 : Int)).getD 1 default)) rfl (rd_own (i := 0) rfl) (by first | assumption | omega) sh3 (congrArg tInt.enc (getd_at (by first | assumption | omega) default))) rfl rfl rfl ?_
            refine o_pure (p_indexAddr (L := l) (T := tShard) (i := ((Shd.owners l ((keys.take ((min (keys.length : Int) 40).toNat)).getD i default) (2 : Int)).getD 1 default)) rfl rfl (rd_base (i := 4) rfl hl) Try.underlying43 sz50 (by omega) (by omega)) rfl rfl rfl ?_
            refine o_pure (p_fieldAddrE rfl fo50_0) rfl rfl rfl ?_
            refine o_pure (p_loadF (i := ((Shd.owners l ((keys.take ((min (keys.length : Int) 40).toNat)).getD i default) (2 : Int)).getD 1 default).toNat) (j := 0) (T := tShard) (L := l) (v := .string ((l.getD (((Shd.owners l ((keys.take ((min (keys.length : Int) 40).toNat)).getD i default) (2 : Int)).getD 1 default).toNat) default).name)) rfl (rd_base (i := 4) rfl hl) (by first | assumption | omega) sh9 (congrArg (fun z => (tShard.enc z)[0]?) (getd_at (by first | assumption | omega) default))) rfl rfl rfl ?_
            refine o_pure (p_assign (v := .string ((l.getD (((Shd.owners l ((keys.take ((min (keys.length : Int) 40).toNat)).getD i default) (2 : Int)).getD 1 default).toNat) default).name)) rfl) rfl rfl rfl ?_
            refine o_nil ?_
            refine q_then ?_
            refine c_seq ?_
            refine c_region ?_
            refine o_pure (p_move (v := .slice a4_9 ((l.take at_.toNat) ++ (l.drop ((at_ + 1).toNat))).length c4_9) rfl) rfl rfl rfl ?_
            refine o_pure (p_move (v := .int .i64 (Shd.owner ((l.take at_.toNat) ++ (l.drop ((at_ + 1).toNat))) ((keys.take ((min (keys.length : Int) 40).toNat)).getD i default))) rfl) rfl rfl rfl ?_
            refine o_pure (p_indexAddr (L := ((l.take at_.toNat) ++ (l.drop ((at_ + 1).toNat)))) (T := tShard) (i := (Shd.owner ((l.take at_.toNat) ++ (l.drop ((at_ + 1).toNat))) ((keys.take ((min (keys.length : Int) 40).toNat)).getD i default))) rfl rfl (rd_own (i := 3) rfl) Try.underlying43 sz50 (by omega) (by omega)) rfl rfl rfl ?_
            refine o_pure (p_fieldAddrE rfl fo50_0) rfl rfl rfl ?_
            refine o_pure (p_loadF (i := (Shd.owner ((l.take at_.toNat) ++ (l.drop ((at_ + 1).toNat))) ((keys.take ((min (keys.length : Int) 40).toNat)).getD i default)).toNat) (j := 0) (T := tShard) (L := ((l.take at_.toNat) ++ (l.drop ((at_ + 1).toNat)))) (v := .string ((((l.take at_.toNat) ++ (l.drop ((at_ + 1).toNat))).getD ((Shd.owner ((l.take at_.toNat) ++ (l.drop ((at_ + 1).toNat))) ((keys.take ((min (keys.length : Int) 40).toNat)).getD i default)).toNat) default).name)) rfl (rd_own (i := 3) rfl) (by first | assumption | omega) sh9 (congrArg (fun z => (tShard.enc z)[0]?) (getd_at (by first | assumption | omega) default))) rfl rfl rfl ?_
            refine o_pure (p_move (v := .string ((l.getD (((Shd.owners l ((keys.take ((min (keys.length : Int) 40).toNat)).getD i default) (2 : Int)).getD 1 default).toNat) default).name)) rfl) rfl rfl rfl ?_
            refine o_pure (p_neStr (s := (((l.take at_.toNat) ++ (l.drop ((at_ + 1).toNat))).getD ((Shd.owner ((l.take at_.toNat) ++ (l.drop ((at_ + 1).toNat))) ((keys.take ((min (keys.length : Int) 40).toNat)).getD i default)).toNat) default).name) (t := (l.getD (((Shd.owners l ((keys.take ((min (keys.length : Int) 40).toNat)).getD i default) (2 : Int)).getD 1 default).toNat) default).name) rfl rfl) rfl rfl rfl ?_
            refine o_nil ?_
            refine q_then ?_
            refine c_cond (b := (!decide ((((l.take at_.toNat) ++ (l.drop ((at_ + 1).toNat))).getD ((Shd.owner ((l.take at_.toNat) ++ (l.drop ((at_ + 1).toNat))) ((keys.take ((min (keys.length : Int) 40).toNat)).getD i default)).toNat) default).name = (l.getD (((Shd.owners l ((keys.take ((min (keys.length : Int) 40).toNat)).getD i default) (2 : Int)).getD 1 default).toNat) default).name))) rfl (fun hc37 => ?_) (fun hc37 => ?_)
            · simp only [Bool.not_eq_true', decide_eq_false_iff_not] at hc37
              exfalso; have hq := hc37; first | exact hq hsm | (simp at hq; exact hq hsm)
            · simp only [Bool.not_eq_false', decide_eq_true_eq] at hc37
              refine c_skip ?_
              refine q_block_normal (q_then ?_)
              refine c_region ?_
              refine o_pure (p_move (v := .int .i64 (i : Int)) rfl) rfl rfl rfl ?_
              refine o_pure (p_addb (p := (i : Int)) (q := 1) rfl rfl (by omega)) rfl rfl rfl ?_
              refine o_pure (p_assign (v := .int .i64 ((i : Int) + 1)) rfl) rfl rfl rfl ?_
              refine o_nil ?_
              refine q_round hK18 (i + 1) ?_ ?_ ?_ ?_
              · clear hK18
                (try dsimp only); omega
              · (try dsimp only); omega
              · exact Sub.cons rfl (Sub.cons rfl (Sub.cons rfl (Sub.cons rfl (Sub.cons rfl (Sub.cons rfl (Sub.cons rfl (Sub.nil _)))))))
              · exact fun _ hw => HeapIs.pick hw [1, 2, 3, 4] (by decide) rfl
          · simp only [beq_eq_false_iff_ne, ne_eq] at hc36
            have hsm := hmn.same2 hc36
            refine c_skip ?_
            refine q_then ?_
            refine c_seq ?_
            refine c_region ?_
            refine o_pure (p_move (v := .slice a4_9 ((l.take at_.toNat) ++ (l.drop ((at_ + 1).toNat))).length c4_9) rfl) rfl rfl rfl ?_
            refine o_pure (p_move (v := .int .i64 (Shd.owner ((l.take at_.toNat) ++ (l.drop ((at_ + 1).toNat))) ((keys.take ((min (keys.length : Int) 40).toNat)).getD i default))) rfl) rfl rfl rfl ?_
            refine o_pure (p_indexAddr (L := ((l.take at_.toNat) ++ (l.drop ((at_ + 1).toNat)))) (T := tShard) (i := (Shd.owner ((l.take at_.toNat) ++ (l.drop ((at_ + 1).toNat))) ((keys.take ((min (keys.length : Int) 40).toNat)).getD i default))) rfl rfl (rd_own (i := 3) rfl) Try.underlying43 sz50 (by omega) (by omega)) rfl rfl rfl ?_
            refine o_pure (p_fieldAddrE rfl fo50_0) rfl rfl rfl ?_
            refine o_pure (p_loadF (i := (Shd.owner ((l.take at_.toNat) ++ (l.drop ((at_ + 1).toNat))) ((keys.take ((min (keys.length : Int) 40).toNat)).getD i default)).toNat) (j := 0) (T := tShard) (L := ((l.take at_.toNat) ++ (l.drop ((at_ + 1).toNat)))) (v := .string ((((l.take at_.toNat) ++ (l.drop ((at_ + 1).toNat))).getD ((Shd.owner ((l.take at_.toNat) ++ (l.drop ((at_ + 1).toNat))) ((keys.take ((min (keys.length : Int) 40).toNat)).getD i default)).toNat) default).name)) rfl (rd_own (i := 3) rfl) (by first | assumption | omega) sh9 (congrArg (fun z => (tShard.enc z)[0]?) (getd_at (by first | assumption | omega) default))) rfl rfl rfl ?_
            refine o_pure (p_move (v := .string ((l.getD (((Shd.owners l ((keys.take ((min (keys.length : Int) 40).toNat)).getD i default) (2 : Int)).getD 0 default).toNat) default).name)) rfl) rfl rfl rfl ?_
            refine o_pure (p_neStr (s := (((l.take at_.toNat) ++ (l.drop ((at_ + 1).toNat))).getD ((Shd.owner ((l.take at_.toNat) ++ (l.drop ((at_ + 1).toNat))) ((keys.take ((min (keys.length : Int) 40).toNat)).getD i default)).toNat) default).name) (t := (l.getD (((Shd.owners l ((keys.take ((min (keys.length : Int) 40).toNat)).getD i default) (2 : Int)).getD 0 default).toNat) default).name) rfl rfl) rfl rfl rfl ?_
            refine o_nil ?_
            refine q_then ?_
            refine c_cond (b := (!decide ((((l.take at_.toNat) ++ (l.drop ((at_ + 1).toNat))).getD ((Shd.owner ((l.take at_.toNat) ++ (l.drop ((at_ + 1).toNat))) ((keys.take ((min (keys.length : Int) 40).toNat)).getD i default)).toNat) default).name = (l.getD (((Shd.owners l ((keys.take ((min (keys.length : Int) 40).toNat)).getD i default) (2 : Int)).getD 0 default).toNat) default).name))) rfl (fun hc38 => ?_) (fun hc38 => ?_)
            · simp only [Bool.not_eq_true', decide_eq_false_iff_not] at hc38
              exfalso; have hq := hc38; first | exact hq hsm | (simp at hq; exact hq hsm)
            · simp only [Bool.not_eq_false', decide_eq_true_eq] at hc38
              refine c_skip ?_
              refine q_block_normal (q_then ?_)
              refine c_region ?_
              refine o_pure (p_move (v := .int .i64 (i : Int)) rfl) rfl rfl rfl ?_
              refine o_pure (p_addb (p := (i : Int)) (q := 1) rfl rfl (by omega)) rfl rfl rfl ?_
              refine o_pure (p_assign (v := .int .i64 ((i : Int) + 1)) rfl) rfl rfl rfl ?_
              refine o_nil ?_
              refine q_round hK18 (i + 1) ?_ ?_ ?_ ?_
              · clear hK18
                (try dsimp only); omega
              · (try dsimp only); omega
              · exact Sub.cons rfl (Sub.cons rfl (Sub.cons rfl (Sub.cons rfl (Sub.cons rfl (Sub.cons rfl (Sub.cons rfl (Sub.nil _)))))))
              · exact fun _ hw => HeapIs.pick hw [1, 2, 3, 4] (by decide) rfl
      · simp only [decide_eq_false_iff_not, Int.not_lt] at hc19
        refine c_exit ?_
        refine q_then_exit (q_then_exit (q_block_exit (q_then ?_)))
        refine c_seq ?_
        refine c_region ?_
        refine o_pure (p_assign (v := .bool true) rfl) rfl rfl rfl ?_
        refine o_nil ?_
        refine q_then ?_
        refine c_ret ?_
        refine q_end0 (v := .bool true) (rt1 rfl (r_tmp rfl)) (i := 3) rfl ?_
        exact rfl
end Go.Proofs.Ythecfjipaepcgaa
