/- The walks, printed by a program from the translation and a specification. -/
import Derived.Test.YthbfdhphnofacaaAaF
import Derived.Test.YthbfdhphnofacaaFlPure
import Derived.Test.YthbfdhphnofacaaFlLaw
import Derived.Test.YthbfdhphnofacaaAaW5
import Derived.Test.YthbfdhphnofacaaFlLaw3
namespace Go.Proofs.Ythbfdhphnofacaa
open Go.Sx Go.RowKit
set_option maxHeartbeats 8000000 in
set_option maxRecDepth 100000 in
theorem flightLoads_ok (l : List DCall) (al : Option Addr) (cl : Nat) : Fn0 Try.prog 9 [.slice al l.length cl] (fun w => Rd tCall w al cl l) (.bool true) := by
  refine fn0 (nt := 80) (F0 := [(0, .slice al l.length cl)]) Try.func9 rfl Try.ntmps9 rfl rfl (fun w0 hpre => ?_)
  have hl := hpre
  have hll := hl.2.1
  refine c_seq ?_
  refine c_region ?_
  refine o_pure (p_assign (v := .bool false) rfl) rfl rfl rfl ?_
  refine o_nil ?_
  refine q_then ?_
  refine c_seq ?_
  refine c_region ?_
  refine o_pure (p_move (v := .slice al l.length cl) rfl) rfl rfl rfl ?_
  refine o_call0 (v := .tuple #[.int .i64 (Flight.loads l), .int .i64 (Flight.check l)]) rfl (loads_ok l al cl) hf25 (fun w hw => (rd_base (i := 0) rfl hl) w hw) rfl ?_
  refine o_pure (p_move (v := .tuple #[.int .i64 (Flight.loads l), .int .i64 (Flight.check l)]) rfl) rfl rfl rfl ?_
  refine o_pure (p_extract (vs := [.int .i64 (Flight.loads l), .int .i64 (Flight.check l)]) (v := .int .i64 (Flight.loads l)) rfl rfl) rfl rfl rfl ?_
  refine o_pure (p_extract (vs := [.int .i64 (Flight.loads l), .int .i64 (Flight.check l)]) (v := .int .i64 (Flight.check l)) rfl rfl) rfl rfl rfl ?_
  refine o_pure (p_assign (v := .int .i64 (Flight.loads l)) rfl) rfl rfl rfl ?_
  refine o_pure (p_assign (v := .int .i64 (Flight.check l)) rfl) rfl rfl rfl ?_
  refine o_nil ?_
  refine q_then ?_
  refine c_seq ?_
  refine c_seq ?_
  refine c_region ?_
  refine o_call0 (v := .bool true) rfl (crowdBegun_ok ) hf29 (fun _ _ => trivial) rfl ?_
  refine o_pure (p_not (b := true) rfl) rfl rfl rfl ?_
  refine o_nil ?_
  refine q_then ?_
  refine c_false rfl ?_
  refine c_skip ?_
  refine q_then ?_
  refine c_seq ?_
  refine c_seq ?_
  refine c_region ?_
  refine o_pure (p_move (v := .int .i64 (Flight.check l)) rfl) rfl rfl rfl ?_
  refine o_pure (p_ne (p := (Flight.check l)) (q := 0) rfl rfl) rfl rfl rfl ?_
  refine o_nil ?_
  refine q_then ?_
  refine c_cond (b := ((Flight.check l) != 0)) rfl (fun hc1 => ?_) (fun hc1 => ?_)
  · simp only [bne_iff_ne, ne_eq] at hc1
    refine c_seq ?_
    refine c_region ?_
    refine o_pure (p_move (v := .int .i64 (Flight.loads l)) rfl) rfl rfl rfl ?_
    refine o_pure (p_eq (p := (Flight.loads l)) (q := 0) rfl rfl) rfl rfl rfl ?_
    refine o_pure (p_assign (v := .bool ((Flight.loads l) == 0)) rfl) rfl rfl rfl ?_
    refine o_nil ?_
    refine q_then ?_
    refine c_ret ?_
    refine q_then_ret ?_
    refine q_end0 (v := .bool ((Flight.loads l) == 0)) (rt1 rfl (r_tmp rfl)) (i := 0) rfl ?_
    first
      | (rw [Flight.loads_no (by assumption)]; rfl)
      | (obtain ⟨d1, d2, d3⟩ := Flight.LInv.done (by assumption) hI (by omega)
         congr 1
         cases near
         · simp
         · by_cases e : keys.length = 1
           · simp [d3 rfl e]
           · simp; left; omega)
  · simp only [bne_eq_false_iff_eq] at hc1
    refine c_skip ?_
    refine q_then ?_
    refine c_seq ?_
    refine c_region ?_
    refine o_pure (p_assign (v := .slice none 0 0) rfl) rfl rfl rfl ?_
    refine o_nil ?_
    refine q_then ?_
    refine c_seq ?_
    refine c_region ?_
    refine o_pure (p_assign (v := .bool true) rfl) rfl rfl rfl ?_
    refine o_nil ?_
    refine q_then ?_
    refine c_seq ?_
    refine c_seq ?_
    refine c_region ?_
    refine o_pure (p_assign (v := .int .i64 0) rfl) rfl rfl rfl ?_
    refine o_nil ?_
    refine q_then ?_
    refine c_block ?_
    refine c_ownNil tInt ?_
    refine c_loop (St := List Int × Option Addr × Nat × (Nat → Prop) × Bool × Nat)
      (fun ⟨keys, akeys, ckeys, Skeys, near, i⟩ => [(0, .slice al l.length cl), (3, .int .i64 (Flight.loads l)), (5, .slice akeys keys.length ckeys), (6, .bool near), (7, .int .i64 (i : Int))])
      (fun ⟨keys, akeys, ckeys, Skeys, near, i⟩ => [own tInt Skeys akeys ckeys keys, base w0])
      (fun ⟨keys, akeys, ckeys, Skeys, near, i⟩ => Flight.LInv l keys near i)
      (fun ⟨keys, akeys, ckeys, Skeys, near, i⟩ => l.length - i)
      ([], none, 0, (fun _ => False), true, 0) ?_ (Sub.cons rfl (Sub.cons rfl (Sub.cons rfl (Sub.cons rfl (Sub.cons rfl (Sub.nil _)))))) (fun _ hw => hw) ?_
    · exact Flight.LInv.start l
    rintro ⟨keys, akeys, ckeys, Skeys, near, i⟩ hI K hK3
    show SC Try.prog 80 w0 _ _ [(0, .slice al l.length cl), (3, .int .i64 (Flight.loads l)), (5, .slice akeys keys.length ckeys), (6, .bool near), (7, .int .i64 (i : Int))] [own tInt Skeys akeys ckeys keys, base w0]
    refine c_seq ?_
    refine c_seq ?_
    refine c_region ?_
    refine o_pure (p_move (v := .int .i64 (i : Int)) rfl) rfl rfl rfl ?_
    refine o_pure (p_move (v := .slice al l.length cl) rfl) rfl rfl rfl ?_
    refine o_pure (p_len_slice (len := l.length) rfl rfl Try.underlying37) rfl rfl rfl ?_
    refine o_pure (p_lt (p := (i : Int)) (q := (l.length : Int)) rfl rfl) rfl rfl rfl ?_
    refine o_nil ?_
    refine q_then ?_
    refine c_cond (b := decide ((i : Int) < (l.length : Int))) rfl (fun hc4 => ?_) (fun hc4 => ?_)
    · simp only [decide_eq_true_eq] at hc4
      have hch : Flight.check l = 0 := by assumption
      have h60 := Flight.check_len hch
      have hi2 : i < l.length := by omega
      have hkl := hI.2.1
      refine c_skip ?_
      refine q_then ?_
      refine c_seq ?_
      refine c_block ?_
      refine c_seq ?_
      refine c_seq ?_
      refine c_region ?_
      refine o_pure (p_move (v := .slice akeys keys.length ckeys) rfl) rfl rfl rfl ?_
      refine o_pure (p_move (v := .slice al l.length cl) rfl) rfl rfl rfl ?_
      refine o_pure (p_move (v := .int .i64 (i : Int)) rfl) rfl rfl rfl ?_
      refine o_pure (p_indexAddr (L := l) (T := tCall) (i := (i : Int)) rfl rfl (rd_base (i := 1) rfl hl) Try.underlying37 sz47 (by omega) (by omega)) rfl rfl rfl ?_
      refine o_pure (p_fieldAddrE rfl fo47_0) rfl rfl rfl ?_
      refine o_pure (p_loadF (i := i) (j := 0) (T := tCall) (L := l) (v := .int .i64 ((l[i]).key)) rfl (rd_base (i := 1) rfl hl) (by first | assumption | omega) sh3 rfl) rfl rfl rfl ?_
      refine o_call0 (v := .bool (Ref.hasInt keys ((l[i]).key))) rfl (hasInt_ok keys akeys ckeys ((l[i]).key)) hf32 (fun w hw => (rd_own (i := 0) rfl) w hw) rfl ?_
      refine o_pure (p_not (b := (Ref.hasInt keys ((l[i]).key))) rfl) rfl rfl rfl ?_
      refine o_nil ?_
      refine q_then ?_
      refine c_cond (b := (!(Ref.hasInt keys ((l[i]).key)))) rfl (fun hc5 => ?_) (fun hc5 => ?_)
      · simp only [Bool.not_eq_true'] at hc5
        refine c_region ?_
        refine o_pure (p_move (v := .slice akeys keys.length ckeys) rfl) rfl rfl rfl ?_
        refine o_pure (p_move (v := .slice al l.length cl) rfl) rfl rfl rfl ?_
        refine o_pure (p_move (v := .int .i64 (i : Int)) rfl) rfl rfl rfl ?_
        refine o_pure (p_indexAddr (L := l) (T := tCall) (i := (i : Int)) rfl rfl (rd_base (i := 1) rfl hl) Try.underlying37 sz47 (by omega) (by omega)) rfl rfl rfl ?_
        refine o_pure (p_fieldAddrE rfl fo47_0) rfl rfl rfl ?_
        refine o_pure (p_loadF (i := i) (j := 0) (T := tCall) (L := l) (v := .int .i64 ((l[i]).key)) rfl (rd_base (i := 1) rfl hl) (by first | assumption | omega) sh3 rfl) rfl rfl rfl ?_
        refine o_buildSlice (m := 1) (T := tInt) (L := [(l[i]).key]) (vs := [.int .i64 ((l[i]).key)]) rfl rfl rfl rfl Try.underlying38 sz3 (by decide) ze3 rfl (by decide) rfl (fun S6 a7 => ?_)
        refine o_append (i := 1) (L := keys) (M := [(l[i]).key]) (T := tInt) rfl rfl rfl (rd_own (i := 0) rfl) Try.underlying38 Try.underlying38 (by intro k h; cases h) el3 (by intro z; simp [tInt, one1]) (by decide) (by simp only [List.length_cons, List.length_nil]; omega) rfl (fun a9 c10 S11 => ?_)
        refine o_pure (p_assign (v := .slice a9 (keys ++ [(l[i]).key]).length c10) rfl) rfl rfl rfl ?_
        refine o_nil ?_
        refine q_then ?_
        refine c_draw hmix (by kernel_rfl) ?_
        refine w_pure (p_move (v := .bool near) rfl) rfl rfl rfl ?_
        refine w_pure (p_move (v := .bool near) rfl) rfl rfl rfl ?_
        refine w_and (p := 58) 16 (decide ((IntKind.i64.wrap ((l[i]).at_ - (l[0]).at_)) < (l[0]).long)) ?_ ?_ ?_
        · intro hb12 hk
          skip
          refine w_unguard 42 rfl rfl ?_
          refine w_pure (p_move (v := .slice al l.length cl) rfl) rfl rfl rfl ?_
          refine w_unguard 42 rfl rfl ?_
          refine w_pure (p_move (v := .int .i64 (i : Int)) rfl) rfl rfl rfl ?_
          refine w_unguard 42 rfl rfl ?_
          refine w_pure (p_indexAddr (L := l) (T := tCall) (i := (i : Int)) rfl rfl (rd_base (i := 2) rfl hl) Try.underlying37 sz47 (by omega) (by omega)) rfl rfl rfl ?_
          refine w_unguard 42 rfl rfl ?_
          refine w_pure (p_fieldAddrE rfl fo47_1) rfl rfl rfl ?_
          refine w_unguard 42 rfl rfl ?_
          refine w_pure (p_loadF (i := i) (j := 1) (T := tCall) (L := l) (v := .int .i64 ((l[i]).at_)) rfl (rd_base (i := 2) rfl hl) (by first | assumption | omega) sh3 rfl) rfl rfl rfl ?_
          refine w_unguard 42 rfl rfl ?_
          refine w_pure (p_move (v := .slice al l.length cl) rfl) rfl rfl rfl ?_
          refine w_unguard 42 rfl rfl ?_
          refine w_pure (p_indexAddr (L := l) (T := tCall) (i := 0) rfl rfl (rd_base (i := 2) rfl hl) Try.underlying37 sz47 (by omega) (by omega)) rfl rfl rfl ?_
          refine w_unguard 42 rfl rfl ?_
          refine w_pure (p_fieldAddrE rfl fo47_1) rfl rfl rfl ?_
          refine w_unguard 42 rfl rfl ?_
          refine w_pure (p_loadF (i := 0) (j := 1) (T := tCall) (L := l) (v := .int .i64 ((l[0]).at_)) rfl (rd_base (i := 2) rfl hl) (by first | assumption | omega) sh3 rfl) rfl rfl rfl ?_
          refine w_unguard 42 rfl rfl ?_
          refine w_pure (p_sub (p := (l[i]).at_) (q := (l[0]).at_) rfl rfl) rfl rfl rfl ?_
          refine w_unguard 42 rfl rfl ?_
          refine w_pure (p_move (v := .slice al l.length cl) rfl) rfl rfl rfl ?_
          refine w_unguard 42 rfl rfl ?_
          refine w_pure (p_indexAddr (L := l) (T := tCall) (i := 0) rfl rfl (rd_base (i := 2) rfl hl) Try.underlying37 sz47 (by omega) (by omega)) rfl rfl rfl ?_
          refine w_unguard 42 rfl rfl ?_
          refine w_pure (p_fieldAddrE rfl fo47_2) rfl rfl rfl ?_
          refine w_unguard 42 rfl rfl ?_
          refine w_pure (p_loadF (i := 0) (j := 2) (T := tCall) (L := l) (v := .int .i64 ((l[0]).long)) rfl (rd_base (i := 2) rfl hl) (by first | assumption | omega) sh3 rfl) rfl rfl rfl ?_
          refine w_unguard 42 rfl rfl ?_
          refine w_pure (p_lt (p := (IntKind.i64.wrap ((l[i]).at_ - (l[0]).at_))) (q := (l[0]).long) rfl rfl) rfl rfl rfl ?_
          refine w_pure (p_pick_true (u := .bool (decide ((IntKind.i64.wrap ((l[i]).at_ - (l[0]).at_)) < (l[0]).long))) rfl rfl) rfl rfl rfl ?_
          exact w_sub (Sub.cons rfl (Sub.skip rfl (Sub.skip rfl (Sub.skip rfl (Sub.skip rfl (Sub.skip rfl (Sub.skip rfl (Sub.skip rfl (Sub.skip rfl (Sub.skip rfl (Sub.skip rfl (Sub.skip rfl (Sub.skip rfl (Sub.skip rfl (Sub.skip rfl (Sub.skip rfl (Sub.skip rfl (Sub.skip rfl (Sub.refl _))))))))))))))))))) hk
        · intro hb12 hk
          refine w_guard_no rfl 42 rfl rfl rfl rfl rfl ?_
          refine w_guard_no rfl 42 rfl rfl rfl rfl rfl ?_
          refine w_guard_no rfl 42 rfl rfl rfl rfl rfl ?_
          refine w_guard_no rfl 42 rfl rfl rfl rfl rfl ?_
          refine w_guard_no rfl 42 rfl rfl rfl rfl rfl ?_
          refine w_guard_no rfl 42 rfl rfl rfl rfl rfl ?_
          refine w_guard_no rfl 42 rfl rfl rfl rfl rfl ?_
          refine w_guard_no rfl 42 rfl rfl rfl rfl rfl ?_
          refine w_guard_no rfl 42 rfl rfl rfl rfl rfl ?_
          refine w_guard_no rfl 42 rfl rfl rfl rfl rfl ?_
          refine w_guard_no rfl 42 rfl rfl rfl rfl rfl ?_
          refine w_guard_no rfl 42 rfl rfl rfl rfl rfl ?_
          refine w_guard_no rfl 42 rfl rfl rfl rfl rfl ?_
          refine w_guard_no rfl 42 rfl rfl rfl rfl rfl ?_
          refine w_guard_no rfl 42 rfl rfl rfl rfl rfl ?_
          refine w_pure (p_pick_false (v := .bool false) rfl rfl) rfl rfl rfl ?_
          exact w_sub (Sub.cons rfl (Sub.skip rfl (Sub.skip rfl (Sub.skip rfl (Sub.skip rfl (Sub.skip rfl (Sub.skip rfl (Sub.skip rfl (Sub.skip rfl (Sub.skip rfl (Sub.skip rfl (Sub.skip rfl (Sub.skip rfl (Sub.skip rfl (Sub.skip rfl (Sub.skip rfl (Sub.skip rfl (Sub.skip rfl (Sub.refl _))))))))))))))))))) hk
        refine w_pure (p_assign (v := .bool (near && decide ((IntKind.i64.wrap ((l[i]).at_ - (l[0]).at_)) < (l[0]).long))) rfl) rfl rfl rfl ?_
        refine w_nil ?_
        refine q_block_normal (q_then ?_)
        refine c_region ?_
        refine o_pure (p_move (v := .int .i64 (i : Int)) rfl) rfl rfl rfl ?_
        refine o_pure (p_addb (p := (i : Int)) (q := 1) rfl rfl (by omega)) rfl rfl rfl ?_
        refine o_pure (p_assign (v := .int .i64 ((i : Int) + 1)) rfl) rfl rfl rfl ?_
        refine o_nil ?_
        refine q_round hK3 ((keys ++ [(l[i]).key]), a9, c10, S11, (near && decide ((IntKind.i64.wrap ((l[i]).at_ - (l[0]).at_)) < (l[0]).long)), i + 1) ?_ ?_ ?_ ?_
        · clear hK3
          first | exact Flight.LInv.step hch hI hi2 _ (Or.inl ⟨by assumption, rfl⟩) | exact Flight.LInv.step hch hI hi2 _ (Or.inr ⟨by assumption, rfl⟩)
        · (try dsimp only); omega
        · exact Sub.cons rfl (Sub.cons rfl (Sub.cons rfl (Sub.cons rfl (Sub.cons rfl (Sub.nil _)))))
        · exact fun _ hw => HeapIs.drop hw (List.Sublist.cons _ (List.Sublist.refl _))
      · simp only [Bool.not_eq_false'] at hc5
        refine c_skip ?_
        refine q_then ?_
        refine c_draw hmix (by kernel_rfl) ?_
        refine w_pure (p_move (v := .bool near) rfl) rfl rfl rfl ?_
        refine w_pure (p_move (v := .bool near) rfl) rfl rfl rfl ?_
        refine w_and (p := 58) 16 (decide ((IntKind.i64.wrap ((l[i]).at_ - (l[0]).at_)) < (l[0]).long)) ?_ ?_ ?_
        · intro hb13 hk
          skip
          refine w_unguard 42 rfl rfl ?_
          refine w_pure (p_move (v := .slice al l.length cl) rfl) rfl rfl rfl ?_
          refine w_unguard 42 rfl rfl ?_
          refine w_pure (p_move (v := .int .i64 (i : Int)) rfl) rfl rfl rfl ?_
          refine w_unguard 42 rfl rfl ?_
          refine w_pure (p_indexAddr (L := l) (T := tCall) (i := (i : Int)) rfl rfl (rd_base (i := 1) rfl hl) Try.underlying37 sz47 (by omega) (by omega)) rfl rfl rfl ?_
          refine w_unguard 42 rfl rfl ?_
          refine w_pure (p_fieldAddrE rfl fo47_1) rfl rfl rfl ?_
          refine w_unguard 42 rfl rfl ?_
          refine w_pure (p_loadF (i := i) (j := 1) (T := tCall) (L := l) (v := .int .i64 ((l[i]).at_)) rfl (rd_base (i := 1) rfl hl) (by first | assumption | omega) sh3 rfl) rfl rfl rfl ?_
          refine w_unguard 42 rfl rfl ?_
          refine w_pure (p_move (v := .slice al l.length cl) rfl) rfl rfl rfl ?_
          refine w_unguard 42 rfl rfl ?_
          refine w_pure (p_indexAddr (L := l) (T := tCall) (i := 0) rfl rfl (rd_base (i := 1) rfl hl) Try.underlying37 sz47 (by omega) (by omega)) rfl rfl rfl ?_
          refine w_unguard 42 rfl rfl ?_
          refine w_pure (p_fieldAddrE rfl fo47_1) rfl rfl rfl ?_
          refine w_unguard 42 rfl rfl ?_
          refine w_pure (p_loadF (i := 0) (j := 1) (T := tCall) (L := l) (v := .int .i64 ((l[0]).at_)) rfl (rd_base (i := 1) rfl hl) (by first | assumption | omega) sh3 rfl) rfl rfl rfl ?_
          refine w_unguard 42 rfl rfl ?_
          refine w_pure (p_sub (p := (l[i]).at_) (q := (l[0]).at_) rfl rfl) rfl rfl rfl ?_
          refine w_unguard 42 rfl rfl ?_
          refine w_pure (p_move (v := .slice al l.length cl) rfl) rfl rfl rfl ?_
          refine w_unguard 42 rfl rfl ?_
          refine w_pure (p_indexAddr (L := l) (T := tCall) (i := 0) rfl rfl (rd_base (i := 1) rfl hl) Try.underlying37 sz47 (by omega) (by omega)) rfl rfl rfl ?_
          refine w_unguard 42 rfl rfl ?_
          refine w_pure (p_fieldAddrE rfl fo47_2) rfl rfl rfl ?_
          refine w_unguard 42 rfl rfl ?_
          refine w_pure (p_loadF (i := 0) (j := 2) (T := tCall) (L := l) (v := .int .i64 ((l[0]).long)) rfl (rd_base (i := 1) rfl hl) (by first | assumption | omega) sh3 rfl) rfl rfl rfl ?_
          refine w_unguard 42 rfl rfl ?_
          refine w_pure (p_lt (p := (IntKind.i64.wrap ((l[i]).at_ - (l[0]).at_))) (q := (l[0]).long) rfl rfl) rfl rfl rfl ?_
          refine w_pure (p_pick_true (u := .bool (decide ((IntKind.i64.wrap ((l[i]).at_ - (l[0]).at_)) < (l[0]).long))) rfl rfl) rfl rfl rfl ?_
          exact w_sub (Sub.cons rfl (Sub.skip rfl (Sub.skip rfl (Sub.skip rfl (Sub.skip rfl (Sub.skip rfl (Sub.skip rfl (Sub.skip rfl (Sub.skip rfl (Sub.skip rfl (Sub.skip rfl (Sub.skip rfl (Sub.skip rfl (Sub.skip rfl (Sub.skip rfl (Sub.skip rfl (Sub.skip rfl (Sub.skip rfl (Sub.refl _))))))))))))))))))) hk
        · intro hb13 hk
          refine w_guard_no rfl 42 rfl rfl rfl rfl rfl ?_
          refine w_guard_no rfl 42 rfl rfl rfl rfl rfl ?_
          refine w_guard_no rfl 42 rfl rfl rfl rfl rfl ?_
          refine w_guard_no rfl 42 rfl rfl rfl rfl rfl ?_
          refine w_guard_no rfl 42 rfl rfl rfl rfl rfl ?_
          refine w_guard_no rfl 42 rfl rfl rfl rfl rfl ?_
          refine w_guard_no rfl 42 rfl rfl rfl rfl rfl ?_
          refine w_guard_no rfl 42 rfl rfl rfl rfl rfl ?_
          refine w_guard_no rfl 42 rfl rfl rfl rfl rfl ?_
          refine w_guard_no rfl 42 rfl rfl rfl rfl rfl ?_
          refine w_guard_no rfl 42 rfl rfl rfl rfl rfl ?_
          refine w_guard_no rfl 42 rfl rfl rfl rfl rfl ?_
          refine w_guard_no rfl 42 rfl rfl rfl rfl rfl ?_
          refine w_guard_no rfl 42 rfl rfl rfl rfl rfl ?_
          refine w_guard_no rfl 42 rfl rfl rfl rfl rfl ?_
          refine w_pure (p_pick_false (v := .bool false) rfl rfl) rfl rfl rfl ?_
          exact w_sub (Sub.cons rfl (Sub.skip rfl (Sub.skip rfl (Sub.skip rfl (Sub.skip rfl (Sub.skip rfl (Sub.skip rfl (Sub.skip rfl (Sub.skip rfl (Sub.skip rfl (Sub.skip rfl (Sub.skip rfl (Sub.skip rfl (Sub.skip rfl (Sub.skip rfl (Sub.skip rfl (Sub.skip rfl (Sub.skip rfl (Sub.refl _))))))))))))))))))) hk
        refine w_pure (p_assign (v := .bool (near && decide ((IntKind.i64.wrap ((l[i]).at_ - (l[0]).at_)) < (l[0]).long))) rfl) rfl rfl rfl ?_
        refine w_nil ?_
        refine q_block_normal (q_then ?_)
        refine c_region ?_
        refine o_pure (p_move (v := .int .i64 (i : Int)) rfl) rfl rfl rfl ?_
        refine o_pure (p_addb (p := (i : Int)) (q := 1) rfl rfl (by omega)) rfl rfl rfl ?_
        refine o_pure (p_assign (v := .int .i64 ((i : Int) + 1)) rfl) rfl rfl rfl ?_
        refine o_nil ?_
        refine q_round hK3 (keys, akeys, ckeys, Skeys, (near && decide ((IntKind.i64.wrap ((l[i]).at_ - (l[0]).at_)) < (l[0]).long)), i + 1) ?_ ?_ ?_ ?_
        · clear hK3
          first | exact Flight.LInv.step hch hI hi2 _ (Or.inl ⟨by assumption, rfl⟩) | exact Flight.LInv.step hch hI hi2 _ (Or.inr ⟨by assumption, rfl⟩)
        · (try dsimp only); omega
        · exact Sub.cons rfl (Sub.cons rfl (Sub.cons rfl (Sub.cons rfl (Sub.cons rfl (Sub.nil _)))))
        · exact fun _ hw => HeapIs.drop hw (List.Sublist.refl _)
    · simp only [decide_eq_false_iff_not, Int.not_lt] at hc4
      refine c_exit ?_
      refine q_then_exit (q_then_exit (q_block_exit (q_then ?_)))
      refine c_seq ?_
      refine c_seq ?_
      refine c_region ?_
      refine o_pure (p_move (v := .int .i64 (Flight.loads l)) rfl) rfl rfl rfl ?_
      refine o_pure (p_move (v := .slice al l.length cl) rfl) rfl rfl rfl ?_
      refine o_pure (p_len_slice (len := l.length) rfl rfl Try.underlying37) rfl rfl rfl ?_
      refine o_pure (p_gt (p := (Flight.loads l)) (q := (l.length : Int)) rfl rfl) rfl rfl rfl ?_
      refine o_pure (p_move (v := .bool (decide ((l.length : Int) < (Flight.loads l)))) rfl) rfl rfl rfl ?_
      refine o_or (p := 68) 5 (decide ((Flight.loads l) < (keys.length : Int))) ?_ ?_ ?_
      · intro hb14 hk
        simp only [decide_eq_false_iff_not, Int.not_lt] at hb14
        refine o_unguard 63 rfl rfl ?_
        refine o_pure (p_move (v := .int .i64 (Flight.loads l)) rfl) rfl rfl rfl ?_
        refine o_unguard 63 rfl rfl ?_
        refine o_pure (p_move (v := .slice akeys keys.length ckeys) rfl) rfl rfl rfl ?_
        refine o_unguard 63 rfl rfl ?_
        refine o_pure (p_len_slice (len := keys.length) rfl rfl Try.underlying38) rfl rfl rfl ?_
        refine o_unguard 63 rfl rfl ?_
        refine o_pure (p_lt (p := (Flight.loads l)) (q := (keys.length : Int)) rfl rfl) rfl rfl rfl ?_
        refine o_pure (p_pick_false (v := .bool (decide ((Flight.loads l) < (keys.length : Int)))) rfl rfl) rfl rfl rfl ?_
        exact o_sub (Sub.cons rfl (Sub.skip rfl (Sub.skip rfl (Sub.skip rfl (Sub.skip rfl (Sub.skip rfl (Sub.skip rfl (Sub.refl _)))))))) hk
      · intro hb14 hk
        refine o_guard_no rfl 63 rfl rfl rfl rfl rfl ?_
        refine o_guard_no rfl 63 rfl rfl rfl rfl rfl ?_
        refine o_guard_no rfl 63 rfl rfl rfl rfl rfl ?_
        refine o_guard_no rfl 63 rfl rfl rfl rfl rfl ?_
        refine o_pure (p_pick_true (u := .bool true) rfl rfl) rfl rfl rfl ?_
        exact o_sub (Sub.cons rfl (Sub.skip rfl (Sub.skip rfl (Sub.skip rfl (Sub.skip rfl (Sub.skip rfl (Sub.skip rfl (Sub.refl _)))))))) hk
      refine o_nil ?_
      refine q_then ?_
      refine c_cond (b := (decide ((l.length : Int) < (Flight.loads l)) || decide ((Flight.loads l) < (keys.length : Int)))) rfl (fun hc15 => ?_) (fun hc15 => ?_)
      · simp only [Bool.or_eq_true, decide_eq_true_eq] at hc15
        exfalso
        obtain ⟨d1, d2, d3⟩ := Flight.LInv.done (by assumption) hI (by omega)
        omega
      · simp only [Bool.or_eq_false_iff, decide_eq_false_iff_not, Int.not_lt] at hc15
        refine c_skip ?_
        refine q_then ?_
        refine c_seq ?_
        refine c_region ?_
        refine o_pure (p_move (v := .bool near) rfl) rfl rfl rfl ?_
        refine o_pure (p_not (b := near) rfl) rfl rfl rfl ?_
        refine o_pure (p_move (v := .bool (!near)) rfl) rfl rfl rfl ?_
        refine o_or (p := 75) 4 ((keys.length : Int) != 1) ?_ ?_ ?_
        · intro hb16 hk
          simp only [Bool.not_eq_false'] at hb16
          refine o_unguard 71 rfl rfl ?_
          refine o_pure (p_move (v := .slice akeys keys.length ckeys) rfl) rfl rfl rfl ?_
          refine o_unguard 71 rfl rfl ?_
          refine o_pure (p_len_slice (len := keys.length) rfl rfl Try.underlying38) rfl rfl rfl ?_
          refine o_unguard 71 rfl rfl ?_
          refine o_pure (p_ne (p := (keys.length : Int)) (q := 1) rfl rfl) rfl rfl rfl ?_
          refine o_pure (p_pick_false (v := .bool ((keys.length : Int) != 1)) rfl rfl) rfl rfl rfl ?_
          exact o_sub (Sub.cons rfl (Sub.skip rfl (Sub.skip rfl (Sub.skip rfl (Sub.skip rfl (Sub.skip rfl (Sub.refl _))))))) hk
        · intro hb16 hk
          refine o_guard_no rfl 71 rfl rfl rfl rfl rfl ?_
          refine o_guard_no rfl 71 rfl rfl rfl rfl rfl ?_
          refine o_guard_no rfl 71 rfl rfl rfl rfl rfl ?_
          refine o_pure (p_pick_true (u := .bool true) rfl rfl) rfl rfl rfl ?_
          exact o_sub (Sub.cons rfl (Sub.skip rfl (Sub.skip rfl (Sub.skip rfl (Sub.skip rfl (Sub.skip rfl (Sub.refl _))))))) hk
        refine o_pure (p_move (v := .bool ((!near) || ((keys.length : Int) != 1))) rfl) rfl rfl rfl ?_
        refine o_or (p := 79) 3 ((Flight.loads l) == 1) ?_ ?_ ?_
        · intro hb17 hk
          simp only [Bool.or_eq_false_iff, Bool.not_eq_false', bne_eq_false_iff_eq] at hb17
          refine o_unguard 76 rfl rfl ?_
          refine o_pure (p_move (v := .int .i64 (Flight.loads l)) rfl) rfl rfl rfl ?_
          refine o_unguard 76 rfl rfl ?_
          refine o_pure (p_eq (p := (Flight.loads l)) (q := 1) rfl rfl) rfl rfl rfl ?_
          refine o_pure (p_pick_false (v := .bool ((Flight.loads l) == 1)) rfl rfl) rfl rfl rfl ?_
          exact o_sub (Sub.cons rfl (Sub.skip rfl (Sub.skip rfl (Sub.skip rfl (Sub.skip rfl (Sub.refl _)))))) hk
        · intro hb17 hk
          refine o_guard_no rfl 76 rfl rfl rfl rfl rfl ?_
          refine o_guard_no rfl 76 rfl rfl rfl rfl rfl ?_
          refine o_pure (p_pick_true (u := .bool true) rfl rfl) rfl rfl rfl ?_
          exact o_sub (Sub.cons rfl (Sub.skip rfl (Sub.skip rfl (Sub.skip rfl (Sub.skip rfl (Sub.refl _)))))) hk
        refine o_pure (p_assign (v := .bool (((!near) || ((keys.length : Int) != 1)) || ((Flight.loads l) == 1))) rfl) rfl rfl rfl ?_
        refine o_nil ?_
        refine q_then ?_
        refine c_ret ?_
        refine q_end0 (v := .bool (((!near) || ((keys.length : Int) != 1)) || ((Flight.loads l) == 1))) (rt1 rfl (r_tmp rfl)) (i := 1) rfl ?_
        first
          | (rw [Flight.loads_no (by assumption)]; rfl)
          | (obtain ⟨d1, d2, d3⟩ := Flight.LInv.done (by assumption) hI (by omega)
             congr 1
             cases near
             · simp
             · by_cases e : keys.length = 1
               · simp [d3 rfl e]
               · simp; left; omega)
end Go.Proofs.Ythbfdhphnofacaa
