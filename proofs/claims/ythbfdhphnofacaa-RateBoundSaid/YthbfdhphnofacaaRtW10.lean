/- The walks, printed by a program from the translation and a specification. -/
import Derived.Test.YthbfdhphnofacaaRtF
import Derived.Test.YthbfdhphnofacaaRtPure
import Derived.Test.YthbfdhphnofacaaRtW5
import Derived.Test.YthbfdhphnofacaaRtLaw3
namespace Go.Proofs.Ythbfdhphnofacaa
open Go.Sx Go.RowKit
set_option maxHeartbeats 8000000 in
set_option maxRecDepth 100000 in
theorem rateBound_ok (b : DBucket) (ats : List Int) (aats : Option Addr) (cats : Nat) (many : List Int) (amany : Option Addr) (cmany : Nat) : Fn0 Try.prog 14 [.agg #[.int .i64 b.most, .int .i64 b.every, .int .i64 b.has, .int .i64 b.at_], .slice aats ats.length cats, .slice amany many.length cmany] (fun w => Rd tInt w aats cats ats ∧ Rd tInt w amany cmany many) (.bool true) := by
  refine fn0 (nt := 102) (F0 := [(0, .agg #[.int .i64 b.most, .int .i64 b.every, .int .i64 b.has, .int .i64 b.at_]), (1, .slice aats ats.length cats), (2, .slice amany many.length cmany)]) Try.func14 rfl Try.ntmps14 rfl rfl (fun w0 hpre => ?_)
  obtain ⟨hats, hmany⟩ := hpre
  have hlats := hats.2.1
  have hlmany := hmany.2.1
  refine c_seq ?_
  refine c_region ?_
  refine o_box (v := .agg #[.int .i64 b.most, .int .i64 b.every, .int .i64 b.has, .int .i64 b.at_]) rfl rfl (fun B1 => ?_)
  refine o_pure (p_assign (v := .bool false) rfl) rfl rfl rfl ?_
  refine o_nil ?_
  refine q_then ?_
  refine c_seq ?_
  refine c_seq ?_
  refine c_region ?_
  refine o_call0 (v := .bool true) rfl (rateBegun_ok ) hf40 (fun _ _ => trivial) rfl ?_
  refine o_pure (p_not (b := true) rfl) rfl rfl rfl ?_
  refine o_nil ?_
  refine q_then ?_
  refine c_false rfl ?_
  refine c_skip ?_
  refine q_then ?_
  refine c_seq ?_
  refine c_seq ?_
  refine c_region ?_
  refine o_pure (p_load_agg (i := 0) (vs := [.int .i64 b.most, .int .i64 b.every, .int .i64 b.has, .int .i64 b.at_]) rfl rfl sh53 rfl rfl) rfl rfl rfl ?_
  refine o_call0 (v := .int .i64 (Rate.check0 b)) rfl (check0_ok b) hf41 (fun _ _ => trivial) rfl ?_
  refine o_pure (p_ne (p := (Rate.check0 b)) (q := 0) rfl rfl) rfl rfl rfl ?_
  refine o_pure (p_move (v := .bool ((Rate.check0 b) != 0)) rfl) rfl rfl rfl ?_
  refine o_or (p := 24) 4 (decide (549755813888 < b.at_)) ?_ ?_ ?_
  · intro hb2 hk
    simp only [bne_eq_false_iff_eq] at hb2
    refine o_unguard 20 rfl rfl ?_
    refine o_pure (p_fieldAddr (B := B1) (j := 0) (j' := 3) rfl fo53_3 rfl) rfl rfl rfl ?_
    refine o_unguard 20 rfl rfl ?_
    refine o_pure (p_load (i := 0) (v := .int .i64 b.at_) rfl rfl sh3 rfl) rfl rfl rfl ?_
    refine o_unguard 20 rfl rfl ?_
    refine o_pure (p_gt (p := b.at_) (q := 549755813888) rfl rfl) rfl rfl rfl ?_
    refine o_pure (p_pick_false (v := .bool (decide (549755813888 < b.at_))) rfl rfl) rfl rfl rfl ?_
    exact o_sub (Sub.cons rfl (Sub.skip rfl (Sub.skip rfl (Sub.skip rfl (Sub.skip rfl (Sub.skip rfl (Sub.refl _))))))) hk
  · intro hb2 hk
    refine o_guard_no rfl 20 rfl rfl rfl rfl rfl ?_
    refine o_guard_no rfl 20 rfl rfl rfl rfl rfl ?_
    refine o_guard_no rfl 20 rfl rfl rfl rfl rfl ?_
    refine o_pure (p_pick_true (u := .bool true) rfl rfl) rfl rfl rfl ?_
    exact o_sub (Sub.cons rfl (Sub.skip rfl (Sub.skip rfl (Sub.skip rfl (Sub.skip rfl (Sub.skip rfl (Sub.refl _))))))) hk
  refine o_nil ?_
  refine q_then ?_
  refine c_cond (b := (((Rate.check0 b) != 0) || decide (549755813888 < b.at_))) rfl (fun hc3 => ?_) (fun hc3 => ?_)
  · simp only [Bool.or_eq_true, bne_iff_ne, ne_eq, decide_eq_true_eq] at hc3
    refine c_seq ?_
    refine c_region ?_
    refine o_pure (p_assign (v := .bool true) rfl) rfl rfl rfl ?_
    refine o_nil ?_
    refine q_then ?_
    refine c_ret ?_
    refine q_then_ret ?_
    refine q_end0 (v := .bool true) (rt1 rfl (r_tmp rfl)) (i := 1) rfl ?_
    rfl
  · simp only [Bool.or_eq_false_iff, bne_eq_false_iff_eq, decide_eq_false_iff_not, Int.not_lt] at hc3
    refine c_skip ?_
    refine q_then ?_
    refine c_seq ?_
    refine c_draw hmix (by kernel_rfl) ?_
    refine w_pure (p_fieldAddr (B := B1) (j := 0) (j' := 3) rfl fo53_3 rfl) rfl rfl rfl ?_
    refine w_pure (p_load (i := 0) (v := .int .i64 b.at_) rfl rfl sh3 rfl) rfl rfl rfl ?_
    refine w_pure (p_fieldAddr (B := B1) (j := 0) (j' := 3) rfl fo53_3 rfl) rfl rfl rfl ?_
    refine w_pure (p_load (i := 0) (v := .int .i64 b.at_) rfl rfl sh3 rfl) rfl rfl rfl ?_
    refine w_pure (p_assign (v := .int .i64 b.at_) rfl) rfl rfl rfl ?_
    refine w_pure (p_assign (v := .int .i64 0) rfl) rfl rfl rfl ?_
    refine w_pure (p_assign (v := .int .i64 b.at_) rfl) rfl rfl rfl ?_
    refine w_nil ?_
    refine q_then ?_
    refine c_seq ?_
    refine c_region ?_
    refine o_pure (p_fieldAddr (B := B1) (j := 0) (j' := 2) rfl fo53_2 rfl) rfl rfl rfl ?_
    refine o_pure (p_load (i := 0) (v := .int .i64 b.has) rfl rfl sh3 rfl) rfl rfl rfl ?_
    refine o_pure (p_assign (v := .int .i64 b.has) rfl) rfl rfl rfl ?_
    refine o_nil ?_
    refine q_then ?_
    refine c_seq ?_
    refine c_seq ?_
    refine c_region ?_
    refine o_pure (p_assign (v := .int .i64 0) rfl) rfl rfl rfl ?_
    refine o_nil ?_
    refine q_then ?_
    refine c_block ?_
    refine c_loop (St := Int × Int × Nat × DBucket)
      (fun ⟨took, now, i, bb⟩ => [(1, .slice aats ats.length cats), (2, .slice amany many.length cmany), (3, .pointer (some ⟨B1, 0, none⟩)), (7, .int .i64 b.at_), (8, .int .i64 took), (9, .int .i64 now), (10, .int .i64 b.has), (11, .int .i64 (i : Int))])
      (fun ⟨took, now, i, bb⟩ => [box B1 [.int .i64 bb.most, .int .i64 bb.every, .int .i64 bb.has, .int .i64 bb.at_] 53, base w0])
      (fun ⟨took, now, i, bb⟩ => Rate.BInv b bb took now i)
      (fun ⟨took, now, i, bb⟩ => 60 - i)
      (0, b.at_, 0, b) ?_ (Sub.cons rfl (Sub.cons rfl (Sub.cons rfl (Sub.cons rfl (Sub.cons rfl (Sub.cons rfl (Sub.cons rfl (Sub.cons rfl (Sub.nil _))))))))) (fun _ hw => hw) ?_
    · exact Rate.BInv.start (by omega) (by omega)
    rintro ⟨took, now, i, bb⟩ hI K hK4
    show SC Try.prog 102 w0 _ _ [(1, .slice aats ats.length cats), (2, .slice amany many.length cmany), (3, .pointer (some ⟨B1, 0, none⟩)), (7, .int .i64 b.at_), (8, .int .i64 took), (9, .int .i64 now), (10, .int .i64 b.has), (11, .int .i64 (i : Int))] [box B1 [.int .i64 bb.most, .int .i64 bb.every, .int .i64 bb.has, .int .i64 bb.at_] 53, base w0]
    refine c_seq ?_
    refine c_seq ?_
    refine c_region ?_
    refine o_pure (p_move (v := .int .i64 (i : Int)) rfl) rfl rfl rfl ?_
    refine o_pure (p_move (v := .slice aats ats.length cats) rfl) rfl rfl rfl ?_
    refine o_pure (p_len_slice (len := ats.length) rfl rfl Try.underlying38) rfl rfl rfl ?_
    refine o_pure (p_lt (p := (i : Int)) (q := (ats.length : Int)) rfl rfl) rfl rfl rfl ?_
    refine o_pure (p_move (v := .bool (decide ((i : Int) < (ats.length : Int)))) rfl) rfl rfl rfl ?_
    refine o_and (p := 40) 5 (decide ((i : Int) < (many.length : Int))) ?_ ?_ ?_
    · intro hb5 hk
      simp only [decide_eq_true_eq] at hb5
      refine o_unguard 35 rfl rfl ?_
      refine o_pure (p_move (v := .int .i64 (i : Int)) rfl) rfl rfl rfl ?_
      refine o_unguard 35 rfl rfl ?_
      refine o_pure (p_move (v := .slice amany many.length cmany) rfl) rfl rfl rfl ?_
      refine o_unguard 35 rfl rfl ?_
      refine o_pure (p_len_slice (len := many.length) rfl rfl Try.underlying38) rfl rfl rfl ?_
      refine o_unguard 35 rfl rfl ?_
      refine o_pure (p_lt (p := (i : Int)) (q := (many.length : Int)) rfl rfl) rfl rfl rfl ?_
      refine o_pure (p_pick_true (u := .bool (decide ((i : Int) < (many.length : Int)))) rfl rfl) rfl rfl rfl ?_
      exact o_sub (Sub.cons rfl (Sub.skip rfl (Sub.skip rfl (Sub.skip rfl (Sub.skip rfl (Sub.skip rfl (Sub.skip rfl (Sub.refl _)))))))) hk
    · intro hb5 hk
      refine o_guard_no rfl 35 rfl rfl rfl rfl rfl ?_
      refine o_guard_no rfl 35 rfl rfl rfl rfl rfl ?_
      refine o_guard_no rfl 35 rfl rfl rfl rfl rfl ?_
      refine o_guard_no rfl 35 rfl rfl rfl rfl rfl ?_
      refine o_pure (p_pick_false (v := .bool false) rfl rfl) rfl rfl rfl ?_
      exact o_sub (Sub.cons rfl (Sub.skip rfl (Sub.skip rfl (Sub.skip rfl (Sub.skip rfl (Sub.skip rfl (Sub.skip rfl (Sub.refl _)))))))) hk
    refine o_pure (p_move (v := .bool (decide ((i : Int) < (ats.length : Int)) && decide ((i : Int) < (many.length : Int)))) rfl) rfl rfl rfl ?_
    refine o_and (p := 44) 3 (decide ((i : Int) < 60)) ?_ ?_ ?_
    · intro hb6 hk
      simp only [Bool.and_eq_true, decide_eq_true_eq] at hb6
      refine o_unguard 41 rfl rfl ?_
      refine o_pure (p_move (v := .int .i64 (i : Int)) rfl) rfl rfl rfl ?_
      refine o_unguard 41 rfl rfl ?_
      refine o_pure (p_lt (p := (i : Int)) (q := 60) rfl rfl) rfl rfl rfl ?_
      refine o_pure (p_pick_true (u := .bool (decide ((i : Int) < 60))) rfl rfl) rfl rfl rfl ?_
      exact o_sub (Sub.cons rfl (Sub.skip rfl (Sub.skip rfl (Sub.skip rfl (Sub.skip rfl (Sub.refl _)))))) hk
    · intro hb6 hk
      refine o_guard_no rfl 41 rfl rfl rfl rfl rfl ?_
      refine o_guard_no rfl 41 rfl rfl rfl rfl rfl ?_
      refine o_pure (p_pick_false (v := .bool false) rfl rfl) rfl rfl rfl ?_
      exact o_sub (Sub.cons rfl (Sub.skip rfl (Sub.skip rfl (Sub.skip rfl (Sub.skip rfl (Sub.refl _)))))) hk
    refine o_nil ?_
    refine q_then ?_
    refine c_cond (b := ((decide ((i : Int) < (ats.length : Int)) && decide ((i : Int) < (many.length : Int))) && decide ((i : Int) < 60))) rfl (fun hc7 => ?_) (fun hc7 => ?_)
    · simp only [Bool.and_eq_true, decide_eq_true_eq] at hc7
      refine c_skip ?_
      refine q_then ?_
      refine c_seq ?_
      refine c_block ?_
      refine c_seq ?_
      refine c_region ?_
      refine o_pure (p_move (v := .int .i64 now) rfl) rfl rfl rfl ?_
      refine o_pure (p_move (v := .slice aats ats.length cats) rfl) rfl rfl rfl ?_
      refine o_pure (p_move (v := .int .i64 (i : Int)) rfl) rfl rfl rfl ?_
      refine o_pure (p_indexAddr (L := ats) (T := tInt) (i := (i : Int)) rfl rfl (rd_base (i := 1) rfl hats) Try.underlying38 sz3 (by omega) (by omega)) rfl rfl rfl ?_
      refine o_pure (p_loadE1 (i := i) (T := tInt) (L := ats) (v := .int .i64 (ats[i])) rfl (rd_base (i := 1) rfl hats) (by first | assumption | omega) sh3 rfl) rfl rfl rfl ?_
      refine o_pure (p_andI (p := ats[i]) (q := 1048575) rfl rfl) rfl rfl rfl ?_
      refine o_pure (p_add (p := now) (q := (andI (ats[i]) 1048575)) rfl rfl) rfl rfl rfl ?_
      refine o_pure (p_assign (v := .int .i64 (IntKind.i64.wrap (now + (andI (ats[i]) 1048575)))) rfl) rfl rfl rfl ?_
      refine o_nil ?_
      refine q_then ?_
      refine c_seq ?_
      refine c_cut (G := Nat) (fun B8_11 => [(1, .slice aats ats.length cats), (2, .slice amany many.length cmany), (3, .pointer (some ⟨B1, 0, none⟩)), (7, .int .i64 b.at_), (8, .int .i64 took), (9, .int .i64 (IntKind.i64.wrap (now + (andI (ats[i]) 1048575)))), (10, .int .i64 b.has), (11, .int .i64 (i : Int)), (12, .pointer (some ⟨B8_11, 0, none⟩)), (13, .bool (Rate.can bb (IntKind.i64.wrap (now + (andI (ats[i]) 1048575))) (many[i]))), (14, .int .i64 (Rate.err bb (IntKind.i64.wrap (now + (andI (ats[i]) 1048575))) (many[i])))]) (fun B8_11 => [box B8_11 [.int .i64 ((Rate.take bb (IntKind.i64.wrap (now + (andI (ats[i]) 1048575))) (many[i])).most), .int .i64 ((Rate.take bb (IntKind.i64.wrap (now + (andI (ats[i]) 1048575))) (many[i])).every), .int .i64 ((Rate.take bb (IntKind.i64.wrap (now + (andI (ats[i]) 1048575))) (many[i])).has), .int .i64 ((Rate.take bb (IntKind.i64.wrap (now + (andI (ats[i]) 1048575))) (many[i])).at_)] 53, box B1 [.int .i64 bb.most, .int .i64 bb.every, .int .i64 bb.has, .int .i64 bb.at_] 53, base w0]) (fun K hK9 => ?_) ?_
      · refine c_held hmix [box B1 [.int .i64 bb.most, .int .i64 bb.every, .int .i64 bb.has, .int .i64 bb.at_] 53, base w0] rfl rfl ?_
        refine h_take (i := 0) (ls := #[true, false, false, false, false, false, false, false, false, false, false, false, false, false, false]) rfl (by kernel_rfl) (by kernel_rfl) (by kernel_rfl) (fun _ _ _ h => h) (p_load_agg (i := 0) (vs := [.int .i64 bb.most, .int .i64 bb.every, .int .i64 bb.has, .int .i64 bb.at_]) rfl rfl sh53 rfl rfl) rfl rfl rfl (fun _ hw => HeapIs.drop hw (List.Sublist.refl _)) rfl ?_
        refine h_take (i := 1) (ls := #[true, true, false, false, false, false, false, false, false, false, false, false, false, false, false]) rfl (by kernel_rfl) (by kernel_rfl) (by kernel_rfl) (fun _ _ _ h => h) (p_move (v := .int .i64 (IntKind.i64.wrap (now + (andI (ats[i]) 1048575)))) rfl) rfl rfl rfl (fun _ hw => HeapIs.drop hw (List.Sublist.refl _)) rfl ?_
        refine h_take (i := 2) (ls := #[true, true, true, false, false, false, false, false, false, false, false, false, false, false, false]) rfl (by kernel_rfl) (by kernel_rfl) (by kernel_rfl) (fun _ _ _ h => h) (p_move (v := .slice amany many.length cmany) rfl) rfl rfl rfl (fun _ hw => HeapIs.drop hw (List.Sublist.refl _)) rfl ?_
        refine h_take (i := 3) (ls := #[true, true, true, true, false, false, false, false, false, false, false, false, false, false, false]) rfl (by kernel_rfl) (by kernel_rfl) (by kernel_rfl) (fun _ _ _ h => h) (p_move (v := .int .i64 (i : Int)) rfl) rfl rfl rfl (fun _ hw => HeapIs.drop hw (List.Sublist.refl _)) rfl ?_
        refine h_take (i := 4) (ls := #[true, true, true, true, true, false, false, false, false, false, false, false, false, false, false]) rfl (by kernel_rfl) (by kernel_rfl) (by kernel_rfl) (fun _ _ _ h => h) (p_indexAddr (L := many) (T := tInt) (i := (i : Int)) rfl rfl (rd_base (i := 1) rfl hmany) Try.underlying38 sz3 (by omega) (by omega)) rfl rfl rfl (fun _ hw => HeapIs.drop hw (List.Sublist.refl _)) rfl ?_
        refine h_take (i := 5) (ls := #[true, true, true, true, true, true, false, false, false, false, false, false, false, false, false]) rfl (by kernel_rfl) (by kernel_rfl) (by kernel_rfl) (fun _ _ _ h => h) (p_loadE1 (i := i) (T := tInt) (L := many) (v := .int .i64 (many[i])) rfl (rd_base (i := 1) rfl hmany) (by first | assumption | omega) sh3 rfl) rfl rfl rfl (fun _ hw => HeapIs.drop hw (List.Sublist.refl _)) rfl ?_
        refine h_two (i := 6) (j := 11) (ls := #[true, true, true, true, true, true, true, false, false, false, false, false, false, false, false]) (ls' := #[true, true, true, true, true, true, false, false, false, false, false, true, false, false, false]) (by kernel_rfl) rfl rfl rfl rfl ?_ ?_
        · refine o_call0 (v := .tuple #[.agg #[.int .i64 ((Rate.take bb (IntKind.i64.wrap (now + (andI (ats[i]) 1048575))) (many[i])).most), .int .i64 ((Rate.take bb (IntKind.i64.wrap (now + (andI (ats[i]) 1048575))) (many[i])).every), .int .i64 ((Rate.take bb (IntKind.i64.wrap (now + (andI (ats[i]) 1048575))) (many[i])).has), .int .i64 ((Rate.take bb (IntKind.i64.wrap (now + (andI (ats[i]) 1048575))) (many[i])).at_)], .bool (Rate.can bb (IntKind.i64.wrap (now + (andI (ats[i]) 1048575))) (many[i])), .int .i64 (Rate.err bb (IntKind.i64.wrap (now + (andI (ats[i]) 1048575))) (many[i]))]) rfl (take_ok bb (IntKind.i64.wrap (now + (andI (ats[i]) 1048575))) (many[i])) hf35 (fun _ _ => trivial) rfl ?_
          refine o_nil ?_
          refine h_next (fun _ hw => HeapIs.drop hw (List.Sublist.refl _)) ?_
          refine h_take (i := 7) (ls := #[true, true, true, true, true, true, true, true, false, false, false, false, false, false, false]) rfl (by kernel_rfl) (by kernel_rfl) (by kernel_rfl) (fun _ _ _ h => h) (p_move (v := .tuple #[.agg #[.int .i64 ((Rate.take bb (IntKind.i64.wrap (now + (andI (ats[i]) 1048575))) (many[i])).most), .int .i64 ((Rate.take bb (IntKind.i64.wrap (now + (andI (ats[i]) 1048575))) (many[i])).every), .int .i64 ((Rate.take bb (IntKind.i64.wrap (now + (andI (ats[i]) 1048575))) (many[i])).has), .int .i64 ((Rate.take bb (IntKind.i64.wrap (now + (andI (ats[i]) 1048575))) (many[i])).at_)], .bool (Rate.can bb (IntKind.i64.wrap (now + (andI (ats[i]) 1048575))) (many[i])), .int .i64 (Rate.err bb (IntKind.i64.wrap (now + (andI (ats[i]) 1048575))) (many[i]))]) rfl) rfl rfl rfl (fun _ hw => HeapIs.drop hw (List.Sublist.refl _)) rfl ?_
          refine h_take (i := 8) (ls := #[true, true, true, true, true, true, true, true, true, false, false, false, false, false, false]) rfl (by kernel_rfl) (by kernel_rfl) (by kernel_rfl) (fun _ _ _ h => h) (p_extract (vs := [.agg #[.int .i64 ((Rate.take bb (IntKind.i64.wrap (now + (andI (ats[i]) 1048575))) (many[i])).most), .int .i64 ((Rate.take bb (IntKind.i64.wrap (now + (andI (ats[i]) 1048575))) (many[i])).every), .int .i64 ((Rate.take bb (IntKind.i64.wrap (now + (andI (ats[i]) 1048575))) (many[i])).has), .int .i64 ((Rate.take bb (IntKind.i64.wrap (now + (andI (ats[i]) 1048575))) (many[i])).at_)], .bool (Rate.can bb (IntKind.i64.wrap (now + (andI (ats[i]) 1048575))) (many[i])), .int .i64 (Rate.err bb (IntKind.i64.wrap (now + (andI (ats[i]) 1048575))) (many[i]))]) (v := .agg #[.int .i64 ((Rate.take bb (IntKind.i64.wrap (now + (andI (ats[i]) 1048575))) (many[i])).most), .int .i64 ((Rate.take bb (IntKind.i64.wrap (now + (andI (ats[i]) 1048575))) (many[i])).every), .int .i64 ((Rate.take bb (IntKind.i64.wrap (now + (andI (ats[i]) 1048575))) (many[i])).has), .int .i64 ((Rate.take bb (IntKind.i64.wrap (now + (andI (ats[i]) 1048575))) (many[i])).at_)]) rfl rfl) rfl rfl rfl (fun _ hw => HeapIs.drop hw (List.Sublist.refl _)) rfl ?_
          refine h_take (i := 9) (ls := #[true, true, true, true, true, true, true, true, true, true, false, false, false, false, false]) rfl (by kernel_rfl) (by kernel_rfl) (by kernel_rfl) (fun _ _ _ h => h) (p_extract (vs := [.agg #[.int .i64 ((Rate.take bb (IntKind.i64.wrap (now + (andI (ats[i]) 1048575))) (many[i])).most), .int .i64 ((Rate.take bb (IntKind.i64.wrap (now + (andI (ats[i]) 1048575))) (many[i])).every), .int .i64 ((Rate.take bb (IntKind.i64.wrap (now + (andI (ats[i]) 1048575))) (many[i])).has), .int .i64 ((Rate.take bb (IntKind.i64.wrap (now + (andI (ats[i]) 1048575))) (many[i])).at_)], .bool (Rate.can bb (IntKind.i64.wrap (now + (andI (ats[i]) 1048575))) (many[i])), .int .i64 (Rate.err bb (IntKind.i64.wrap (now + (andI (ats[i]) 1048575))) (many[i]))]) (v := .bool (Rate.can bb (IntKind.i64.wrap (now + (andI (ats[i]) 1048575))) (many[i]))) rfl rfl) rfl rfl rfl (fun _ hw => HeapIs.drop hw (List.Sublist.refl _)) rfl ?_
          refine h_take (i := 10) (ls := #[true, true, true, true, true, true, true, true, true, true, true, false, false, false, false]) rfl (by kernel_rfl) (by kernel_rfl) (by kernel_rfl) (fun _ _ _ h => h) (p_extract (vs := [.agg #[.int .i64 ((Rate.take bb (IntKind.i64.wrap (now + (andI (ats[i]) 1048575))) (many[i])).most), .int .i64 ((Rate.take bb (IntKind.i64.wrap (now + (andI (ats[i]) 1048575))) (many[i])).every), .int .i64 ((Rate.take bb (IntKind.i64.wrap (now + (andI (ats[i]) 1048575))) (many[i])).has), .int .i64 ((Rate.take bb (IntKind.i64.wrap (now + (andI (ats[i]) 1048575))) (many[i])).at_)], .bool (Rate.can bb (IntKind.i64.wrap (now + (andI (ats[i]) 1048575))) (many[i])), .int .i64 (Rate.err bb (IntKind.i64.wrap (now + (andI (ats[i]) 1048575))) (many[i]))]) (v := .int .i64 (Rate.err bb (IntKind.i64.wrap (now + (andI (ats[i]) 1048575))) (many[i]))) rfl rfl) rfl rfl rfl (fun _ hw => HeapIs.drop hw (List.Sublist.refl _)) rfl ?_
          refine h_one (i := 11) (ls := #[true, true, true, true, true, true, true, true, true, true, true, true, false, false, false]) (by kernel_rfl) rfl rfl ?_
          refine o_alloc ze53 rfl (fun B8_11 => ?_)
          refine o_nil ?_
          refine h_next (fun _ hw => HeapIs.drop hw (List.Sublist.cons _ (List.Sublist.cons_cons _ (List.Sublist.cons_cons _ (List.Sublist.slnil))))) ?_
          refine h_one (i := 12) (ls := #[true, true, true, true, true, true, true, true, true, true, true, true, true, false, false]) (by kernel_rfl) rfl rfl ?_
          refine o_storeN (i := 0) (vs := [.int .i64 ((Rate.take bb (IntKind.i64.wrap (now + (andI (ats[i]) 1048575))) (many[i])).most), .int .i64 ((Rate.take bb (IntKind.i64.wrap (now + (andI (ats[i]) 1048575))) (many[i])).every), .int .i64 ((Rate.take bb (IntKind.i64.wrap (now + (andI (ats[i]) 1048575))) (many[i])).has), .int .i64 ((Rate.take bb (IntKind.i64.wrap (now + (andI (ats[i]) 1048575))) (many[i])).at_)]) (cs' := [.int .i64 ((Rate.take bb (IntKind.i64.wrap (now + (andI (ats[i]) 1048575))) (many[i])).most), .int .i64 ((Rate.take bb (IntKind.i64.wrap (now + (andI (ats[i]) 1048575))) (many[i])).every), .int .i64 ((Rate.take bb (IntKind.i64.wrap (now + (andI (ats[i]) 1048575))) (many[i])).has), .int .i64 ((Rate.take bb (IntKind.i64.wrap (now + (andI (ats[i]) 1048575))) (many[i])).at_)]) rfl rfl rfl sz53 rfl rfl rfl rfl ?_
          refine o_nil ?_
          refine h_next (fun _ hw => HeapIs.drop hw (List.Sublist.cons _ (List.Sublist.cons_cons _ (List.Sublist.cons_cons _ (List.Sublist.slnil))))) ?_
          refine h_take (i := 13) (ls := #[true, true, true, true, true, true, true, true, true, true, true, true, true, true, false]) rfl (by kernel_rfl) (by kernel_rfl) (by kernel_rfl) (fun _ _ _ h => h) (p_assign (v := .bool (Rate.can bb (IntKind.i64.wrap (now + (andI (ats[i]) 1048575))) (many[i]))) rfl) rfl rfl rfl (fun _ hw => HeapIs.drop hw (List.Sublist.cons _ (List.Sublist.cons_cons _ (List.Sublist.cons_cons _ (List.Sublist.slnil))))) rfl ?_
          refine h_take (i := 14) (ls := #[true, true, true, true, true, true, true, true, true, true, true, true, true, true, true]) rfl (by kernel_rfl) (by kernel_rfl) (by kernel_rfl) (fun _ _ _ h => h) (p_assign (v := .int .i64 (Rate.err bb (IntKind.i64.wrap (now + (andI (ats[i]) 1048575))) (many[i]))) rfl) rfl rfl rfl (fun _ hw => HeapIs.drop hw (List.Sublist.cons _ (List.Sublist.cons_cons _ (List.Sublist.cons_cons _ (List.Sublist.slnil))))) rfl ?_
          refine h_done (by kernel_rfl) ?_
          refine q_kont hK9 B8_11 (Sub.cons rfl (Sub.cons rfl (Sub.cons rfl (Sub.cons rfl (Sub.cons rfl (Sub.cons rfl (Sub.cons rfl (Sub.cons rfl (Sub.cons rfl (Sub.cons rfl (Sub.cons rfl (Sub.nil _)))))))))))) (fun _ hw => HeapIs.drop hw (List.Sublist.refl _))
        · refine o_alloc ze53 rfl (fun B8_11 => ?_)
          refine o_nil ?_
          refine h_next (fun _ hw => HeapIs.drop hw (List.Sublist.cons _ (List.Sublist.cons_cons _ (List.Sublist.cons_cons _ (List.Sublist.slnil))))) ?_
          refine h_one (i := 6) (ls := #[true, true, true, true, true, true, true, false, false, false, false, true, false, false, false]) (by kernel_rfl) rfl rfl ?_
          refine o_call0 (v := .tuple #[.agg #[.int .i64 ((Rate.take bb (IntKind.i64.wrap (now + (andI (ats[i]) 1048575))) (many[i])).most), .int .i64 ((Rate.take bb (IntKind.i64.wrap (now + (andI (ats[i]) 1048575))) (many[i])).every), .int .i64 ((Rate.take bb (IntKind.i64.wrap (now + (andI (ats[i]) 1048575))) (many[i])).has), .int .i64 ((Rate.take bb (IntKind.i64.wrap (now + (andI (ats[i]) 1048575))) (many[i])).at_)], .bool (Rate.can bb (IntKind.i64.wrap (now + (andI (ats[i]) 1048575))) (many[i])), .int .i64 (Rate.err bb (IntKind.i64.wrap (now + (andI (ats[i]) 1048575))) (many[i]))]) rfl (take_ok bb (IntKind.i64.wrap (now + (andI (ats[i]) 1048575))) (many[i])) hf35 (fun _ _ => trivial) rfl ?_
          refine o_nil ?_
          refine h_next (fun _ hw => HeapIs.drop hw (List.Sublist.cons _ (List.Sublist.cons_cons _ (List.Sublist.cons_cons _ (List.Sublist.slnil))))) ?_
          refine h_take (i := 7) (ls := #[true, true, true, true, true, true, true, true, false, false, false, true, false, false, false]) rfl (by kernel_rfl) (by kernel_rfl) (by kernel_rfl) (fun _ _ _ h => h) (p_move (v := .tuple #[.agg #[.int .i64 ((Rate.take bb (IntKind.i64.wrap (now + (andI (ats[i]) 1048575))) (many[i])).most), .int .i64 ((Rate.take bb (IntKind.i64.wrap (now + (andI (ats[i]) 1048575))) (many[i])).every), .int .i64 ((Rate.take bb (IntKind.i64.wrap (now + (andI (ats[i]) 1048575))) (many[i])).has), .int .i64 ((Rate.take bb (IntKind.i64.wrap (now + (andI (ats[i]) 1048575))) (many[i])).at_)], .bool (Rate.can bb (IntKind.i64.wrap (now + (andI (ats[i]) 1048575))) (many[i])), .int .i64 (Rate.err bb (IntKind.i64.wrap (now + (andI (ats[i]) 1048575))) (many[i]))]) rfl) rfl rfl rfl (fun _ hw => HeapIs.drop hw (List.Sublist.cons _ (List.Sublist.cons_cons _ (List.Sublist.cons_cons _ (List.Sublist.slnil))))) rfl ?_
          refine h_take (i := 8) (ls := #[true, true, true, true, true, true, true, true, true, false, false, true, false, false, false]) rfl (by kernel_rfl) (by kernel_rfl) (by kernel_rfl) (fun _ _ _ h => h) (p_extract (vs := [.agg #[.int .i64 ((Rate.take bb (IntKind.i64.wrap (now + (andI (ats[i]) 1048575))) (many[i])).most), .int .i64 ((Rate.take bb (IntKind.i64.wrap (now + (andI (ats[i]) 1048575))) (many[i])).every), .int .i64 ((Rate.take bb (IntKind.i64.wrap (now + (andI (ats[i]) 1048575))) (many[i])).has), .int .i64 ((Rate.take bb (IntKind.i64.wrap (now + (andI (ats[i]) 1048575))) (many[i])).at_)], .bool (Rate.can bb (IntKind.i64.wrap (now + (andI (ats[i]) 1048575))) (many[i])), .int .i64 (Rate.err bb (IntKind.i64.wrap (now + (andI (ats[i]) 1048575))) (many[i]))]) (v := .agg #[.int .i64 ((Rate.take bb (IntKind.i64.wrap (now + (andI (ats[i]) 1048575))) (many[i])).most), .int .i64 ((Rate.take bb (IntKind.i64.wrap (now + (andI (ats[i]) 1048575))) (many[i])).every), .int .i64 ((Rate.take bb (IntKind.i64.wrap (now + (andI (ats[i]) 1048575))) (many[i])).has), .int .i64 ((Rate.take bb (IntKind.i64.wrap (now + (andI (ats[i]) 1048575))) (many[i])).at_)]) rfl rfl) rfl rfl rfl (fun _ hw => HeapIs.drop hw (List.Sublist.cons _ (List.Sublist.cons_cons _ (List.Sublist.cons_cons _ (List.Sublist.slnil))))) rfl ?_
          refine h_take (i := 9) (ls := #[true, true, true, true, true, true, true, true, true, true, false, true, false, false, false]) rfl (by kernel_rfl) (by kernel_rfl) (by kernel_rfl) (fun _ _ _ h => h) (p_extract (vs := [.agg #[.int .i64 ((Rate.take bb (IntKind.i64.wrap (now + (andI (ats[i]) 1048575))) (many[i])).most), .int .i64 ((Rate.take bb (IntKind.i64.wrap (now + (andI (ats[i]) 1048575))) (many[i])).every), .int .i64 ((Rate.take bb (IntKind.i64.wrap (now + (andI (ats[i]) 1048575))) (many[i])).has), .int .i64 ((Rate.take bb (IntKind.i64.wrap (now + (andI (ats[i]) 1048575))) (many[i])).at_)], .bool (Rate.can bb (IntKind.i64.wrap (now + (andI (ats[i]) 1048575))) (many[i])), .int .i64 (Rate.err bb (IntKind.i64.wrap (now + (andI (ats[i]) 1048575))) (many[i]))]) (v := .bool (Rate.can bb (IntKind.i64.wrap (now + (andI (ats[i]) 1048575))) (many[i]))) rfl rfl) rfl rfl rfl (fun _ hw => HeapIs.drop hw (List.Sublist.cons _ (List.Sublist.cons_cons _ (List.Sublist.cons_cons _ (List.Sublist.slnil))))) rfl ?_
          refine h_take (i := 10) (ls := #[true, true, true, true, true, true, true, true, true, true, true, true, false, false, false]) rfl (by kernel_rfl) (by kernel_rfl) (by kernel_rfl) (fun _ _ _ h => h) (p_extract (vs := [.agg #[.int .i64 ((Rate.take bb (IntKind.i64.wrap (now + (andI (ats[i]) 1048575))) (many[i])).most), .int .i64 ((Rate.take bb (IntKind.i64.wrap (now + (andI (ats[i]) 1048575))) (many[i])).every), .int .i64 ((Rate.take bb (IntKind.i64.wrap (now + (andI (ats[i]) 1048575))) (many[i])).has), .int .i64 ((Rate.take bb (IntKind.i64.wrap (now + (andI (ats[i]) 1048575))) (many[i])).at_)], .bool (Rate.can bb (IntKind.i64.wrap (now + (andI (ats[i]) 1048575))) (many[i])), .int .i64 (Rate.err bb (IntKind.i64.wrap (now + (andI (ats[i]) 1048575))) (many[i]))]) (v := .int .i64 (Rate.err bb (IntKind.i64.wrap (now + (andI (ats[i]) 1048575))) (many[i]))) rfl rfl) rfl rfl rfl (fun _ hw => HeapIs.drop hw (List.Sublist.cons _ (List.Sublist.cons_cons _ (List.Sublist.cons_cons _ (List.Sublist.slnil))))) rfl ?_
          refine h_one (i := 12) (ls := #[true, true, true, true, true, true, true, true, true, true, true, true, true, false, false]) (by kernel_rfl) rfl rfl ?_
          refine o_storeN (i := 0) (vs := [.int .i64 ((Rate.take bb (IntKind.i64.wrap (now + (andI (ats[i]) 1048575))) (many[i])).most), .int .i64 ((Rate.take bb (IntKind.i64.wrap (now + (andI (ats[i]) 1048575))) (many[i])).every), .int .i64 ((Rate.take bb (IntKind.i64.wrap (now + (andI (ats[i]) 1048575))) (many[i])).has), .int .i64 ((Rate.take bb (IntKind.i64.wrap (now + (andI (ats[i]) 1048575))) (many[i])).at_)]) (cs' := [.int .i64 ((Rate.take bb (IntKind.i64.wrap (now + (andI (ats[i]) 1048575))) (many[i])).most), .int .i64 ((Rate.take bb (IntKind.i64.wrap (now + (andI (ats[i]) 1048575))) (many[i])).every), .int .i64 ((Rate.take bb (IntKind.i64.wrap (now + (andI (ats[i]) 1048575))) (many[i])).has), .int .i64 ((Rate.take bb (IntKind.i64.wrap (now + (andI (ats[i]) 1048575))) (many[i])).at_)]) rfl rfl rfl sz53 rfl rfl rfl rfl ?_
          refine o_nil ?_
          refine h_next (fun _ hw => HeapIs.drop hw (List.Sublist.cons _ (List.Sublist.cons_cons _ (List.Sublist.cons_cons _ (List.Sublist.slnil))))) ?_
          refine h_take (i := 13) (ls := #[true, true, true, true, true, true, true, true, true, true, true, true, true, true, false]) rfl (by kernel_rfl) (by kernel_rfl) (by kernel_rfl) (fun _ _ _ h => h) (p_assign (v := .bool (Rate.can bb (IntKind.i64.wrap (now + (andI (ats[i]) 1048575))) (many[i]))) rfl) rfl rfl rfl (fun _ hw => HeapIs.drop hw (List.Sublist.cons _ (List.Sublist.cons_cons _ (List.Sublist.cons_cons _ (List.Sublist.slnil))))) rfl ?_
          refine h_take (i := 14) (ls := #[true, true, true, true, true, true, true, true, true, true, true, true, true, true, true]) rfl (by kernel_rfl) (by kernel_rfl) (by kernel_rfl) (fun _ _ _ h => h) (p_assign (v := .int .i64 (Rate.err bb (IntKind.i64.wrap (now + (andI (ats[i]) 1048575))) (many[i]))) rfl) rfl rfl rfl (fun _ hw => HeapIs.drop hw (List.Sublist.cons _ (List.Sublist.cons_cons _ (List.Sublist.cons_cons _ (List.Sublist.slnil))))) rfl ?_
          refine h_done (by kernel_rfl) ?_
          refine q_kont hK9 B8_11 (Sub.cons rfl (Sub.cons rfl (Sub.cons rfl (Sub.cons rfl (Sub.cons rfl (Sub.cons rfl (Sub.cons rfl (Sub.cons rfl (Sub.cons rfl (Sub.cons rfl (Sub.cons rfl (Sub.nil _)))))))))))) (fun _ hw => HeapIs.drop hw (List.Sublist.refl _))
      rintro B8_11
      show SQ 102 w0 _ _ [(1, .slice aats ats.length cats), (2, .slice amany many.length cmany), (3, .pointer (some ⟨B1, 0, none⟩)), (7, .int .i64 b.at_), (8, .int .i64 took), (9, .int .i64 (IntKind.i64.wrap (now + (andI (ats[i]) 1048575)))), (10, .int .i64 b.has), (11, .int .i64 (i : Int)), (12, .pointer (some ⟨B8_11, 0, none⟩)), (13, .bool (Rate.can bb (IntKind.i64.wrap (now + (andI (ats[i]) 1048575))) (many[i]))), (14, .int .i64 (Rate.err bb (IntKind.i64.wrap (now + (andI (ats[i]) 1048575))) (many[i])))] [box B8_11 [.int .i64 ((Rate.take bb (IntKind.i64.wrap (now + (andI (ats[i]) 1048575))) (many[i])).most), .int .i64 ((Rate.take bb (IntKind.i64.wrap (now + (andI (ats[i]) 1048575))) (many[i])).every), .int .i64 ((Rate.take bb (IntKind.i64.wrap (now + (andI (ats[i]) 1048575))) (many[i])).has), .int .i64 ((Rate.take bb (IntKind.i64.wrap (now + (andI (ats[i]) 1048575))) (many[i])).at_)] 53, box B1 [.int .i64 bb.most, .int .i64 bb.every, .int .i64 bb.has, .int .i64 bb.at_] 53, base w0]
      refine q_then ?_
      refine c_seq ?_
      refine c_seq ?_
      refine c_region ?_
      refine o_pure (p_move (v := .int .i64 (Rate.err bb (IntKind.i64.wrap (now + (andI (ats[i]) 1048575))) (many[i]))) rfl) rfl rfl rfl ?_
      refine o_pure (p_ne (p := (Rate.err bb (IntKind.i64.wrap (now + (andI (ats[i]) 1048575))) (many[i]))) (q := 0) rfl rfl) rfl rfl rfl ?_
      refine o_nil ?_
      refine q_then ?_
      refine c_cond (b := ((Rate.err bb (IntKind.i64.wrap (now + (andI (ats[i]) 1048575))) (many[i])) != 0)) rfl (fun hc10 => ?_) (fun hc10 => ?_)
      · simp only [bne_iff_ne, ne_eq] at hc10
        refine c_exit ?_
        refine q_then_exit (q_block_exit (q_then ?_))
        refine c_region ?_
        refine o_pure (p_move (v := .int .i64 (i : Int)) rfl) rfl rfl rfl ?_
        refine o_pure (p_addb (p := (i : Int)) (q := 1) rfl rfl (by omega)) rfl rfl rfl ?_
        refine o_pure (p_assign (v := .int .i64 ((i : Int) + 1)) rfl) rfl rfl rfl ?_
        refine o_nil ?_
        refine q_round hK4 (took, (IntKind.i64.wrap (now + (andI (ats[i]) 1048575))), i + 1, bb) ?_ ?_ ?_ ?_
        · clear hK4
          first | exact hbb.2.1 (by assumption) | exact hbb.2.2 (by assumption) | exact Rate.BInv.skip hI (by omega) _
        · (try dsimp only); omega
        · exact Sub.cons rfl (Sub.cons rfl (Sub.cons rfl (Sub.cons rfl (Sub.cons rfl (Sub.cons rfl (Sub.cons rfl (Sub.cons rfl (Sub.nil _))))))))
        · exact fun _ hw => HeapIs.drop hw (List.Sublist.cons _ (List.Sublist.refl _))
      · simp only [bne_eq_false_iff_eq] at hc10
        have hbb := Rate.BInv.take_ hI (by omega) hc10
        have hE := hbb.1
        refine c_skip ?_
        refine q_then ?_
        refine c_seq ?_
        refine c_seq ?_
        refine c_region ?_
        refine o_pure (p_move (v := .bool (Rate.can bb (IntKind.i64.wrap (now + (andI (ats[i]) 1048575))) (many[i]))) rfl) rfl rfl rfl ?_
        refine o_nil ?_
        refine q_then ?_
        refine c_cond (b := (Rate.can bb (IntKind.i64.wrap (now + (andI (ats[i]) 1048575))) (many[i]))) rfl (fun hc11 => ?_) (fun hc11 => ?_)
        · skip
          refine c_region ?_
          refine o_pure (p_move (v := .int .i64 took) rfl) rfl rfl rfl ?_
          refine o_pure (p_move (v := .slice amany many.length cmany) rfl) rfl rfl rfl ?_
          refine o_pure (p_move (v := .int .i64 (i : Int)) rfl) rfl rfl rfl ?_
          refine o_pure (p_indexAddr (L := many) (T := tInt) (i := (i : Int)) rfl rfl (rd_base (i := 2) rfl hmany) Try.underlying38 sz3 (by omega) (by omega)) rfl rfl rfl ?_
          refine o_pure (p_loadE1 (i := i) (T := tInt) (L := many) (v := .int .i64 (many[i])) rfl (rd_base (i := 2) rfl hmany) (by first | assumption | omega) sh3 rfl) rfl rfl rfl ?_
          refine o_pure (p_add (p := took) (q := many[i]) rfl rfl) rfl rfl rfl ?_
          refine o_pure (p_assign (v := .int .i64 (IntKind.i64.wrap (took + many[i]))) rfl) rfl rfl rfl ?_
          refine o_nil ?_
          refine q_then ?_
          refine c_seq ?_
          refine c_region ?_
          refine o_pure (p_load_agg (i := 0) (vs := [.int .i64 ((Rate.take bb (IntKind.i64.wrap (now + (andI (ats[i]) 1048575))) (many[i])).most), .int .i64 ((Rate.take bb (IntKind.i64.wrap (now + (andI (ats[i]) 1048575))) (many[i])).every), .int .i64 ((Rate.take bb (IntKind.i64.wrap (now + (andI (ats[i]) 1048575))) (many[i])).has), .int .i64 ((Rate.take bb (IntKind.i64.wrap (now + (andI (ats[i]) 1048575))) (many[i])).at_)]) rfl rfl sh53 rfl rfl) rfl rfl rfl ?_
          refine o_storeN (i := 1) (vs := [.int .i64 ((Rate.take bb (IntKind.i64.wrap (now + (andI (ats[i]) 1048575))) (many[i])).most), .int .i64 ((Rate.take bb (IntKind.i64.wrap (now + (andI (ats[i]) 1048575))) (many[i])).every), .int .i64 ((Rate.take bb (IntKind.i64.wrap (now + (andI (ats[i]) 1048575))) (many[i])).has), .int .i64 ((Rate.take bb (IntKind.i64.wrap (now + (andI (ats[i]) 1048575))) (many[i])).at_)]) (cs' := [.int .i64 ((Rate.take bb (IntKind.i64.wrap (now + (andI (ats[i]) 1048575))) (many[i])).most), .int .i64 ((Rate.take bb (IntKind.i64.wrap (now + (andI (ats[i]) 1048575))) (many[i])).every), .int .i64 ((Rate.take bb (IntKind.i64.wrap (now + (andI (ats[i]) 1048575))) (many[i])).has), .int .i64 ((Rate.take bb (IntKind.i64.wrap (now + (andI (ats[i]) 1048575))) (many[i])).at_)]) rfl rfl rfl sz53 rfl rfl rfl rfl ?_
          refine o_nil ?_
          refine q_then ?_
          refine c_seq ?_
          refine c_region ?_
          refine o_pure (p_move (v := .int .i64 (IntKind.i64.wrap (took + many[i]))) rfl) rfl rfl rfl ?_
          refine o_pure (p_move (v := .int .i64 b.has) rfl) rfl rfl rfl ?_
          refine o_pure (p_move (v := .int .i64 (IntKind.i64.wrap (now + (andI (ats[i]) 1048575)))) rfl) rfl rfl rfl ?_
          refine o_pure (p_move (v := .int .i64 b.at_) rfl) rfl rfl rfl ?_
          refine o_pure (p_sub (p := (IntKind.i64.wrap (now + (andI (ats[i]) 1048575)))) (q := b.at_) rfl rfl) rfl rfl rfl ?_
          refine o_pure (p_fieldAddr (B := B1) (j := 0) (j' := 1) rfl fo53_1 rfl) rfl rfl rfl ?_
          refine o_pure (p_load (i := 1) (v := .int .i64 ((Rate.take bb (IntKind.i64.wrap (now + (andI (ats[i]) 1048575))) (many[i])).every)) rfl rfl sh3 rfl) rfl rfl rfl ?_
          refine o_pure (p_quo (p := (IntKind.i64.wrap ((IntKind.i64.wrap (now + (andI (ats[i]) 1048575))) - b.at_))) (q := (Rate.take bb (IntKind.i64.wrap (now + (andI (ats[i]) 1048575))) (many[i])).every) rfl rfl (by omega)) rfl rfl rfl ?_
          refine o_pure (p_add (p := b.has) (q := (IntKind.i64.wrap ((IntKind.i64.wrap ((IntKind.i64.wrap (now + (andI (ats[i]) 1048575))) - b.at_)).tdiv ((Rate.take bb (IntKind.i64.wrap (now + (andI (ats[i]) 1048575))) (many[i])).every)))) rfl rfl) rfl rfl rfl ?_
          refine o_pure (p_gt (p := (IntKind.i64.wrap (took + many[i]))) (q := (IntKind.i64.wrap (b.has + (IntKind.i64.wrap ((IntKind.i64.wrap ((IntKind.i64.wrap (now + (andI (ats[i]) 1048575))) - b.at_)).tdiv ((Rate.take bb (IntKind.i64.wrap (now + (andI (ats[i]) 1048575))) (many[i])).every)))))) rfl rfl) rfl rfl rfl ?_
          refine o_pure (p_move (v := .bool (decide ((IntKind.i64.wrap (b.has + (IntKind.i64.wrap ((IntKind.i64.wrap ((IntKind.i64.wrap (now + (andI (ats[i]) 1048575))) - b.at_)).tdiv ((Rate.take bb (IntKind.i64.wrap (now + (andI (ats[i]) 1048575))) (many[i])).every))))) < (IntKind.i64.wrap (took + many[i]))))) rfl) rfl rfl rfl ?_
          refine o_or (p := 91) 6 (decide ((Rate.take bb (IntKind.i64.wrap (now + (andI (ats[i]) 1048575))) (many[i])).most < (Rate.take bb (IntKind.i64.wrap (now + (andI (ats[i]) 1048575))) (many[i])).has)) ?_ ?_ ?_
          · intro hb12 hk
            simp only [decide_eq_false_iff_not, Int.not_lt] at hb12
            refine o_unguard 85 rfl rfl ?_
            refine o_pure (p_fieldAddr (B := B1) (j := 0) (j' := 2) rfl fo53_2 rfl) rfl rfl rfl ?_
            refine o_unguard 85 rfl rfl ?_
            refine o_pure (p_load (i := 1) (v := .int .i64 ((Rate.take bb (IntKind.i64.wrap (now + (andI (ats[i]) 1048575))) (many[i])).has)) rfl rfl sh3 rfl) rfl rfl rfl ?_
            refine o_unguard 85 rfl rfl ?_
            refine o_pure (p_fieldAddr (B := B1) (j := 0) (j' := 0) rfl fo53_0 rfl) rfl rfl rfl ?_
            refine o_unguard 85 rfl rfl ?_
            refine o_pure (p_load (i := 1) (v := .int .i64 ((Rate.take bb (IntKind.i64.wrap (now + (andI (ats[i]) 1048575))) (many[i])).most)) rfl rfl sh3 rfl) rfl rfl rfl ?_
            refine o_unguard 85 rfl rfl ?_
            refine o_pure (p_gt (p := (Rate.take bb (IntKind.i64.wrap (now + (andI (ats[i]) 1048575))) (many[i])).has) (q := (Rate.take bb (IntKind.i64.wrap (now + (andI (ats[i]) 1048575))) (many[i])).most) rfl rfl) rfl rfl rfl ?_
            refine o_pure (p_pick_false (v := .bool (decide ((Rate.take bb (IntKind.i64.wrap (now + (andI (ats[i]) 1048575))) (many[i])).most < (Rate.take bb (IntKind.i64.wrap (now + (andI (ats[i]) 1048575))) (many[i])).has))) rfl rfl) rfl rfl rfl ?_
            exact o_sub (Sub.cons rfl (Sub.skip rfl (Sub.skip rfl (Sub.skip rfl (Sub.skip rfl (Sub.skip rfl (Sub.skip rfl (Sub.skip rfl (Sub.refl _))))))))) hk
          · intro hb12 hk
            refine o_guard_no rfl 85 rfl rfl rfl rfl rfl ?_
            refine o_guard_no rfl 85 rfl rfl rfl rfl rfl ?_
            refine o_guard_no rfl 85 rfl rfl rfl rfl rfl ?_
            refine o_guard_no rfl 85 rfl rfl rfl rfl rfl ?_
            refine o_guard_no rfl 85 rfl rfl rfl rfl rfl ?_
            refine o_pure (p_pick_true (u := .bool true) rfl rfl) rfl rfl rfl ?_
            exact o_sub (Sub.cons rfl (Sub.skip rfl (Sub.skip rfl (Sub.skip rfl (Sub.skip rfl (Sub.skip rfl (Sub.skip rfl (Sub.skip rfl (Sub.refl _))))))))) hk
          refine o_pure (p_move (v := .bool (decide ((IntKind.i64.wrap (b.has + (IntKind.i64.wrap ((IntKind.i64.wrap ((IntKind.i64.wrap (now + (andI (ats[i]) 1048575))) - b.at_)).tdiv ((Rate.take bb (IntKind.i64.wrap (now + (andI (ats[i]) 1048575))) (many[i])).every))))) < (IntKind.i64.wrap (took + many[i]))) || decide ((Rate.take bb (IntKind.i64.wrap (now + (andI (ats[i]) 1048575))) (many[i])).most < (Rate.take bb (IntKind.i64.wrap (now + (andI (ats[i]) 1048575))) (many[i])).has))) rfl) rfl rfl rfl ?_
          refine o_or (p := 96) 4 (decide ((Rate.take bb (IntKind.i64.wrap (now + (andI (ats[i]) 1048575))) (many[i])).has < 0)) ?_ ?_ ?_
          · intro hb13 hk
            simp only [Bool.or_eq_false_iff, decide_eq_false_iff_not, Int.not_lt] at hb13
            refine o_unguard 92 rfl rfl ?_
            refine o_pure (p_fieldAddr (B := B1) (j := 0) (j' := 2) rfl fo53_2 rfl) rfl rfl rfl ?_
            refine o_unguard 92 rfl rfl ?_
            refine o_pure (p_load (i := 1) (v := .int .i64 ((Rate.take bb (IntKind.i64.wrap (now + (andI (ats[i]) 1048575))) (many[i])).has)) rfl rfl sh3 rfl) rfl rfl rfl ?_
            refine o_unguard 92 rfl rfl ?_
            refine o_pure (p_lt (p := (Rate.take bb (IntKind.i64.wrap (now + (andI (ats[i]) 1048575))) (many[i])).has) (q := 0) rfl rfl) rfl rfl rfl ?_
            refine o_pure (p_pick_false (v := .bool (decide ((Rate.take bb (IntKind.i64.wrap (now + (andI (ats[i]) 1048575))) (many[i])).has < 0))) rfl rfl) rfl rfl rfl ?_
            exact o_sub (Sub.cons rfl (Sub.skip rfl (Sub.skip rfl (Sub.skip rfl (Sub.skip rfl (Sub.skip rfl (Sub.refl _))))))) hk
          · intro hb13 hk
            refine o_guard_no rfl 92 rfl rfl rfl rfl rfl ?_
            refine o_guard_no rfl 92 rfl rfl rfl rfl rfl ?_
            refine o_guard_no rfl 92 rfl rfl rfl rfl rfl ?_
            refine o_pure (p_pick_true (u := .bool true) rfl rfl) rfl rfl rfl ?_
            exact o_sub (Sub.cons rfl (Sub.skip rfl (Sub.skip rfl (Sub.skip rfl (Sub.skip rfl (Sub.skip rfl (Sub.refl _))))))) hk
          refine o_pure (p_move (v := .bool ((decide ((IntKind.i64.wrap (b.has + (IntKind.i64.wrap ((IntKind.i64.wrap ((IntKind.i64.wrap (now + (andI (ats[i]) 1048575))) - b.at_)).tdiv ((Rate.take bb (IntKind.i64.wrap (now + (andI (ats[i]) 1048575))) (many[i])).every))))) < (IntKind.i64.wrap (took + many[i]))) || decide ((Rate.take bb (IntKind.i64.wrap (now + (andI (ats[i]) 1048575))) (many[i])).most < (Rate.take bb (IntKind.i64.wrap (now + (andI (ats[i]) 1048575))) (many[i])).has)) || decide ((Rate.take bb (IntKind.i64.wrap (now + (andI (ats[i]) 1048575))) (many[i])).has < 0))) rfl) rfl rfl rfl ?_
          refine o_or (p := 101) 4 ((Rate.check0 (Rate.take bb (IntKind.i64.wrap (now + (andI (ats[i]) 1048575))) (many[i]))) != 0) ?_ ?_ ?_
          · intro hb14 hk
            simp only [Bool.or_eq_false_iff, decide_eq_false_iff_not, Int.not_lt] at hb14
            refine o_unguard 97 rfl rfl ?_
            refine o_pure (p_load_agg (i := 1) (vs := [.int .i64 ((Rate.take bb (IntKind.i64.wrap (now + (andI (ats[i]) 1048575))) (many[i])).most), .int .i64 ((Rate.take bb (IntKind.i64.wrap (now + (andI (ats[i]) 1048575))) (many[i])).every), .int .i64 ((Rate.take bb (IntKind.i64.wrap (now + (andI (ats[i]) 1048575))) (many[i])).has), .int .i64 ((Rate.take bb (IntKind.i64.wrap (now + (andI (ats[i]) 1048575))) (many[i])).at_)]) rfl rfl sh53 rfl rfl) rfl rfl rfl ?_
            refine o_unguard 97 rfl rfl ?_
            refine o_call0 (v := .int .i64 (Rate.check0 (Rate.take bb (IntKind.i64.wrap (now + (andI (ats[i]) 1048575))) (many[i])))) rfl (check0_ok (Rate.take bb (IntKind.i64.wrap (now + (andI (ats[i]) 1048575))) (many[i]))) hf41 (fun _ _ => trivial) rfl ?_
            refine o_unguard 97 rfl rfl ?_
            refine o_pure (p_ne (p := (Rate.check0 (Rate.take bb (IntKind.i64.wrap (now + (andI (ats[i]) 1048575))) (many[i])))) (q := 0) rfl rfl) rfl rfl rfl ?_
            refine o_pure (p_pick_false (v := .bool ((Rate.check0 (Rate.take bb (IntKind.i64.wrap (now + (andI (ats[i]) 1048575))) (many[i]))) != 0)) rfl rfl) rfl rfl rfl ?_
            exact o_sub (Sub.cons rfl (Sub.skip rfl (Sub.skip rfl (Sub.skip rfl (Sub.skip rfl (Sub.skip rfl (Sub.refl _))))))) hk
          · intro hb14 hk
            refine o_guard_no rfl 97 rfl rfl rfl rfl rfl ?_
            refine o_guard_no rfl 97 rfl rfl rfl rfl rfl ?_
            refine o_guard_no rfl 97 rfl rfl rfl rfl rfl ?_
            refine o_pure (p_pick_true (u := .bool true) rfl rfl) rfl rfl rfl ?_
            exact o_sub (Sub.cons rfl (Sub.skip rfl (Sub.skip rfl (Sub.skip rfl (Sub.skip rfl (Sub.skip rfl (Sub.refl _))))))) hk
          refine o_nil ?_
          refine q_then ?_
          refine c_cond (b := (((decide ((IntKind.i64.wrap (b.has + (IntKind.i64.wrap ((IntKind.i64.wrap ((IntKind.i64.wrap (now + (andI (ats[i]) 1048575))) - b.at_)).tdiv ((Rate.take bb (IntKind.i64.wrap (now + (andI (ats[i]) 1048575))) (many[i])).every))))) < (IntKind.i64.wrap (took + many[i]))) || decide ((Rate.take bb (IntKind.i64.wrap (now + (andI (ats[i]) 1048575))) (many[i])).most < (Rate.take bb (IntKind.i64.wrap (now + (andI (ats[i]) 1048575))) (many[i])).has)) || decide ((Rate.take bb (IntKind.i64.wrap (now + (andI (ats[i]) 1048575))) (many[i])).has < 0)) || ((Rate.check0 (Rate.take bb (IntKind.i64.wrap (now + (andI (ats[i]) 1048575))) (many[i]))) != 0))) rfl (fun hc15 => ?_) (fun hc15 => ?_)
          · simp only [Bool.or_eq_true, decide_eq_true_eq, bne_iff_ne, ne_eq] at hc15
            exfalso
            first | exact Rate.BInv.fine (hbb.2.1 (by assumption)) (by omega) hc15 | exact Rate.BInv.fine (hbb.2.2 (by assumption)) (by omega) hc15
          · simp only [Bool.or_eq_false_iff, decide_eq_false_iff_not, Int.not_lt, bne_eq_false_iff_eq] at hc15
            refine c_skip ?_
            refine q_block_normal (q_then ?_)
            refine c_region ?_
            refine o_pure (p_move (v := .int .i64 (i : Int)) rfl) rfl rfl rfl ?_
            refine o_pure (p_addb (p := (i : Int)) (q := 1) rfl rfl (by omega)) rfl rfl rfl ?_
            refine o_pure (p_assign (v := .int .i64 ((i : Int) + 1)) rfl) rfl rfl rfl ?_
            refine o_nil ?_
            refine q_round hK4 ((IntKind.i64.wrap (took + many[i])), (IntKind.i64.wrap (now + (andI (ats[i]) 1048575))), i + 1, (Rate.take bb (IntKind.i64.wrap (now + (andI (ats[i]) 1048575))) (many[i]))) ?_ ?_ ?_ ?_
            · clear hK4
              first | exact hbb.2.1 (by assumption) | exact hbb.2.2 (by assumption) | exact Rate.BInv.skip hI (by omega) _
            · (try dsimp only); omega
            · exact Sub.cons rfl (Sub.cons rfl (Sub.cons rfl (Sub.cons rfl (Sub.cons rfl (Sub.cons rfl (Sub.cons rfl (Sub.cons rfl (Sub.nil _))))))))
            · exact fun _ hw => HeapIs.drop hw (List.Sublist.cons _ (List.Sublist.refl _))
        · skip
          refine c_skip ?_
          refine q_then ?_
          refine c_seq ?_
          refine c_region ?_
          refine o_pure (p_load_agg (i := 0) (vs := [.int .i64 ((Rate.take bb (IntKind.i64.wrap (now + (andI (ats[i]) 1048575))) (many[i])).most), .int .i64 ((Rate.take bb (IntKind.i64.wrap (now + (andI (ats[i]) 1048575))) (many[i])).every), .int .i64 ((Rate.take bb (IntKind.i64.wrap (now + (andI (ats[i]) 1048575))) (many[i])).has), .int .i64 ((Rate.take bb (IntKind.i64.wrap (now + (andI (ats[i]) 1048575))) (many[i])).at_)]) rfl rfl sh53 rfl rfl) rfl rfl rfl ?_
          refine o_storeN (i := 1) (vs := [.int .i64 ((Rate.take bb (IntKind.i64.wrap (now + (andI (ats[i]) 1048575))) (many[i])).most), .int .i64 ((Rate.take bb (IntKind.i64.wrap (now + (andI (ats[i]) 1048575))) (many[i])).every), .int .i64 ((Rate.take bb (IntKind.i64.wrap (now + (andI (ats[i]) 1048575))) (many[i])).has), .int .i64 ((Rate.take bb (IntKind.i64.wrap (now + (andI (ats[i]) 1048575))) (many[i])).at_)]) (cs' := [.int .i64 ((Rate.take bb (IntKind.i64.wrap (now + (andI (ats[i]) 1048575))) (many[i])).most), .int .i64 ((Rate.take bb (IntKind.i64.wrap (now + (andI (ats[i]) 1048575))) (many[i])).every), .int .i64 ((Rate.take bb (IntKind.i64.wrap (now + (andI (ats[i]) 1048575))) (many[i])).has), .int .i64 ((Rate.take bb (IntKind.i64.wrap (now + (andI (ats[i]) 1048575))) (many[i])).at_)]) rfl rfl rfl sz53 rfl rfl rfl rfl ?_
          refine o_nil ?_
          refine q_then ?_
          refine c_seq ?_
          refine c_region ?_
          refine o_pure (p_move (v := .int .i64 took) rfl) rfl rfl rfl ?_
          refine o_pure (p_move (v := .int .i64 b.has) rfl) rfl rfl rfl ?_
          refine o_pure (p_move (v := .int .i64 (IntKind.i64.wrap (now + (andI (ats[i]) 1048575)))) rfl) rfl rfl rfl ?_
          refine o_pure (p_move (v := .int .i64 b.at_) rfl) rfl rfl rfl ?_
          refine o_pure (p_sub (p := (IntKind.i64.wrap (now + (andI (ats[i]) 1048575)))) (q := b.at_) rfl rfl) rfl rfl rfl ?_
          refine o_pure (p_fieldAddr (B := B1) (j := 0) (j' := 1) rfl fo53_1 rfl) rfl rfl rfl ?_
          refine o_pure (p_load (i := 1) (v := .int .i64 ((Rate.take bb (IntKind.i64.wrap (now + (andI (ats[i]) 1048575))) (many[i])).every)) rfl rfl sh3 rfl) rfl rfl rfl ?_
          refine o_pure (p_quo (p := (IntKind.i64.wrap ((IntKind.i64.wrap (now + (andI (ats[i]) 1048575))) - b.at_))) (q := (Rate.take bb (IntKind.i64.wrap (now + (andI (ats[i]) 1048575))) (many[i])).every) rfl rfl (by omega)) rfl rfl rfl ?_
          refine o_pure (p_add (p := b.has) (q := (IntKind.i64.wrap ((IntKind.i64.wrap ((IntKind.i64.wrap (now + (andI (ats[i]) 1048575))) - b.at_)).tdiv ((Rate.take bb (IntKind.i64.wrap (now + (andI (ats[i]) 1048575))) (many[i])).every)))) rfl rfl) rfl rfl rfl ?_
          refine o_pure (p_gt (p := took) (q := (IntKind.i64.wrap (b.has + (IntKind.i64.wrap ((IntKind.i64.wrap ((IntKind.i64.wrap (now + (andI (ats[i]) 1048575))) - b.at_)).tdiv ((Rate.take bb (IntKind.i64.wrap (now + (andI (ats[i]) 1048575))) (many[i])).every)))))) rfl rfl) rfl rfl rfl ?_
          refine o_pure (p_move (v := .bool (decide ((IntKind.i64.wrap (b.has + (IntKind.i64.wrap ((IntKind.i64.wrap ((IntKind.i64.wrap (now + (andI (ats[i]) 1048575))) - b.at_)).tdiv ((Rate.take bb (IntKind.i64.wrap (now + (andI (ats[i]) 1048575))) (many[i])).every))))) < took))) rfl) rfl rfl rfl ?_
          refine o_or (p := 91) 6 (decide ((Rate.take bb (IntKind.i64.wrap (now + (andI (ats[i]) 1048575))) (many[i])).most < (Rate.take bb (IntKind.i64.wrap (now + (andI (ats[i]) 1048575))) (many[i])).has)) ?_ ?_ ?_
          · intro hb16 hk
            simp only [decide_eq_false_iff_not, Int.not_lt] at hb16
            refine o_unguard 85 rfl rfl ?_
            refine o_pure (p_fieldAddr (B := B1) (j := 0) (j' := 2) rfl fo53_2 rfl) rfl rfl rfl ?_
            refine o_unguard 85 rfl rfl ?_
            refine o_pure (p_load (i := 1) (v := .int .i64 ((Rate.take bb (IntKind.i64.wrap (now + (andI (ats[i]) 1048575))) (many[i])).has)) rfl rfl sh3 rfl) rfl rfl rfl ?_
            refine o_unguard 85 rfl rfl ?_
            refine o_pure (p_fieldAddr (B := B1) (j := 0) (j' := 0) rfl fo53_0 rfl) rfl rfl rfl ?_
            refine o_unguard 85 rfl rfl ?_
            refine o_pure (p_load (i := 1) (v := .int .i64 ((Rate.take bb (IntKind.i64.wrap (now + (andI (ats[i]) 1048575))) (many[i])).most)) rfl rfl sh3 rfl) rfl rfl rfl ?_
            refine o_unguard 85 rfl rfl ?_
            refine o_pure (p_gt (p := (Rate.take bb (IntKind.i64.wrap (now + (andI (ats[i]) 1048575))) (many[i])).has) (q := (Rate.take bb (IntKind.i64.wrap (now + (andI (ats[i]) 1048575))) (many[i])).most) rfl rfl) rfl rfl rfl ?_
            refine o_pure (p_pick_false (v := .bool (decide ((Rate.take bb (IntKind.i64.wrap (now + (andI (ats[i]) 1048575))) (many[i])).most < (Rate.take bb (IntKind.i64.wrap (now + (andI (ats[i]) 1048575))) (many[i])).has))) rfl rfl) rfl rfl rfl ?_
            exact o_sub (Sub.cons rfl (Sub.skip rfl (Sub.skip rfl (Sub.skip rfl (Sub.skip rfl (Sub.skip rfl (Sub.skip rfl (Sub.skip rfl (Sub.refl _))))))))) hk
          · intro hb16 hk
            refine o_guard_no rfl 85 rfl rfl rfl rfl rfl ?_
            refine o_guard_no rfl 85 rfl rfl rfl rfl rfl ?_
            refine o_guard_no rfl 85 rfl rfl rfl rfl rfl ?_
            refine o_guard_no rfl 85 rfl rfl rfl rfl rfl ?_
            refine o_guard_no rfl 85 rfl rfl rfl rfl rfl ?_
            refine o_pure (p_pick_true (u := .bool true) rfl rfl) rfl rfl rfl ?_
            exact o_sub (Sub.cons rfl (Sub.skip rfl (Sub.skip rfl (Sub.skip rfl (Sub.skip rfl (Sub.skip rfl (Sub.skip rfl (Sub.skip rfl (Sub.refl _))))))))) hk
          refine o_pure (p_move (v := .bool (decide ((IntKind.i64.wrap (b.has + (IntKind.i64.wrap ((IntKind.i64.wrap ((IntKind.i64.wrap (now + (andI (ats[i]) 1048575))) - b.at_)).tdiv ((Rate.take bb (IntKind.i64.wrap (now + (andI (ats[i]) 1048575))) (many[i])).every))))) < took) || decide ((Rate.take bb (IntKind.i64.wrap (now + (andI (ats[i]) 1048575))) (many[i])).most < (Rate.take bb (IntKind.i64.wrap (now + (andI (ats[i]) 1048575))) (many[i])).has))) rfl) rfl rfl rfl ?_
          refine o_or (p := 96) 4 (decide ((Rate.take bb (IntKind.i64.wrap (now + (andI (ats[i]) 1048575))) (many[i])).has < 0)) ?_ ?_ ?_
          · intro hb17 hk
            simp only [Bool.or_eq_false_iff, decide_eq_false_iff_not, Int.not_lt] at hb17
            refine o_unguard 92 rfl rfl ?_
            refine o_pure (p_fieldAddr (B := B1) (j := 0) (j' := 2) rfl fo53_2 rfl) rfl rfl rfl ?_
            refine o_unguard 92 rfl rfl ?_
            refine o_pure (p_load (i := 1) (v := .int .i64 ((Rate.take bb (IntKind.i64.wrap (now + (andI (ats[i]) 1048575))) (many[i])).has)) rfl rfl sh3 rfl) rfl rfl rfl ?_
            refine o_unguard 92 rfl rfl ?_
            refine o_pure (p_lt (p := (Rate.take bb (IntKind.i64.wrap (now + (andI (ats[i]) 1048575))) (many[i])).has) (q := 0) rfl rfl) rfl rfl rfl ?_
            refine o_pure (p_pick_false (v := .bool (decide ((Rate.take bb (IntKind.i64.wrap (now + (andI (ats[i]) 1048575))) (many[i])).has < 0))) rfl rfl) rfl rfl rfl ?_
            exact o_sub (Sub.cons rfl (Sub.skip rfl (Sub.skip rfl (Sub.skip rfl (Sub.skip rfl (Sub.skip rfl (Sub.refl _))))))) hk
          · intro hb17 hk
            refine o_guard_no rfl 92 rfl rfl rfl rfl rfl ?_
            refine o_guard_no rfl 92 rfl rfl rfl rfl rfl ?_
            refine o_guard_no rfl 92 rfl rfl rfl rfl rfl ?_
            refine o_pure (p_pick_true (u := .bool true) rfl rfl) rfl rfl rfl ?_
            exact o_sub (Sub.cons rfl (Sub.skip rfl (Sub.skip rfl (Sub.skip rfl (Sub.skip rfl (Sub.skip rfl (Sub.refl _))))))) hk
          refine o_pure (p_move (v := .bool ((decide ((IntKind.i64.wrap (b.has + (IntKind.i64.wrap ((IntKind.i64.wrap ((IntKind.i64.wrap (now + (andI (ats[i]) 1048575))) - b.at_)).tdiv ((Rate.take bb (IntKind.i64.wrap (now + (andI (ats[i]) 1048575))) (many[i])).every))))) < took) || decide ((Rate.take bb (IntKind.i64.wrap (now + (andI (ats[i]) 1048575))) (many[i])).most < (Rate.take bb (IntKind.i64.wrap (now + (andI (ats[i]) 1048575))) (many[i])).has)) || decide ((Rate.take bb (IntKind.i64.wrap (now + (andI (ats[i]) 1048575))) (many[i])).has < 0))) rfl) rfl rfl rfl ?_
          refine o_or (p := 101) 4 ((Rate.check0 (Rate.take bb (IntKind.i64.wrap (now + (andI (ats[i]) 1048575))) (many[i]))) != 0) ?_ ?_ ?_
          · intro hb18 hk
            simp only [Bool.or_eq_false_iff, decide_eq_false_iff_not, Int.not_lt] at hb18
            refine o_unguard 97 rfl rfl ?_
            refine o_pure (p_load_agg (i := 1) (vs := [.int .i64 ((Rate.take bb (IntKind.i64.wrap (now + (andI (ats[i]) 1048575))) (many[i])).most), .int .i64 ((Rate.take bb (IntKind.i64.wrap (now + (andI (ats[i]) 1048575))) (many[i])).every), .int .i64 ((Rate.take bb (IntKind.i64.wrap (now + (andI (ats[i]) 1048575))) (many[i])).has), .int .i64 ((Rate.take bb (IntKind.i64.wrap (now + (andI (ats[i]) 1048575))) (many[i])).at_)]) rfl rfl sh53 rfl rfl) rfl rfl rfl ?_
            refine o_unguard 97 rfl rfl ?_
            refine o_call0 (v := .int .i64 (Rate.check0 (Rate.take bb (IntKind.i64.wrap (now + (andI (ats[i]) 1048575))) (many[i])))) rfl (check0_ok (Rate.take bb (IntKind.i64.wrap (now + (andI (ats[i]) 1048575))) (many[i]))) hf41 (fun _ _ => trivial) rfl ?_
            refine o_unguard 97 rfl rfl ?_
            refine o_pure (p_ne (p := (Rate.check0 (Rate.take bb (IntKind.i64.wrap (now + (andI (ats[i]) 1048575))) (many[i])))) (q := 0) rfl rfl) rfl rfl rfl ?_
            refine o_pure (p_pick_false (v := .bool ((Rate.check0 (Rate.take bb (IntKind.i64.wrap (now + (andI (ats[i]) 1048575))) (many[i]))) != 0)) rfl rfl) rfl rfl rfl ?_
            exact o_sub (Sub.cons rfl (Sub.skip rfl (Sub.skip rfl (Sub.skip rfl (Sub.skip rfl (Sub.skip rfl (Sub.refl _))))))) hk
          · intro hb18 hk
            refine o_guard_no rfl 97 rfl rfl rfl rfl rfl ?_
            refine o_guard_no rfl 97 rfl rfl rfl rfl rfl ?_
            refine o_guard_no rfl 97 rfl rfl rfl rfl rfl ?_
            refine o_pure (p_pick_true (u := .bool true) rfl rfl) rfl rfl rfl ?_
            exact o_sub (Sub.cons rfl (Sub.skip rfl (Sub.skip rfl (Sub.skip rfl (Sub.skip rfl (Sub.skip rfl (Sub.refl _))))))) hk
          refine o_nil ?_
          refine q_then ?_
          refine c_cond (b := (((decide ((IntKind.i64.wrap (b.has + (IntKind.i64.wrap ((IntKind.i64.wrap ((IntKind.i64.wrap (now + (andI (ats[i]) 1048575))) - b.at_)).tdiv ((Rate.take bb (IntKind.i64.wrap (now + (andI (ats[i]) 1048575))) (many[i])).every))))) < took) || decide ((Rate.take bb (IntKind.i64.wrap (now + (andI (ats[i]) 1048575))) (many[i])).most < (Rate.take bb (IntKind.i64.wrap (now + (andI (ats[i]) 1048575))) (many[i])).has)) || decide ((Rate.take bb (IntKind.i64.wrap (now + (andI (ats[i]) 1048575))) (many[i])).has < 0)) || ((Rate.check0 (Rate.take bb (IntKind.i64.wrap (now + (andI (ats[i]) 1048575))) (many[i]))) != 0))) rfl (fun hc19 => ?_) (fun hc19 => ?_)
          · simp only [Bool.or_eq_true, decide_eq_true_eq, bne_iff_ne, ne_eq] at hc19
            exfalso
            first | exact Rate.BInv.fine (hbb.2.1 (by assumption)) (by omega) hc19 | exact Rate.BInv.fine (hbb.2.2 (by assumption)) (by omega) hc19
          · simp only [Bool.or_eq_false_iff, decide_eq_false_iff_not, Int.not_lt, bne_eq_false_iff_eq] at hc19
            refine c_skip ?_
            refine q_block_normal (q_then ?_)
            refine c_region ?_
            refine o_pure (p_move (v := .int .i64 (i : Int)) rfl) rfl rfl rfl ?_
            refine o_pure (p_addb (p := (i : Int)) (q := 1) rfl rfl (by omega)) rfl rfl rfl ?_
            refine o_pure (p_assign (v := .int .i64 ((i : Int) + 1)) rfl) rfl rfl rfl ?_
            refine o_nil ?_
            refine q_round hK4 (took, (IntKind.i64.wrap (now + (andI (ats[i]) 1048575))), i + 1, (Rate.take bb (IntKind.i64.wrap (now + (andI (ats[i]) 1048575))) (many[i]))) ?_ ?_ ?_ ?_
            · clear hK4
              first | exact hbb.2.1 (by assumption) | exact hbb.2.2 (by assumption) | exact Rate.BInv.skip hI (by omega) _
            · (try dsimp only); omega
            · exact Sub.cons rfl (Sub.cons rfl (Sub.cons rfl (Sub.cons rfl (Sub.cons rfl (Sub.cons rfl (Sub.cons rfl (Sub.cons rfl (Sub.nil _))))))))
            · exact fun _ hw => HeapIs.drop hw (List.Sublist.cons _ (List.Sublist.refl _))
    · simp only [Bool.and_eq_false_iff, decide_eq_false_iff_not, Int.not_lt] at hc7
      refine c_exit ?_
      refine q_then_exit (q_then_exit (q_block_exit (q_then ?_)))
      refine c_seq ?_
      refine c_region ?_
      refine o_pure (p_assign (v := .bool true) rfl) rfl rfl rfl ?_
      refine o_nil ?_
      refine q_then ?_
      refine c_ret ?_
      refine q_end0 (v := .bool true) (rt1 rfl (r_tmp rfl)) (i := 1) rfl ?_
      rfl
end Go.Proofs.Ythbfdhphnofacaa
