/- The walks, printed by a program from the translation and a specification. -/
import Derived.Test.YthecfjipaepcgaaShF
import Derived.Test.YthecfjipaepcgaaShLaw
import Derived.Test.YthecfjipaepcgaaShW2
namespace Go.Proofs.Ythecfjipaepcgaa
open Go.Sx Go.RowKit
set_option maxHeartbeats 8000000 in
set_option maxRecDepth 100000 in
theorem scheck2_ok (l : List DShard) (al : Option Addr) (cl : Nat) (key : ByteArray) : Fn0 Try.prog 68 [.slice al l.length cl, .string key] (fun w => Rd tShard w al cl l) (.int .i64 (Shd.ownErr l key)) := by
  refine fn0 (nt := 20) (F0 := [(0, .slice al l.length cl), (1, .string key)]) Try.func68 rfl Try.ntmps68 rfl rfl (fun w0 hpre => ?_)
  have hl := hpre
  have hlhl := hl.2.1
  refine c_seq ?_
  refine c_region ?_
  refine o_pure (p_assign (v := .int .i64 0) rfl) rfl rfl rfl ?_
  refine o_nil ?_
  refine q_then ?_
  refine c_seq ?_
  refine c_region ?_
  refine o_pure (p_move (v := .slice al l.length cl) rfl) rfl rfl rfl ?_
  refine o_call0 (v := .int .i64 (Shd.check l)) rfl (scheck_ok l al cl) hf38 (fun w hw => (rd_base (i := 0) rfl hl) w hw) rfl ?_
  refine o_pure (p_assign (v := .int .i64 (Shd.check l)) rfl) rfl rfl rfl ?_
  refine o_nil ?_
  refine q_then ?_
  refine c_seq ?_
  refine c_block ?_
  refine c_seq ?_
  refine c_region ?_
  refine o_pure (p_move (v := .int .i64 (Shd.check l)) rfl) rfl rfl rfl ?_
  refine o_pure (p_ne (p := (Shd.check l)) (q := 0) rfl rfl) rfl rfl rfl ?_
  refine o_pure (p_assign (v := .bool ((Shd.check l) != 0)) rfl) rfl rfl rfl ?_
  refine o_nil ?_
  refine q_then ?_
  refine c_cond (b := ((Shd.check l) != 0)) rfl (fun hc1 => ?_) (fun hc1 => ?_)
  · simp only [bne_iff_ne, ne_eq] at hc1
    refine c_seq ?_
    refine c_region ?_
    refine o_pure (p_move (v := .int .i64 (Shd.check l)) rfl) rfl rfl rfl ?_
    refine o_pure (p_assign (v := .int .i64 (Shd.check l)) rfl) rfl rfl rfl ?_
    refine o_nil ?_
    refine q_then ?_
    refine c_ret ?_
    refine q_block_ret (q_then_ret ?_)
    have hr0 : ((Shd.check l) : Int) = (Shd.ownErr l key) := by
      first | exact Shd.oe1 key (by assumption) | exact Shd.oe2 (by assumption) (by omega) | exact Shd.oe3 (by assumption) (by omega) (by omega) | exact Shd.oe4 (by assumption) (by omega) (by omega)
    refine q_end0 (v := .int .i64 (Shd.check l)) (rt1 rfl (r_tmp rfl)) (i := 0) rfl ?_
    exact (by have hcc := congrArg (fun (y0 : Int) => (.int .i64 y0 : Value)) hr0; exact hcc)
  · simp only [bne_eq_false_iff_eq] at hc1
    refine c_seq ?_
    refine c_region ?_
    refine o_pure (p_move (v := .string key) rfl) rfl rfl rfl ?_
    refine o_pure (p_len_string rfl rfl Try.underlying9) rfl rfl rfl ?_
    refine o_pure (p_gt (p := (key.size : Int)) (q := 40) rfl rfl) rfl rfl rfl ?_
    refine o_pure (p_assign (v := .bool (decide (40 < (key.size : Int)))) rfl) rfl rfl rfl ?_
    refine o_nil ?_
    refine q_then ?_
    refine c_cond (b := decide (40 < (key.size : Int))) rfl (fun hc2 => ?_) (fun hc2 => ?_)
    · simp only [decide_eq_true_eq] at hc2
      refine c_seq ?_
      refine c_region ?_
      refine o_pure (p_assign (v := .int .i64 2) rfl) rfl rfl rfl ?_
      refine o_nil ?_
      refine q_then ?_
      refine c_ret ?_
      refine q_block_ret (q_then_ret ?_)
      have hr0 : (2 : Int) = (Shd.ownErr l key) := by
        first | exact Shd.oe1 key (by assumption) | exact Shd.oe2 (by assumption) (by omega) | exact Shd.oe3 (by assumption) (by omega) (by omega) | exact Shd.oe4 (by assumption) (by omega) (by omega)
      refine q_end0 (v := .int .i64 2) (rt1 rfl (r_tmp rfl)) (i := 0) rfl ?_
      exact (by have hcc := congrArg (fun (y0 : Int) => (.int .i64 y0 : Value)) hr0; exact hcc)
    · simp only [decide_eq_false_iff_not, Int.not_lt] at hc2
      refine c_seq ?_
      refine c_region ?_
      refine o_pure (p_move (v := .slice al l.length cl) rfl) rfl rfl rfl ?_
      refine o_pure (p_len_slice (len := l.length) rfl rfl Try.underlying43) rfl rfl rfl ?_
      refine o_pure (p_eq (p := (l.length : Int)) (q := 0) rfl rfl) rfl rfl rfl ?_
      refine o_pure (p_assign (v := .bool ((l.length : Int) == 0)) rfl) rfl rfl rfl ?_
      refine o_nil ?_
      refine q_then ?_
      refine c_cond (b := ((l.length : Int) == 0)) rfl (fun hc3 => ?_) (fun hc3 => ?_)
      · simp only [beq_iff_eq] at hc3
        refine c_seq ?_
        refine c_region ?_
        refine o_pure (p_assign (v := .int .i64 5) rfl) rfl rfl rfl ?_
        refine o_nil ?_
        refine q_then ?_
        refine c_ret ?_
        refine q_block_ret (q_then_ret ?_)
        have hr0 : (5 : Int) = (Shd.ownErr l key) := by
          first | exact Shd.oe1 key (by assumption) | exact Shd.oe2 (by assumption) (by omega) | exact Shd.oe3 (by assumption) (by omega) (by omega) | exact Shd.oe4 (by assumption) (by omega) (by omega)
        refine q_end0 (v := .int .i64 5) (rt1 rfl (r_tmp rfl)) (i := 0) rfl ?_
        exact (by have hcc := congrArg (fun (y0 : Int) => (.int .i64 y0 : Value)) hr0; exact hcc)
      · simp only [beq_eq_false_iff_ne, ne_eq] at hc3
        refine c_skip ?_
        refine q_block_normal (q_then ?_)
        refine c_seq ?_
        refine c_region ?_
        refine o_pure (p_assign (v := .int .i64 0) rfl) rfl rfl rfl ?_
        refine o_nil ?_
        refine q_then ?_
        refine c_ret ?_
        have hr0 : (0 : Int) = (Shd.ownErr l key) := by
          first | exact Shd.oe1 key (by assumption) | exact Shd.oe2 (by assumption) (by omega) | exact Shd.oe3 (by assumption) (by omega) (by omega) | exact Shd.oe4 (by assumption) (by omega) (by omega)
        refine q_end0 (v := .int .i64 0) (rt1 rfl (r_tmp rfl)) (i := 0) rfl ?_
        exact (by have hcc := congrArg (fun (y0 : Int) => (.int .i64 y0 : Value)) hr0; exact hcc)

set_option maxHeartbeats 8000000 in
set_option maxRecDepth 100000 in
theorem sowner_ok (l : List DShard) (al : Option Addr) (cl : Nat) (key : ByteArray) : Fn0 Try.prog 33 [.slice al l.length cl, .string key] (fun w => Rd tShard w al cl l) (.tuple #[.int .i64 (Shd.owner l key), .int .i64 (Shd.ownErr l key)]) := by
  refine fn0 (nt := 18) (F0 := [(0, .slice al l.length cl), (1, .string key)]) Try.func33 rfl Try.ntmps33 rfl rfl (fun w0 hpre => ?_)
  have hl := hpre
  have hlhl := hl.2.1
  refine c_seq ?_
  refine c_region ?_
  refine o_pure (p_assign (v := .int .i64 0) rfl) rfl rfl rfl ?_
  refine o_pure (p_assign (v := .int .i64 0) rfl) rfl rfl rfl ?_
  refine o_nil ?_
  refine q_then ?_
  refine c_seq ?_
  refine c_seq ?_
  refine c_region ?_
  refine o_pure (p_move (v := .slice al l.length cl) rfl) rfl rfl rfl ?_
  refine o_pure (p_move (v := .string key) rfl) rfl rfl rfl ?_
  refine o_call0 (v := .int .i64 (Shd.ownErr l key)) rfl (scheck2_ok l al cl key) hf68 (fun w hw => (rd_base (i := 0) rfl hl) w hw) rfl ?_
  refine o_pure (p_assign (v := .int .i64 (Shd.ownErr l key)) rfl) rfl rfl rfl ?_
  refine o_nil ?_
  refine q_then ?_
  refine c_seq ?_
  refine c_region ?_
  refine o_pure (p_move (v := .int .i64 (Shd.ownErr l key)) rfl) rfl rfl rfl ?_
  refine o_pure (p_ne (p := (Shd.ownErr l key)) (q := 0) rfl rfl) rfl rfl rfl ?_
  refine o_nil ?_
  refine q_then ?_
  refine c_cond (b := ((Shd.ownErr l key) != 0)) rfl (fun hc1 => ?_) (fun hc1 => ?_)
  · simp only [bne_iff_ne, ne_eq] at hc1
    refine c_seq ?_
    refine c_region ?_
    refine o_pure (p_move (v := .int .i64 (Shd.ownErr l key)) rfl) rfl rfl rfl ?_
    refine o_pure (p_assign (v := .int .i64 0) rfl) rfl rfl rfl ?_
    refine o_pure (p_assign (v := .int .i64 (Shd.ownErr l key)) rfl) rfl rfl rfl ?_
    refine o_nil ?_
    refine q_then ?_
    refine c_ret ?_
    refine q_then_ret ?_
    have hr0 : (0 : Int) = (Shd.owner l key) := by
      first | rfl | exact (if_neg (by assumption)).symm | exact (if_pos hoe).symm | exact hoe.symm
    refine q_end0 (v := .tuple #[.int .i64 0, .int .i64 (Shd.ownErr l key)]) (rt2 rfl (r_tmp rfl) (r_tmp rfl)) (i := 0) rfl ?_
    exact (by have hcc := congrArg (fun (y0 : Int) => (.tuple #[.int .i64 y0, .int .i64 (Shd.ownErr l key)] : Value)) hr0; exact hcc)
  · simp only [bne_eq_false_iff_eq] at hc1
    have hoe := hc1
    have hok := Shd.own_ok hc1
    have hrl := Shd.ranked_len l key
    refine c_skip ?_
    refine q_then ?_
    refine c_seq ?_
    refine c_region ?_
    refine o_pure (p_move (v := .slice al l.length cl) rfl) rfl rfl rfl ?_
    refine o_pure (p_move (v := .string key) rfl) rfl rfl rfl ?_
    refine o_callM rfl (sranked_ok l al cl key (by first | assumption | exact ⟨hok.1, hok.2.1⟩)) hf69 (fun w hw => (rd_base (i := 0) rfl hl) w hw) rfl (fun _ _ _ _ ha hA => SlO.agree ha hA) ?_
    rintro ⟨a4, c5⟩ S2
    refine o_know (fun w hw => own_len (i := 0) (T := tInt) hw rfl) (fun hlr6 => ?_)
    refine o_pure (p_indexAddr (L := (Shd.ranked l key)) (T := tInt) (i := 0) rfl rfl (rd_own (i := 0) rfl) Try.underlying45 sz3 (by omega) (by omega)) rfl rfl rfl ?_
    refine o_pure (p_loadE1 (i := 0) (T := tInt) (L := (Shd.ranked l key)) (v := .int .i64 ((Shd.ranked l key).getD 0 default)) rfl (rd_own (i := 0) rfl) (by first | assumption | omega) sh3 (congrArg tInt.enc (getd_at (by first | assumption | omega) default))) rfl rfl rfl ?_
    refine o_pure (p_assign (v := .int .i64 ((Shd.ranked l key).getD 0 default)) rfl) rfl rfl rfl ?_
    refine o_pure (p_assign (v := .int .i64 0) rfl) rfl rfl rfl ?_
    refine o_nil ?_
    refine q_then ?_
    refine c_ret ?_
    have hr0 : (((Shd.ranked l key).getD 0 default) : Int) = (Shd.owner l key) := by
      first | rfl | exact (if_neg (by assumption)).symm | exact (if_pos hoe).symm | exact hoe.symm
    have hr1 : (0 : Int) = (Shd.ownErr l key) := by
      first | rfl | exact (if_neg (by assumption)).symm | exact (if_pos hoe).symm | exact hoe.symm
    refine q_end0 (v := .tuple #[.int .i64 ((Shd.ranked l key).getD 0 default), .int .i64 0]) (rt2 rfl (r_tmp rfl) (r_tmp rfl)) (i := 1) rfl ?_
    exact (by have hcc := congr (congrArg (fun (y0 : Int) (y1 : Int) => (.tuple #[.int .i64 y0, .int .i64 y1] : Value)) hr0) hr1; exact hcc)

set_option maxHeartbeats 8000000 in
set_option maxRecDepth 100000 in
theorem sowners_ok (l : List DShard) (al : Option Addr) (cl : Nat) (key : ByteArray) (many : Int) : FnM Try.prog 32 [.slice al l.length cl, .string key, .int .i64 many] (fun w => Rd tShard w al cl l) (Option Addr × Nat) (fun p => .tuple #[.slice p.1 (Shd.owners l key many).length p.2, .int .i64 (Shd.ownsErr l key many)]) (fun p S w => SlO tInt S w p.1 p.2 (Shd.owners l key many)) := by
  refine fnM (nt := 32) (F0 := [(0, .slice al l.length cl), (1, .string key), (2, .int .i64 many)]) Try.func32 rfl Try.ntmps32 rfl rfl (fun w0 hpre => ?_)
  have hl := hpre
  have hlhl := hl.2.1
  refine c_seq ?_
  refine c_region ?_
  refine o_pure (p_assign (v := .slice none 0 0) rfl) rfl rfl rfl ?_
  refine o_pure (p_assign (v := .int .i64 0) rfl) rfl rfl rfl ?_
  refine o_nil ?_
  refine q_then ?_
  refine c_seq ?_
  refine c_region ?_
  refine o_pure (p_move (v := .slice al l.length cl) rfl) rfl rfl rfl ?_
  refine o_pure (p_move (v := .string key) rfl) rfl rfl rfl ?_
  refine o_call0 (v := .int .i64 (Shd.ownErr l key)) rfl (scheck2_ok l al cl key) hf68 (fun w hw => (rd_base (i := 0) rfl hl) w hw) rfl ?_
  refine o_pure (p_assign (v := .int .i64 (Shd.ownErr l key)) rfl) rfl rfl rfl ?_
  refine o_nil ?_
  refine q_then ?_
  refine c_seq ?_
  refine c_seq ?_
  refine c_region ?_
  refine o_pure (p_move (v := .int .i64 (Shd.ownErr l key)) rfl) rfl rfl rfl ?_
  refine o_pure (p_eq (p := (Shd.ownErr l key)) (q := 0) rfl rfl) rfl rfl rfl ?_
  refine o_pure (p_move (v := .bool ((Shd.ownErr l key) == 0)) rfl) rfl rfl rfl ?_
  refine o_and (p := 23) 9 (decide (many < 1) || decide ((l.length : Int) < many)) ?_ ?_ ?_
  · intro hb1 hk
    simp only [beq_iff_eq] at hb1
    refine o_unguard 14 rfl rfl ?_
    refine o_pure (p_move (v := .int .i64 many) rfl) rfl rfl rfl ?_
    refine o_unguard 14 rfl rfl ?_
    refine o_pure (p_lt (p := many) (q := 1) rfl rfl) rfl rfl rfl ?_
    refine o_unguard 14 rfl rfl ?_
    refine o_pure (p_move (v := .bool (decide (many < 1))) rfl) rfl rfl rfl ?_
    refine o_or (p := 22) 5 (decide ((l.length : Int) < many)) ?_ ?_ ?_
    · intro hb2 hk
      simp only [decide_eq_false_iff_not, Int.not_lt] at hb2
      refine o_unguard 17 rfl rfl ?_
      refine o_pure (p_move (v := .int .i64 many) rfl) rfl rfl rfl ?_
      refine o_unguard 17 rfl rfl ?_
      refine o_pure (p_move (v := .slice al l.length cl) rfl) rfl rfl rfl ?_
      refine o_unguard 17 rfl rfl ?_
      refine o_pure (p_len_slice (len := l.length) rfl rfl Try.underlying43) rfl rfl rfl ?_
      refine o_unguard 17 rfl rfl ?_
      refine o_pure (p_gt (p := many) (q := (l.length : Int)) rfl rfl) rfl rfl rfl ?_
      refine o_unguard 14 rfl rfl ?_
      refine o_pure (p_pick_false (v := .bool (decide ((l.length : Int) < many))) rfl rfl) rfl rfl rfl ?_
      exact o_sub (Sub.cons rfl (Sub.skip rfl (Sub.skip rfl (Sub.skip rfl (Sub.skip rfl (Sub.skip rfl (Sub.skip rfl (Sub.refl _)))))))) hk
    · intro hb2 hk
      refine o_guard_no rfl 17 rfl rfl rfl rfl rfl ?_
      refine o_guard_no rfl 17 rfl rfl rfl rfl rfl ?_
      refine o_guard_no rfl 17 rfl rfl rfl rfl rfl ?_
      refine o_guard_no rfl 17 rfl rfl rfl rfl rfl ?_
      refine o_unguard 14 rfl rfl ?_
      refine o_pure (p_pick_true (u := .bool true) rfl rfl) rfl rfl rfl ?_
      exact o_sub (Sub.cons rfl (Sub.skip rfl (Sub.skip rfl (Sub.skip rfl (Sub.skip rfl (Sub.skip rfl (Sub.skip rfl (Sub.refl _)))))))) hk
    refine o_pure (p_pick_true (u := .bool (decide (many < 1) || decide ((l.length : Int) < many))) rfl rfl) rfl rfl rfl ?_
    exact o_sub (Sub.cons rfl (Sub.skip rfl (Sub.skip rfl (Sub.skip rfl (Sub.skip rfl (Sub.skip rfl (Sub.refl _))))))) hk
  · intro hb1 hk
    refine o_guard_no rfl 14 rfl rfl rfl rfl rfl ?_
    refine o_guard_no rfl 14 rfl rfl rfl rfl rfl ?_
    refine o_guard_no rfl 14 rfl rfl rfl rfl rfl ?_
    refine o_guard_no rfl 17 rfl rfl rfl rfl rfl ?_
    refine o_guard_no rfl 17 rfl rfl rfl rfl rfl ?_
    refine o_guard_no rfl 17 rfl rfl rfl rfl rfl ?_
    refine o_guard_no rfl 17 rfl rfl rfl rfl rfl ?_
    refine o_guard_no rfl 14 rfl rfl rfl rfl rfl ?_
    refine o_pure (p_pick_false (v := .bool false) rfl rfl) rfl rfl rfl ?_
    exact o_sub (Sub.cons rfl (Sub.skip rfl (Sub.skip rfl (Sub.skip rfl (Sub.skip rfl (Sub.skip rfl (Sub.skip rfl (Sub.skip rfl (Sub.skip rfl (Sub.skip rfl (Sub.skip rfl (Sub.refl _)))))))))))) hk
  refine o_nil ?_
  refine q_then ?_
  refine c_cond (b := (((Shd.ownErr l key) == 0) && (decide (many < 1) || decide ((l.length : Int) < many)))) rfl (fun hc3 => ?_) (fun hc3 => ?_)
  · simp only [Bool.and_eq_true, beq_iff_eq, Bool.or_eq_true, decide_eq_true_eq] at hc3
    refine c_region ?_
    refine o_pure (p_assign (v := .int .i64 3) rfl) rfl rfl rfl ?_
    refine o_nil ?_
    refine q_then ?_
    refine c_seq ?_
    refine c_seq ?_
    refine c_region ?_
    refine o_pure (p_move (v := .int .i64 3) rfl) rfl rfl rfl ?_
    refine o_pure (p_ne (p := 3) (q := 0) rfl rfl) rfl rfl rfl ?_
    refine o_nil ?_
    refine q_then ?_
    refine c_true rfl ?_
    refine c_seq ?_
    refine c_region ?_
    refine o_pure (p_move (v := .int .i64 3) rfl) rfl rfl rfl ?_
    refine o_pure (p_assign (v := .slice none 0 0) rfl) rfl rfl rfl ?_
    refine o_pure (p_assign (v := .int .i64 3) rfl) rfl rfl rfl ?_
    refine o_nil ?_
    refine q_then ?_
    refine c_ret ?_
    refine q_then_ret ?_
    rcases Shd.ow_cases l key many with ⟨c1, c2, c3⟩ | ⟨c1, c4, c2, c3⟩ | ⟨c1, c4, c2, c3⟩ <;> try (exfalso; omega)
    have hr0 : ([] : List Int) = (Shd.owners l key many) := by
      first | exact c3.symm | exact c2.symm
    have hr1 : (3 : Int) = (Shd.ownsErr l key many) := by
      first | exact c3.symm | exact c2.symm
    refine q_endM (p := (none, 0)) (fun _ => False) (rt2 rfl (r_tmp rfl) (r_tmp rfl)) (i := 0) rfl ?_ ?_ ?_
    · exact (by have hcc := congr (congrArg (fun (y0 : List Int) (y1 : Int) => (.tuple #[.slice none y0.length 0, .int .i64 y1] : Value)) hr0) hr1; exact hcc)
    · intro w hw b hb; exact hb.elim
    · intro w hw; exact Eq.mp (congrArg (fun y => SlO tInt _ w none 0 y) hr0) (SlO.nil tInt w)
  · simp only [Bool.and_eq_false_iff, beq_eq_false_iff_ne, ne_eq, Bool.or_eq_false_iff, decide_eq_false_iff_not, Int.not_lt] at hc3
    have hmm := hc3
    refine c_skip ?_
    refine q_then ?_
    refine c_seq ?_
    refine c_seq ?_
    refine c_region ?_
    refine o_pure (p_move (v := .int .i64 (Shd.ownErr l key)) rfl) rfl rfl rfl ?_
    refine o_pure (p_ne (p := (Shd.ownErr l key)) (q := 0) rfl rfl) rfl rfl rfl ?_
    refine o_nil ?_
    refine q_then ?_
    refine c_cond (b := ((Shd.ownErr l key) != 0)) rfl (fun hc4 => ?_) (fun hc4 => ?_)
    · simp only [bne_iff_ne, ne_eq] at hc4
      refine c_seq ?_
      refine c_region ?_
      refine o_pure (p_move (v := .int .i64 (Shd.ownErr l key)) rfl) rfl rfl rfl ?_
      refine o_pure (p_assign (v := .slice none 0 0) rfl) rfl rfl rfl ?_
      refine o_pure (p_assign (v := .int .i64 (Shd.ownErr l key)) rfl) rfl rfl rfl ?_
      refine o_nil ?_
      refine q_then ?_
      refine c_ret ?_
      refine q_then_ret ?_
      rcases Shd.ow_cases l key many with ⟨c1, c2, c3⟩ | ⟨c1, c4, c2, c3⟩ | ⟨c1, c4, c2, c3⟩ <;> try (exfalso; omega)
      have hr0 : ([] : List Int) = (Shd.owners l key many) := by
        first | exact c3.symm | exact c2.symm
      have hr1 : ((Shd.ownErr l key) : Int) = (Shd.ownsErr l key many) := by
        first | exact c3.symm | exact c2.symm
      refine q_endM (p := (none, 0)) (fun _ => False) (rt2 rfl (r_tmp rfl) (r_tmp rfl)) (i := 0) rfl ?_ ?_ ?_
      · exact (by have hcc := congr (congrArg (fun (y0 : List Int) (y1 : Int) => (.tuple #[.slice none y0.length 0, .int .i64 y1] : Value)) hr0) hr1; exact hcc)
      · intro w hw b hb; exact hb.elim
      · intro w hw; exact Eq.mp (congrArg (fun y => SlO tInt _ w none 0 y) hr0) (SlO.nil tInt w)
    · simp only [bne_eq_false_iff_eq] at hc4
      have hoe := hc4
      have hok := Shd.own_ok hc4
      have hrl := Shd.ranked_len l key
      refine c_skip ?_
      refine q_then ?_
      refine c_seq ?_
      refine c_region ?_
      refine o_pure (p_move (v := .slice al l.length cl) rfl) rfl rfl rfl ?_
      refine o_pure (p_move (v := .string key) rfl) rfl rfl rfl ?_
      refine o_callM rfl (sranked_ok l al cl key (by first | assumption | exact ⟨hok.1, hok.2.1⟩)) hf69 (fun w hw => (rd_base (i := 0) rfl hl) w hw) rfl (fun _ _ _ _ ha hA => SlO.agree ha hA) ?_
      rintro ⟨a7, c8⟩ S5
      refine o_know (fun w hw => own_len (i := 0) (T := tInt) hw rfl) (fun hlr9 => ?_)
      refine o_pure (p_move (v := .int .i64 many) rfl) rfl rfl rfl ?_
      refine o_pure (p_sliceH (L := (Shd.ranked l key)) (T := tInt) (h := many) rfl rfl Try.underlying45 sz3 (by omega) (by omega) (rd_own (i := 0) rfl)) rfl rfl rfl ?_
      refine o_pure (p_assign (v := .slice a7 ((Shd.ranked l key).take many.toNat).length c8) rfl) rfl rfl rfl ?_
      refine o_pure (p_assign (v := .int .i64 0) rfl) rfl rfl rfl ?_
      refine o_nil ?_
      refine q_then ?_
      refine c_ret ?_
      refine q_shrinkC (i := 0) (hi := many.toNat) (T := tInt) rfl (by omega) ?_
      rcases Shd.ow_cases l key many with ⟨c1, c2, c3⟩ | ⟨c1, c4, c2, c3⟩ | ⟨c1, c4, c2, c3⟩ <;> try (exfalso; omega)
      have hr0 : (((Shd.ranked l key).take many.toNat) : List Int) = (Shd.owners l key many) := by
        first | exact c3.symm | exact c2.symm
      have hr1 : (0 : Int) = (Shd.ownsErr l key many) := by
        first | exact c3.symm | exact c2.symm
      refine q_endM (p := (a7, c8)) S5 (rt2 rfl (r_tmp rfl) (r_tmp rfl)) (i := 1) rfl ?_ ?_ ?_
      · exact (by have hcc := congr (congrArg (fun (y0 : List Int) (y1 : Int) => (.tuple #[.slice a7 y0.length c8, .int .i64 y1] : Value)) hr0) hr1; exact hcc)
      · exact fun w hw => hw.above (i := 1) (j := 0) (by decide) rfl rfl
      · intro w hw; exact Eq.mp (congrArg (fun y => SlO tInt _ w a7 c8 y) hr0) ((hw.at (i := 0) rfl).here)

set_option maxHeartbeats 8000000 in
set_option maxRecDepth 100000 in
theorem smoved_ok (l : List DShard) (al : Option Addr) (cl : Nat) (m : List DShard) (am : Option Addr) (cm : Nat) (keys : List ByteArray) (akeys : Option Addr) (ckeys : Nat) : FnM Try.prog 27 [.slice al l.length cl, .slice am m.length cm, .slice akeys keys.length ckeys] (fun w => Rd tShard w al cl l ∧ Rd tShard w am cm m ∧ Rd tStr w akeys ckeys keys) (Option Addr × Nat) (fun p => .tuple #[.slice p.1 (Shd.moved l m keys).length p.2, .int .i64 (Shd.movErr l m keys)]) (fun p S w => SlO tInt S w p.1 p.2 (Shd.moved l m keys)) := by
  refine fnM (nt := 59) (F0 := [(0, .slice al l.length cl), (1, .slice am m.length cm), (2, .slice akeys keys.length ckeys)]) Try.func27 rfl Try.ntmps27 rfl rfl (fun w0 hpre => ?_)
  obtain ⟨hl, hm, hkeys⟩ := hpre
  have hlhl := hl.2.1
  have hlhm := hm.2.1
  have hlhkeys := hkeys.2.1
  refine c_seq ?_
  refine c_region ?_
  refine o_pure (p_assign (v := .slice none 0 0) rfl) rfl rfl rfl ?_
  refine o_pure (p_assign (v := .int .i64 0) rfl) rfl rfl rfl ?_
  refine o_nil ?_
  refine q_then ?_
  refine c_seq ?_
  refine c_seq ?_
  refine c_region ?_
  refine o_pure (p_move (v := .slice akeys keys.length ckeys) rfl) rfl rfl rfl ?_
  refine o_pure (p_len_slice (len := keys.length) rfl rfl Try.underlying44) rfl rfl rfl ?_
  refine o_pure (p_gt (p := (keys.length : Int)) (q := 200) rfl rfl) rfl rfl rfl ?_
  refine o_nil ?_
  refine q_then ?_
  refine c_cond (b := decide (200 < (keys.length : Int))) rfl (fun hc1 => ?_) (fun hc1 => ?_)
  · simp only [decide_eq_true_eq] at hc1
    refine c_seq ?_
    refine c_region ?_
    refine o_pure (p_assign (v := .slice none 0 0) rfl) rfl rfl rfl ?_
    refine o_pure (p_assign (v := .int .i64 2) rfl) rfl rfl rfl ?_
    refine o_nil ?_
    refine q_then ?_
    refine c_ret ?_
    refine q_then_ret ?_
    obtain ⟨hv1, hv2⟩ : _ ∧ _ := by first | exact Shd.mv1 l m (by omega) | exact hI.badl (by omega) (by omega) (by assumption) | exact hI.badm (by omega) (by omega) ha0 (by assumption) | exact hI.done (by omega) (by omega)
    have hr0 : ([] : List Int) = (Shd.moved l m keys) := by
      first | exact hv1.symm | exact hv2.symm | (rw [hv1]; done)
    have hr1 : (2 : Int) = (Shd.movErr l m keys) := by
      first | exact hv1.symm | exact hv2.symm | (rw [hv1]; done)
    refine q_endM (p := (none, 0)) (fun _ => False) (rt2 rfl (r_tmp rfl) (r_tmp rfl)) (i := 0) rfl ?_ ?_ ?_
    · exact (by have hcc := congr (congrArg (fun (y0 : List Int) (y1 : Int) => (.tuple #[.slice none y0.length 0, .int .i64 y1] : Value)) hr0) hr1; exact hcc)
    · intro w hw b hb; exact hb.elim
    · intro w hw; exact Eq.mp (congrArg (fun y => SlO tInt _ w none 0 y) hr0) (SlO.nil tInt w)
  · simp only [decide_eq_false_iff_not, Int.not_lt] at hc1
    refine c_skip ?_
    refine q_then ?_
    refine c_seq ?_
    refine c_region ?_
    refine o_pure (p_assign (v := .slice none 0 0) rfl) rfl rfl rfl ?_
    refine o_nil ?_
    refine q_then ?_
    refine c_seq ?_
    refine c_seq ?_
    refine c_region ?_
    refine o_pure (p_move (v := .slice akeys keys.length ckeys) rfl) rfl rfl rfl ?_
    refine o_pure (p_len_slice (len := keys.length) rfl rfl Try.underlying44) rfl rfl rfl ?_
    refine o_pure (p_move (v := .int .i64 0) rfl) rfl rfl rfl ?_
    refine o_nil ?_
    refine q_then ?_
    refine c_block ?_
    refine c_ownNil tInt ?_
    refine c_loop (St := List Int × Option Addr × Nat × (Nat → Prop) × Nat)
      (fun ⟨out, aout, cout, Sout, k⟩ => [(0, .slice al l.length cl), (1, .slice am m.length cm), (8, .slice aout out.length cout), (17, .slice akeys keys.length ckeys), (18, .int .i64 (keys.length : Int)), (19, .int .i64 (k : Int))])
      (fun ⟨out, aout, cout, Sout, k⟩ => [own tInt Sout aout cout out, base w0])
      (fun ⟨out, aout, cout, Sout, k⟩ => Shd.MI l m keys out k)
      (fun ⟨out, aout, cout, Sout, k⟩ => keys.length - k)
      ([], none, 0, (fun _ => False), 0) ?_ (Sub.cons rfl (Sub.cons rfl (Sub.cons rfl (Sub.cons rfl (Sub.cons rfl (Sub.cons rfl (Sub.nil _))))))) (fun _ hw => hw) ?_
    · exact Shd.MI.start l m keys
    rintro ⟨out, aout, cout, Sout, k⟩ hI K hK3
    have hle := hI.le
    have hol := hI.len
    show SC _ _ Try.prog 59 w0 _ _ [(0, .slice al l.length cl), (1, .slice am m.length cm), (8, .slice aout out.length cout), (17, .slice akeys keys.length ckeys), (18, .int .i64 (keys.length : Int)), (19, .int .i64 (k : Int))] [own tInt Sout aout cout out, base w0]
    refine c_seq ?_
    refine c_region ?_
    refine o_pure (p_lt (p := (k : Int)) (q := (keys.length : Int)) rfl rfl) rfl rfl rfl ?_
    refine o_nil ?_
    refine q_then ?_
    refine c_seq ?_
    refine c_cond (b := decide ((k : Int) < (keys.length : Int))) rfl (fun hc4 => ?_) (fun hc4 => ?_)
    · simp only [decide_eq_true_eq] at hc4
      refine c_skip ?_
      refine q_then ?_
      refine c_seq ?_
      refine c_block ?_
      refine c_seq ?_
      refine c_region ?_
      refine o_pure (p_move (v := .int .i64 (k : Int)) rfl) rfl rfl rfl ?_
      refine o_pure (p_indexAddr (L := keys) (T := tStr) (i := (k : Int)) rfl rfl (rd_base (i := 1) rfl hkeys) Try.underlying44 sz9 (by omega) (by omega)) rfl rfl rfl ?_
      refine o_pure (p_loadE1 (i := k) (T := tStr) (L := keys) (v := .string (keys.getD k default)) rfl (rd_base (i := 1) rfl hkeys) (by first | assumption | omega) sh9 (congrArg tStr.enc (getd_at (by first | assumption | omega) default))) rfl rfl rfl ?_
      refine o_pure (p_assign (v := .int .i64 (k : Int)) rfl) rfl rfl rfl ?_
      refine o_pure (p_assign (v := .string (keys.getD k default)) rfl) rfl rfl rfl ?_
      refine o_nil ?_
      refine q_then ?_
      refine c_seq ?_
      refine c_region ?_
      refine o_pure (p_move (v := .slice al l.length cl) rfl) rfl rfl rfl ?_
      refine o_pure (p_move (v := .string (keys.getD k default)) rfl) rfl rfl rfl ?_
      refine o_call0 (v := .tuple #[.int .i64 (Shd.owner l (keys.getD k default)), .int .i64 (Shd.ownErr l (keys.getD k default))]) rfl (sowner_ok l al cl (keys.getD k default)) hf33 (fun w hw => (rd_base (i := 1) rfl hl) w hw) rfl ?_
      refine o_pure (p_move (v := .tuple #[.int .i64 (Shd.owner l (keys.getD k default)), .int .i64 (Shd.ownErr l (keys.getD k default))]) rfl) rfl rfl rfl ?_
      refine o_pure (p_extract (vs := [.int .i64 (Shd.owner l (keys.getD k default)), .int .i64 (Shd.ownErr l (keys.getD k default))]) (v := .int .i64 (Shd.owner l (keys.getD k default))) rfl rfl) rfl rfl rfl ?_
      refine o_pure (p_extract (vs := [.int .i64 (Shd.owner l (keys.getD k default)), .int .i64 (Shd.ownErr l (keys.getD k default))]) (v := .int .i64 (Shd.ownErr l (keys.getD k default))) rfl rfl) rfl rfl rfl ?_
      refine o_pure (p_assign (v := .int .i64 (Shd.owner l (keys.getD k default))) rfl) rfl rfl rfl ?_
      refine o_pure (p_assign (v := .int .i64 (Shd.ownErr l (keys.getD k default))) rfl) rfl rfl rfl ?_
      refine o_nil ?_
      refine q_then ?_
      refine c_seq ?_
      refine c_seq ?_
      refine c_region ?_
      refine o_pure (p_move (v := .int .i64 (Shd.ownErr l (keys.getD k default))) rfl) rfl rfl rfl ?_
      refine o_pure (p_ne (p := (Shd.ownErr l (keys.getD k default))) (q := 0) rfl rfl) rfl rfl rfl ?_
      refine o_nil ?_
      refine q_then ?_
      refine c_cond (b := ((Shd.ownErr l (keys.getD k default)) != 0)) rfl (fun hc5 => ?_) (fun hc5 => ?_)
      · simp only [bne_iff_ne, ne_eq] at hc5
        refine c_seq ?_
        refine c_region ?_
        refine o_pure (p_move (v := .int .i64 (Shd.ownErr l (keys.getD k default))) rfl) rfl rfl rfl ?_
        refine o_pure (p_assign (v := .slice none 0 0) rfl) rfl rfl rfl ?_
        refine o_pure (p_assign (v := .int .i64 (Shd.ownErr l (keys.getD k default))) rfl) rfl rfl rfl ?_
        refine o_nil ?_
        refine q_then ?_
        refine c_ret ?_
        refine q_then_ret (q_block_ret (q_then_ret (q_then_ret (q_block_ret (q_then_ret ?_)))))
        obtain ⟨hv1, hv2⟩ : _ ∧ _ := by first | exact Shd.mv1 l m (by omega) | exact hI.badl (by omega) (by omega) (by assumption) | exact hI.badm (by omega) (by omega) ha0 (by assumption) | exact hI.done (by omega) (by omega)
        have hr0 : ([] : List Int) = (Shd.moved l m keys) := by
          first | exact hv1.symm | exact hv2.symm | (rw [hv1]; done)
        have hr1 : ((Shd.ownErr l (keys.getD k default)) : Int) = (Shd.movErr l m keys) := by
          first | exact hv1.symm | exact hv2.symm | (rw [hv1]; done)
        refine q_endM (p := (none, 0)) (fun _ => False) (rt2 rfl (r_tmp rfl) (r_tmp rfl)) (i := 1) rfl ?_ ?_ ?_
        · exact (by have hcc := congr (congrArg (fun (y0 : List Int) (y1 : Int) => (.tuple #[.slice none y0.length 0, .int .i64 y1] : Value)) hr0) hr1; exact hcc)
        · intro w hw b hb; exact hb.elim
        · intro w hw; exact Eq.mp (congrArg (fun y => SlO tInt _ w none 0 y) hr0) (SlO.nil tInt w)
      · simp only [bne_eq_false_iff_eq] at hc5
        have ha0 := hc5
        have hao := Shd.owner_lt hc5
        refine c_skip ?_
        refine q_then ?_
        refine c_seq ?_
        refine c_region ?_
        refine o_pure (p_move (v := .slice am m.length cm) rfl) rfl rfl rfl ?_
        refine o_pure (p_move (v := .string (keys.getD k default)) rfl) rfl rfl rfl ?_
        refine o_call0 (v := .tuple #[.int .i64 (Shd.owner m (keys.getD k default)), .int .i64 (Shd.ownErr m (keys.getD k default))]) rfl (sowner_ok m am cm (keys.getD k default)) hf33 (fun w hw => (rd_base (i := 1) rfl hm) w hw) rfl ?_
        refine o_pure (p_move (v := .tuple #[.int .i64 (Shd.owner m (keys.getD k default)), .int .i64 (Shd.ownErr m (keys.getD k default))]) rfl) rfl rfl rfl ?_
        refine o_pure (p_extract (vs := [.int .i64 (Shd.owner m (keys.getD k default)), .int .i64 (Shd.ownErr m (keys.getD k default))]) (v := .int .i64 (Shd.owner m (keys.getD k default))) rfl rfl) rfl rfl rfl ?_
        refine o_pure (p_extract (vs := [.int .i64 (Shd.owner m (keys.getD k default)), .int .i64 (Shd.ownErr m (keys.getD k default))]) (v := .int .i64 (Shd.ownErr m (keys.getD k default))) rfl rfl) rfl rfl rfl ?_
        refine o_pure (p_assign (v := .int .i64 (Shd.owner m (keys.getD k default))) rfl) rfl rfl rfl ?_
        refine o_pure (p_assign (v := .int .i64 (Shd.ownErr m (keys.getD k default))) rfl) rfl rfl rfl ?_
        refine o_nil ?_
        refine q_then ?_
        refine c_seq ?_
        refine c_seq ?_
        refine c_region ?_
        refine o_pure (p_move (v := .int .i64 (Shd.ownErr m (keys.getD k default))) rfl) rfl rfl rfl ?_
        refine o_pure (p_ne (p := (Shd.ownErr m (keys.getD k default))) (q := 0) rfl rfl) rfl rfl rfl ?_
        refine o_nil ?_
        refine q_then ?_
        refine c_cond (b := ((Shd.ownErr m (keys.getD k default)) != 0)) rfl (fun hc6 => ?_) (fun hc6 => ?_)
        · simp only [bne_iff_ne, ne_eq] at hc6
          refine c_seq ?_
          refine c_region ?_
          refine o_pure (p_move (v := .int .i64 (Shd.ownErr m (keys.getD k default))) rfl) rfl rfl rfl ?_
          refine o_pure (p_assign (v := .slice none 0 0) rfl) rfl rfl rfl ?_
          refine o_pure (p_assign (v := .int .i64 (Shd.ownErr m (keys.getD k default))) rfl) rfl rfl rfl ?_
          refine o_nil ?_
          refine q_then ?_
          refine c_ret ?_
          refine q_then_ret (q_block_ret (q_then_ret (q_then_ret (q_block_ret (q_then_ret ?_)))))
          obtain ⟨hv1, hv2⟩ : _ ∧ _ := by first | exact Shd.mv1 l m (by omega) | exact hI.badl (by omega) (by omega) (by assumption) | exact hI.badm (by omega) (by omega) ha0 (by assumption) | exact hI.done (by omega) (by omega)
          have hr0 : ([] : List Int) = (Shd.moved l m keys) := by
            first | exact hv1.symm | exact hv2.symm | (rw [hv1]; done)
          have hr1 : ((Shd.ownErr m (keys.getD k default)) : Int) = (Shd.movErr l m keys) := by
            first | exact hv1.symm | exact hv2.symm | (rw [hv1]; done)
          refine q_endM (p := (none, 0)) (fun _ => False) (rt2 rfl (r_tmp rfl) (r_tmp rfl)) (i := 1) rfl ?_ ?_ ?_
          · exact (by have hcc := congr (congrArg (fun (y0 : List Int) (y1 : Int) => (.tuple #[.slice none y0.length 0, .int .i64 y1] : Value)) hr0) hr1; exact hcc)
          · intro w hw b hb; exact hb.elim
          · intro w hw; exact Eq.mp (congrArg (fun y => SlO tInt _ w none 0 y) hr0) (SlO.nil tInt w)
        · simp only [bne_eq_false_iff_eq] at hc6
          have hb0 := hc6
          have hbo := Shd.owner_lt hc6
          refine c_skip ?_
          refine q_then ?_
          refine c_seq ?_
          refine c_draw hmix (by kernel_rfl) ?_
          refine w_pure (p_move (v := .slice al l.length cl) rfl) rfl rfl rfl ?_
          refine w_pure (p_move (v := .int .i64 (Shd.owner l (keys.getD k default))) rfl) rfl rfl rfl ?_
          refine w_pure (p_indexAddr (L := l) (T := tShard) (i := (Shd.owner l (keys.getD k default))) rfl rfl (rd_base (i := 1) rfl hl) Try.underlying43 sz50 (by omega) (by omega)) rfl rfl rfl ?_
          refine w_pure (p_fieldAddrE rfl fo50_0) rfl rfl rfl ?_
          refine w_pure (p_loadF (i := (Shd.owner l (keys.getD k default)).toNat) (j := 0) (T := tShard) (L := l) (v := .string ((l.getD ((Shd.owner l (keys.getD k default)).toNat) default).name)) rfl (rd_base (i := 1) rfl hl) (by first | assumption | omega) sh9 (congrArg (fun z => (tShard.enc z)[0]?) (getd_at (by first | assumption | omega) default))) rfl rfl rfl ?_
          refine w_pure (p_move (v := .slice am m.length cm) rfl) rfl rfl rfl ?_
          refine w_pure (p_move (v := .int .i64 (Shd.owner m (keys.getD k default))) rfl) rfl rfl rfl ?_
          refine w_pure (p_indexAddr (L := m) (T := tShard) (i := (Shd.owner m (keys.getD k default))) rfl rfl (rd_base (i := 1) rfl hm) Try.underlying43 sz50 (by omega) (by omega)) rfl rfl rfl ?_
          refine w_pure (p_fieldAddrE rfl fo50_0) rfl rfl rfl ?_
          refine w_pure (p_loadF (i := (Shd.owner m (keys.getD k default)).toNat) (j := 0) (T := tShard) (L := m) (v := .string ((m.getD ((Shd.owner m (keys.getD k default)).toNat) default).name)) rfl (rd_base (i := 1) rfl hm) (by first | assumption | omega) sh9 (congrArg (fun z => (tShard.enc z)[0]?) (getd_at (by first | assumption | omega) default))) rfl rfl rfl ?_
          refine w_pure (p_neStr (s := (l.getD ((Shd.owner l (keys.getD k default)).toNat) default).name) (t := (m.getD ((Shd.owner m (keys.getD k default)).toNat) default).name) rfl rfl) rfl rfl rfl ?_
          refine w_nil ?_
          refine q_then ?_
          refine c_cond (b := (!decide ((l.getD ((Shd.owner l (keys.getD k default)).toNat) default).name = (m.getD ((Shd.owner m (keys.getD k default)).toNat) default).name))) rfl (fun hc7 => ?_) (fun hc7 => ?_)
          · simp only [Bool.not_eq_true', decide_eq_false_iff_not] at hc7
            have hdf := hc7
            refine c_region ?_
            refine o_pure (p_move (v := .slice aout out.length cout) rfl) rfl rfl rfl ?_
            refine o_pure (p_move (v := .int .i64 (k : Int)) rfl) rfl rfl rfl ?_
            refine o_buildSlice (m := 1) (T := tInt) (L := [(k : Int)]) (vs := [.int .i64 (k : Int)]) rfl rfl rfl rfl Try.underlying45 sz3 (by decide) ze3 rfl (by decide) rfl (fun S8 a9 => ?_)
            refine o_append (i := 1) (L := out) (M := [(k : Int)]) (T := tInt) rfl rfl rfl (rd_own (i := 0) rfl) Try.underlying45 Try.underlying45 (by intro k h; cases h) el3 (by intro z; simp [tInt, one1]) (by decide) (by first | omega | (simp only [List.length_cons, List.length_nil]; omega) | (simp only [List.length_append, List.length_cons, List.length_nil, List.length_take, List.length_drop]; omega)) rfl (fun a11 c12 S13 => ?_)
            refine o_pure (p_assign (v := .slice a11 (out ++ [(k : Int)]).length c12) rfl) rfl rfl rfl ?_
            refine o_nil ?_
            refine q_block_normal (q_then ?_)
            refine c_region ?_
            refine o_pure (p_addb (p := (k : Int)) (q := 1) rfl rfl (by omega)) rfl rfl rfl ?_
            refine o_pure (p_move (v := .int .i64 ((k : Int) + 1)) rfl) rfl rfl rfl ?_
            refine o_nil ?_
            refine q_round hK3 ((out ++ [(k : Int)]), a11, c12, S13, k + 1) ?_ ?_ ?_ ?_
            · clear hK3
              first | exact hI.add (by omega) ha0 hb0 hdf | exact hI.skip (by omega) ha0 hb0 hdf
            · (try dsimp only); omega
            · exact Sub.cons rfl (Sub.cons rfl (Sub.cons rfl (Sub.cons rfl (Sub.cons rfl (Sub.cons rfl (Sub.nil _))))))
            · exact fun _ hw => HeapIs.pick hw [1, 2] (by decide) rfl
          · simp only [Bool.not_eq_false', decide_eq_true_eq] at hc7
            have hdf := hc7
            refine c_skip ?_
            refine q_block_normal (q_then ?_)
            refine c_region ?_
            refine o_pure (p_addb (p := (k : Int)) (q := 1) rfl rfl (by omega)) rfl rfl rfl ?_
            refine o_pure (p_move (v := .int .i64 ((k : Int) + 1)) rfl) rfl rfl rfl ?_
            refine o_nil ?_
            refine q_round hK3 (out, aout, cout, Sout, k + 1) ?_ ?_ ?_ ?_
            · clear hK3
              first | exact hI.add (by omega) ha0 hb0 hdf | exact hI.skip (by omega) ha0 hb0 hdf
            · (try dsimp only); omega
            · exact Sub.cons rfl (Sub.cons rfl (Sub.cons rfl (Sub.cons rfl (Sub.cons rfl (Sub.cons rfl (Sub.nil _))))))
            · exact fun _ hw => HeapIs.pick hw [0, 1] (by decide) rfl
    · simp only [decide_eq_false_iff_not, Int.not_lt] at hc4
      refine c_exit ?_
      refine q_then_exit (q_then_exit (q_block_exit (q_then ?_)))
      refine c_seq ?_
      refine c_region ?_
      refine o_pure (p_move (v := .slice aout out.length cout) rfl) rfl rfl rfl ?_
      refine o_pure (p_assign (v := .slice aout out.length cout) rfl) rfl rfl rfl ?_
      refine o_pure (p_assign (v := .int .i64 0) rfl) rfl rfl rfl ?_
      refine o_nil ?_
      refine q_then ?_
      refine c_ret ?_
      obtain ⟨hv1, hv2⟩ : _ ∧ _ := by first | exact Shd.mv1 l m (by omega) | exact hI.badl (by omega) (by omega) (by assumption) | exact hI.badm (by omega) (by omega) ha0 (by assumption) | exact hI.done (by omega) (by omega)
      have hr0 : (out : List Int) = (Shd.moved l m keys) := by
        first | exact hv1.symm | exact hv2.symm | (rw [hv1]; done)
      have hr1 : (0 : Int) = (Shd.movErr l m keys) := by
        first | exact hv1.symm | exact hv2.symm | (rw [hv1]; done)
      refine q_endM (p := (aout, cout)) Sout (rt2 rfl (r_tmp rfl) (r_tmp rfl)) (i := 1) rfl ?_ ?_ ?_
      · exact (by have hcc := congr (congrArg (fun (y0 : List Int) (y1 : Int) => (.tuple #[.slice aout y0.length cout, .int .i64 y1] : Value)) hr0) hr1; exact hcc)
      · exact fun w hw => hw.above (i := 1) (j := 0) (by decide) rfl rfl
      · intro w hw; exact Eq.mp (congrArg (fun y => SlO tInt _ w aout cout y) hr0) ((hw.at (i := 0) rfl).here)
end Go.Proofs.Ythecfjipaepcgaa
