/- The walks, printed by a program from the translation and a specification. -/
import Derived.Test.YtkndekkacimekaaDpF
import Derived.Test.YtkndekkacimekaaDpLaw3
import Derived.Test.YtkndekkacimekaaDpW5
import Derived.Test.YtkndekkacimekaaDpW3
namespace Go.Proofs.Ytkndekkacimekaa
open Go.Sx Go.RowKit
set_option maxHeartbeats 8000000 in
set_option maxRecDepth 100000 in
theorem distances_ok (l : List Int) (al : Option Addr) (cl : Nat) : FnM Try.prog 28 [.slice al l.length cl] (fun w => Rd tInt w al cl l) (Option Addr × Nat) (fun p => .tuple #[.slice p.1 (Deep.dist l).length p.2, .int .i64 (Lru.trace l)]) (fun p S w => SlO tInt S w p.1 p.2 (Deep.dist l)) := by
  refine fnM (nt := 12) (F0 := [(0, .slice al l.length cl)]) Try.func28 rfl Try.ntmps28 rfl rfl (fun w0 hpre => ?_)
  have hl := hpre
  have hlhl := hl.2.1
  refine c_seq ?_
  refine c_region ?_
  refine o_pure (p_assign (v := .slice none 0 0) rfl) rfl rfl rfl ?_
  refine o_pure (p_assign (v := .int .i64 0) rfl) rfl rfl rfl ?_
  refine o_nil ?_
  refine q_then ?_
  refine c_seq ?_
  refine c_seq ?_
  refine c_region ?_
  refine o_pure (p_move (v := .slice al l.length cl) rfl) rfl rfl rfl ?_
  refine o_call0 (v := .int .i64 (Lru.trace l)) rfl (checkTrace_ok l al cl) hf57 (fun w hw => (rd_base (i := 0) rfl hl) w hw) rfl ?_
  refine o_pure (p_assign (v := .int .i64 (Lru.trace l)) rfl) rfl rfl rfl ?_
  refine o_nil ?_
  refine q_then ?_
  refine c_seq ?_
  refine c_region ?_
  refine o_pure (p_move (v := .int .i64 (Lru.trace l)) rfl) rfl rfl rfl ?_
  refine o_pure (p_ne (p := (Lru.trace l)) (q := 0) rfl rfl) rfl rfl rfl ?_
  refine o_nil ?_
  refine q_then ?_
  refine c_cond (b := ((Lru.trace l) != 0)) rfl (fun hc1 => ?_) (fun hc1 => ?_)
  · simp only [bne_iff_ne, ne_eq] at hc1
    refine c_seq ?_
    refine c_region ?_
    refine o_pure (p_move (v := .int .i64 (Lru.trace l)) rfl) rfl rfl rfl ?_
    refine o_pure (p_assign (v := .slice none 0 0) rfl) rfl rfl rfl ?_
    refine o_pure (p_assign (v := .int .i64 (Lru.trace l)) rfl) rfl rfl rfl ?_
    refine o_nil ?_
    refine q_then ?_
    refine c_ret ?_
    refine q_then_ret ?_
    have hr0 : ([] : List Int) = (Deep.dist l) := by
      first | rfl | exact Deep.dist1 (by assumption) | exact Deep.dist2 (by assumption) | (symm; assumption)
    refine q_endM (p := (none, 0)) (fun _ => False) (rt2 rfl (r_tmp rfl) (r_tmp rfl)) (i := 0) rfl ?_ ?_ ?_
    · exact (by have hcc := congrArg (fun (y0 : List Int) => (.tuple #[.slice none y0.length 0, .int .i64 (Lru.trace l)] : Value)) hr0; exact hcc)
    · intro w hw b hb; exact hb.elim
    · intro w hw; exact Eq.mp (congrArg (fun y => SlO tInt _ w none 0 y) hr0) (SlO.nil tInt w)
  · simp only [bne_eq_false_iff_eq] at hc1
    have h200 := Deep.len200 hc1
    refine c_skip ?_
    refine q_then ?_
    refine c_seq ?_
    refine c_region ?_
    refine o_pure (p_move (v := .slice al l.length cl) rfl) rfl rfl rfl ?_
    refine o_callM rfl (depths_ok l al cl (by omega)) hf58 (fun w hw => (rd_base (i := 0) rfl hl) w hw) rfl (fun _ _ _ _ ha hA => SlO.agree ha hA) ?_
    rintro ⟨a4, c5⟩ S2
    refine o_know (fun w hw => own_len (i := 0) (T := tInt) hw rfl) (fun hlr6 => ?_)
    refine o_pure (p_assign (v := .slice a4 (Deep.depths l).length c5) rfl) rfl rfl rfl ?_
    refine o_pure (p_assign (v := .int .i64 0) rfl) rfl rfl rfl ?_
    refine o_nil ?_
    refine q_then ?_
    refine c_ret ?_
    have hr0 : ((Deep.depths l) : List Int) = (Deep.dist l) := by
      first | rfl | exact Deep.dist1 (by assumption) | exact Deep.dist2 (by assumption) | (symm; assumption)
    have hr1 : (0 : Int) = (Lru.trace l) := by
      first | rfl | exact Deep.dist1 (by assumption) | exact Deep.dist2 (by assumption) | (symm; assumption)
    refine q_endM (p := (a4, c5)) S2 (rt2 rfl (r_tmp rfl) (r_tmp rfl)) (i := 1) rfl ?_ ?_ ?_
    · exact (by have hcc := congr (congrArg (fun (y0 : List Int) (y1 : Int) => (.tuple #[.slice a4 y0.length c5, .int .i64 y1] : Value)) hr0) hr1; exact hcc)
    · exact fun w hw => hw.above (i := 1) (j := 0) (by decide) rfl rfl
    · intro w hw; exact Eq.mp (congrArg (fun y => SlO tInt _ w a4 c5 y) hr0) ((hw.at (i := 0) rfl).here)

set_option maxHeartbeats 8000000 in
set_option maxRecDepth 100000 in
theorem dHits_ok (l : List Int) (al : Option Addr) (cl : Nat) : FnM Try.prog 31 [.slice al l.length cl] (fun w => Rd tInt w al cl l) (Option Addr × Nat) (fun p => .tuple #[.slice p.1 (Deep.hitsR l).length p.2, .int .i64 (Lru.trace l)]) (fun p S w => SlO tInt S w p.1 p.2 (Deep.hitsR l)) := by
  refine fnM (nt := 12) (F0 := [(0, .slice al l.length cl)]) Try.func31 rfl Try.ntmps31 rfl rfl (fun w0 hpre => ?_)
  have hl := hpre
  have hlhl := hl.2.1
  refine c_seq ?_
  refine c_region ?_
  refine o_pure (p_assign (v := .slice none 0 0) rfl) rfl rfl rfl ?_
  refine o_pure (p_assign (v := .int .i64 0) rfl) rfl rfl rfl ?_
  refine o_nil ?_
  refine q_then ?_
  refine c_seq ?_
  refine c_seq ?_
  refine c_region ?_
  refine o_pure (p_move (v := .slice al l.length cl) rfl) rfl rfl rfl ?_
  refine o_call0 (v := .int .i64 (Lru.trace l)) rfl (checkTrace_ok l al cl) hf57 (fun w hw => (rd_base (i := 0) rfl hl) w hw) rfl ?_
  refine o_pure (p_assign (v := .int .i64 (Lru.trace l)) rfl) rfl rfl rfl ?_
  refine o_nil ?_
  refine q_then ?_
  refine c_seq ?_
  refine c_region ?_
  refine o_pure (p_move (v := .int .i64 (Lru.trace l)) rfl) rfl rfl rfl ?_
  refine o_pure (p_ne (p := (Lru.trace l)) (q := 0) rfl rfl) rfl rfl rfl ?_
  refine o_nil ?_
  refine q_then ?_
  refine c_cond (b := ((Lru.trace l) != 0)) rfl (fun hc1 => ?_) (fun hc1 => ?_)
  · simp only [bne_iff_ne, ne_eq] at hc1
    refine c_seq ?_
    refine c_region ?_
    refine o_pure (p_move (v := .int .i64 (Lru.trace l)) rfl) rfl rfl rfl ?_
    refine o_pure (p_assign (v := .slice none 0 0) rfl) rfl rfl rfl ?_
    refine o_pure (p_assign (v := .int .i64 (Lru.trace l)) rfl) rfl rfl rfl ?_
    refine o_nil ?_
    refine q_then ?_
    refine c_ret ?_
    refine q_then_ret ?_
    have hr0 : ([] : List Int) = (Deep.hitsR l) := by
      first | rfl | exact Deep.hits1 (by assumption) | exact Deep.hits2 (by assumption) | (symm; assumption)
    refine q_endM (p := (none, 0)) (fun _ => False) (rt2 rfl (r_tmp rfl) (r_tmp rfl)) (i := 0) rfl ?_ ?_ ?_
    · exact (by have hcc := congrArg (fun (y0 : List Int) => (.tuple #[.slice none y0.length 0, .int .i64 (Lru.trace l)] : Value)) hr0; exact hcc)
    · intro w hw b hb; exact hb.elim
    · intro w hw; exact Eq.mp (congrArg (fun y => SlO tInt _ w none 0 y) hr0) (SlO.nil tInt w)
  · simp only [bne_eq_false_iff_eq] at hc1
    have h200 := Deep.len200 hc1
    refine c_skip ?_
    refine q_then ?_
    refine c_seq ?_
    refine c_region ?_
    refine o_pure (p_move (v := .slice al l.length cl) rfl) rfl rfl rfl ?_
    refine o_callM rfl (dhits_ok l al cl (by omega)) hf60 (fun w hw => (rd_base (i := 0) rfl hl) w hw) rfl (fun _ _ _ _ ha hA => SlO.agree ha hA) ?_
    rintro ⟨a4, c5⟩ S2
    refine o_know (fun w hw => own_len (i := 0) (T := tInt) hw rfl) (fun hlr6 => ?_)
    refine o_pure (p_assign (v := .slice a4 (Deep.hits l).length c5) rfl) rfl rfl rfl ?_
    refine o_pure (p_assign (v := .int .i64 0) rfl) rfl rfl rfl ?_
    refine o_nil ?_
    refine q_then ?_
    refine c_ret ?_
    have hr0 : ((Deep.hits l) : List Int) = (Deep.hitsR l) := by
      first | rfl | exact Deep.hits1 (by assumption) | exact Deep.hits2 (by assumption) | (symm; assumption)
    have hr1 : (0 : Int) = (Lru.trace l) := by
      first | rfl | exact Deep.hits1 (by assumption) | exact Deep.hits2 (by assumption) | (symm; assumption)
    refine q_endM (p := (a4, c5)) S2 (rt2 rfl (r_tmp rfl) (r_tmp rfl)) (i := 1) rfl ?_ ?_ ?_
    · exact (by have hcc := congr (congrArg (fun (y0 : List Int) (y1 : Int) => (.tuple #[.slice a4 y0.length c5, .int .i64 y1] : Value)) hr0) hr1; exact hcc)
    · exact fun w hw => hw.above (i := 1) (j := 0) (by decide) rfl rfl
    · intro w hw; exact Eq.mp (congrArg (fun y => SlO tInt _ w a4 c5 y) hr0) ((hw.at (i := 0) rfl).here)

set_option maxHeartbeats 8000000 in
set_option maxRecDepth 100000 in
theorem dRoom1_ok (n : Int) (Bp : Nat) (percent : Int) (Bq : Nat) (l : List Int) (al : Option Addr) (cl : Nat) : Fn0 Try.prog 92 [.int .i64 n, .pointer (some ⟨Bp, 0, none⟩), .pointer (some ⟨Bq, 0, none⟩)] (fun w => (box Bp [.int .i64 percent] 3).A w ∧ Rd tInt w al cl l ∧ (box Bq [.slice al l.length cl] 30).A w) (.bool (Deep.enough (l.length : Int) percent n)) := by
  refine fn0 (nt := 12) (F0 := [(0, .int .i64 n), (1, .pointer (some ⟨Bp, 0, none⟩)), (2, .pointer (some ⟨Bq, 0, none⟩))]) Try.func92 rfl Try.ntmps92 rfl rfl (fun w0 hpre => ?_)
  obtain ⟨hBp, hl, hBq⟩ := hpre
  have hlhl := hl.2.1
  refine c_seq ?_
  refine c_region ?_
  refine o_pure (p_assign (v := .bool false) rfl) rfl rfl rfl ?_
  refine o_nil ?_
  refine q_then ?_
  refine c_seq ?_
  refine c_region ?_
  refine o_pure (p_move (v := .int .i64 n) rfl) rfl rfl rfl ?_
  refine o_pure (p_mul (p := 100) (q := n) rfl rfl) rfl rfl rfl ?_
  refine o_pure (p_loadR (v := .int .i64 percent) rfl (rbox_base (i := 0) rfl hBp) sh3 rfl) rfl rfl rfl ?_
  refine o_pure (p_loadR (v := .slice al l.length cl) rfl (rbox_base (i := 0) rfl hBq) sh30 rfl) rfl rfl rfl ?_
  refine o_pure (p_len_slice (len := l.length) rfl rfl Try.underlying30) rfl rfl rfl ?_
  refine o_pure (p_mul (p := percent) (q := (l.length : Int)) rfl rfl) rfl rfl rfl ?_
  refine o_pure (p_ge (p := (IntKind.i64.wrap (100 * n))) (q := (IntKind.i64.wrap (percent * (l.length : Int)))) rfl rfl) rfl rfl rfl ?_
  refine o_pure (p_assign (v := .bool (decide ((IntKind.i64.wrap (percent * (l.length : Int))) ≤ (IntKind.i64.wrap (100 * n))))) rfl) rfl rfl rfl ?_
  refine o_nil ?_
  refine q_then ?_
  refine c_ret ?_
  have hr0 : (decide ((IntKind.i64.wrap (percent * (l.length : Int))) ≤ (IntKind.i64.wrap (100 * n))) : Bool) = (Deep.enough (l.length : Int) percent n) := by
    rfl
  refine q_end0 (v := .bool (decide ((IntKind.i64.wrap (percent * (l.length : Int))) ≤ (IntKind.i64.wrap (100 * n))))) (rt1 rfl (r_tmp rfl)) (i := 0) rfl ?_
  exact (by have hcc := congrArg (fun (y0 : Bool) => (.bool y0 : Value)) hr0; exact hcc)

set_option maxHeartbeats 8000000 in
set_option maxRecDepth 100000 in
theorem dRoom_ok (l : List Int) (al : Option Addr) (cl : Nat) (percent : Int) : Fn0 Try.prog 59 [.slice al l.length cl, .int .i64 percent] (fun w => Rd tInt w al cl l) (.tuple #[.int .i64 (Deep.room l percent), .int .i64 (Deep.roomErr l percent)]) := by
  refine fn0 (nt := 31) (F0 := [(0, .slice al l.length cl), (1, .int .i64 percent)]) Try.func59 rfl Try.ntmps59 rfl rfl (fun w0 hpre => ?_)
  have hl := hpre
  have hlhl := hl.2.1
  refine c_seq ?_
  refine c_region ?_
  refine o_box (v := .slice al l.length cl) rfl rfl (fun B1 => ?_)
  refine o_box (v := .int .i64 percent) rfl rfl (fun B2 => ?_)
  refine o_pure (p_assign (v := .int .i64 0) rfl) rfl rfl rfl ?_
  refine o_pure (p_assign (v := .int .i64 0) rfl) rfl rfl rfl ?_
  refine o_nil ?_
  refine q_then ?_
  refine c_seq ?_
  refine c_region ?_
  refine o_pure (p_load (i := 1) (v := .slice al l.length cl) rfl rfl sh30 rfl) rfl rfl rfl ?_
  refine o_call0 (v := .int .i64 (Lru.trace l)) rfl (checkTrace_ok l al cl) hf57 (fun w hw => (rd_base (i := 2) rfl hl) w hw) rfl ?_
  refine o_pure (p_assign (v := .int .i64 (Lru.trace l)) rfl) rfl rfl rfl ?_
  refine o_nil ?_
  refine q_then ?_
  refine c_seq ?_
  refine c_seq ?_
  refine c_region ?_
  refine o_pure (p_move (v := .int .i64 (Lru.trace l)) rfl) rfl rfl rfl ?_
  refine o_pure (p_eq (p := (Lru.trace l)) (q := 0) rfl rfl) rfl rfl rfl ?_
  refine o_pure (p_move (v := .bool ((Lru.trace l) == 0)) rfl) rfl rfl rfl ?_
  refine o_and (p := 19) 7 (decide (percent < 0) || decide (100 < percent)) ?_ ?_ ?_
  · intro hb3 hk
    simp only [beq_iff_eq] at hb3
    refine o_unguard 12 rfl rfl ?_
    refine o_pure (p_load (i := 0) (v := .int .i64 percent) rfl rfl sh3 rfl) rfl rfl rfl ?_
    refine o_unguard 12 rfl rfl ?_
    refine o_pure (p_lt (p := percent) (q := 0) rfl rfl) rfl rfl rfl ?_
    refine o_unguard 12 rfl rfl ?_
    refine o_pure (p_move (v := .bool (decide (percent < 0))) rfl) rfl rfl rfl ?_
    refine o_or (p := 18) 3 (decide (100 < percent)) ?_ ?_ ?_
    · intro hb4 hk
      simp only [decide_eq_false_iff_not, Int.not_lt] at hb4
      refine o_unguard 15 rfl rfl ?_
      refine o_pure (p_load (i := 0) (v := .int .i64 percent) rfl rfl sh3 rfl) rfl rfl rfl ?_
      refine o_unguard 15 rfl rfl ?_
      refine o_pure (p_gt (p := percent) (q := 100) rfl rfl) rfl rfl rfl ?_
      refine o_unguard 12 rfl rfl ?_
      refine o_pure (p_pick_false (v := .bool (decide (100 < percent))) rfl rfl) rfl rfl rfl ?_
      exact o_sub (Sub.cons rfl (Sub.skip rfl (Sub.skip rfl (Sub.skip rfl (Sub.skip rfl (Sub.refl _)))))) hk
    · intro hb4 hk
      refine o_guard_no rfl 15 rfl rfl rfl rfl rfl ?_
      refine o_guard_no rfl 15 rfl rfl rfl rfl rfl ?_
      refine o_unguard 12 rfl rfl ?_
      refine o_pure (p_pick_true (u := .bool true) rfl rfl) rfl rfl rfl ?_
      exact o_sub (Sub.cons rfl (Sub.skip rfl (Sub.skip rfl (Sub.skip rfl (Sub.skip rfl (Sub.refl _)))))) hk
    refine o_pure (p_pick_true (u := .bool (decide (percent < 0) || decide (100 < percent))) rfl rfl) rfl rfl rfl ?_
    exact o_sub (Sub.cons rfl (Sub.skip rfl (Sub.skip rfl (Sub.skip rfl (Sub.skip rfl (Sub.skip rfl (Sub.refl _))))))) hk
  · intro hb3 hk
    refine o_guard_no rfl 12 rfl rfl rfl rfl rfl ?_
    refine o_guard_no rfl 12 rfl rfl rfl rfl rfl ?_
    refine o_guard_no rfl 12 rfl rfl rfl rfl rfl ?_
    refine o_guard_no rfl 15 rfl rfl rfl rfl rfl ?_
    refine o_guard_no rfl 15 rfl rfl rfl rfl rfl ?_
    refine o_guard_no rfl 12 rfl rfl rfl rfl rfl ?_
    refine o_pure (p_pick_false (v := .bool false) rfl rfl) rfl rfl rfl ?_
    exact o_sub (Sub.cons rfl (Sub.skip rfl (Sub.skip rfl (Sub.skip rfl (Sub.skip rfl (Sub.skip rfl (Sub.skip rfl (Sub.skip rfl (Sub.skip rfl (Sub.refl _)))))))))) hk
  refine o_nil ?_
  refine q_then ?_
  refine c_cond (b := (((Lru.trace l) == 0) && (decide (percent < 0) || decide (100 < percent)))) rfl (fun hc5 => ?_) (fun hc5 => ?_)
  · simp only [Bool.and_eq_true, beq_iff_eq, Bool.or_eq_true, decide_eq_true_eq] at hc5
    have hbad := hc5
    refine c_region ?_
    refine o_pure (p_assign (v := .int .i64 3) rfl) rfl rfl rfl ?_
    refine o_nil ?_
    refine q_then ?_
    refine c_seq ?_
    refine c_seq ?_
    refine c_region ?_
    refine o_pure (p_move (v := .int .i64 3) rfl) rfl rfl rfl ?_
    refine o_pure (p_ne (p := 3) (q := 0) rfl rfl) rfl rfl rfl ?_
    refine o_nil ?_
    refine q_then ?_
    refine c_true rfl ?_
    refine c_seq ?_
    refine c_region ?_
    refine o_pure (p_move (v := .int .i64 3) rfl) rfl rfl rfl ?_
    refine o_pure (p_assign (v := .int .i64 0) rfl) rfl rfl rfl ?_
    refine o_pure (p_assign (v := .int .i64 3) rfl) rfl rfl rfl ?_
    refine o_nil ?_
    refine q_then ?_
    refine c_ret ?_
    refine q_then_ret ?_
    obtain ⟨hv1, hv2⟩ : _ ∧ _ := by first | exact Deep.room1 (p := percent) (by assumption) | exact Deep.room2 (p := percent) hbad.1 hbad.2 | exact Deep.room3 (p := percent) (by assumption) hpc (by assumption) | exact Deep.room4 (p := percent) (by assumption) hpc (by assumption)
    have hr0 : (0 : Int) = (Deep.room l percent) := by
      exact hv1
    have hr1 : (3 : Int) = (Deep.roomErr l percent) := by
      exact hv2
    refine q_end0 (v := .tuple #[.int .i64 0, .int .i64 3]) (rt2 rfl (r_tmp rfl) (r_tmp rfl)) (i := 2) rfl ?_
    exact (by have hcc := congr (congrArg (fun (y0 : Int) (y1 : Int) => (.tuple #[.int .i64 y0, .int .i64 y1] : Value)) hr0) hr1; exact hcc)
  · simp only [Bool.and_eq_false_iff, beq_eq_false_iff_ne, ne_eq, Bool.or_eq_false_iff, decide_eq_false_iff_not, Int.not_lt] at hc5
    have hro := hc5
    refine c_skip ?_
    refine q_then ?_
    refine c_seq ?_
    refine c_seq ?_
    refine c_region ?_
    refine o_pure (p_move (v := .int .i64 (Lru.trace l)) rfl) rfl rfl rfl ?_
    refine o_pure (p_ne (p := (Lru.trace l)) (q := 0) rfl rfl) rfl rfl rfl ?_
    refine o_nil ?_
    refine q_then ?_
    refine c_cond (b := ((Lru.trace l) != 0)) rfl (fun hc6 => ?_) (fun hc6 => ?_)
    · simp only [bne_iff_ne, ne_eq] at hc6
      refine c_seq ?_
      refine c_region ?_
      refine o_pure (p_move (v := .int .i64 (Lru.trace l)) rfl) rfl rfl rfl ?_
      refine o_pure (p_assign (v := .int .i64 0) rfl) rfl rfl rfl ?_
      refine o_pure (p_assign (v := .int .i64 (Lru.trace l)) rfl) rfl rfl rfl ?_
      refine o_nil ?_
      refine q_then ?_
      refine c_ret ?_
      refine q_then_ret ?_
      obtain ⟨hv1, hv2⟩ : _ ∧ _ := by first | exact Deep.room1 (p := percent) (by assumption) | exact Deep.room2 (p := percent) hbad.1 hbad.2 | exact Deep.room3 (p := percent) (by assumption) hpc (by assumption) | exact Deep.room4 (p := percent) (by assumption) hpc (by assumption)
      have hr0 : (0 : Int) = (Deep.room l percent) := by
        exact hv1
      have hr1 : ((Lru.trace l) : Int) = (Deep.roomErr l percent) := by
        exact hv2
      refine q_end0 (v := .tuple #[.int .i64 0, .int .i64 (Lru.trace l)]) (rt2 rfl (r_tmp rfl) (r_tmp rfl)) (i := 2) rfl ?_
      exact (by have hcc := congr (congrArg (fun (y0 : Int) (y1 : Int) => (.tuple #[.int .i64 y0, .int .i64 y1] : Value)) hr0) hr1; exact hcc)
    · simp only [bne_eq_false_iff_eq] at hc6
      have h200 := Deep.len200 hc6
      have h40 : idxF (fun x => Deep.enough (l.length : Int) percent x) (Deep.hits l) < 40 ∧ -1 ≤ idxF (fun x => Deep.enough (l.length : Int) percent x) (Deep.hits l) := Deep.at40_lt l percent
      have hpc : 0 ≤ percent ∧ percent ≤ 100 := by omega
      refine c_skip ?_
      refine q_then ?_
      refine c_seq ?_
      refine c_region ?_
      refine o_pure (p_load (i := 1) (v := .slice al l.length cl) rfl rfl sh30 rfl) rfl rfl rfl ?_
      refine o_callM rfl (dhits_ok l al cl (by omega)) hf60 (fun w hw => (rd_base (i := 2) rfl hl) w hw) rfl (fun _ _ _ _ ha hA => SlO.agree ha hA) ?_
      rintro ⟨a9, c10⟩ S7
      refine o_know (fun w hw => own_len (i := 0) (T := tInt) hw rfl) (fun hlr11 => ?_)
      refine o_pure (p_makeFunc (vs := [.pointer (some ⟨B2, 0, none⟩), .pointer (some ⟨B1, 0, none⟩)]) rfl) rfl rfl rfl ?_
      refine o_call0 (v := .int .i64 (idxF (fun x : Int => (Deep.enough (l.length : Int) percent x)) (Deep.hits l))) rfl (indexFunc_Int_ok (Deep.hits l) a9 c10 92 [.pointer (some ⟨B2, 0, none⟩), .pointer (some ⟨B1, 0, none⟩)] (fun x => (Deep.enough (l.length : Int) percent x)) (fun w => (box B2 [.int .i64 percent] 3).A w ∧ Rd tInt w al cl l ∧ (box B1 [.slice al l.length cl] 30).A w) (fun _ _ hb h => ⟨box_below hb h.1, Rd.below h.2.1 hb.block hb.size, box_below hb h.2.2⟩) (fun x => dRoom1_ok x B2 percent B1 l al cl) hf92) hf91 (fun w hw => ⟨(rd_own (i := 0) rfl) w hw, ⟨(hw.at (i := 1) rfl).here, (rd_base (i := 3) rfl hl) w hw, (hw.at (i := 2) rfl).here⟩⟩) rfl ?_
      refine o_pure (p_assign (v := .int .i64 (idxF (fun x : Int => (Deep.enough (l.length : Int) percent x)) (Deep.hits l))) rfl) rfl rfl rfl ?_
      refine o_nil ?_
      refine q_then ?_
      refine c_seq ?_
      refine c_seq ?_
      refine c_region ?_
      refine o_pure (p_move (v := .int .i64 (idxF (fun x : Int => (Deep.enough (l.length : Int) percent x)) (Deep.hits l))) rfl) rfl rfl rfl ?_
      refine o_pure (p_lt (p := (idxF (fun x : Int => (Deep.enough (l.length : Int) percent x)) (Deep.hits l))) (q := 0) rfl rfl) rfl rfl rfl ?_
      refine o_nil ?_
      refine q_then ?_
      refine c_cond (b := decide ((idxF (fun x : Int => (Deep.enough (l.length : Int) percent x)) (Deep.hits l)) < 0)) rfl (fun hc12 => ?_) (fun hc12 => ?_)
      · simp only [decide_eq_true_eq] at hc12
        refine c_seq ?_
        refine c_region ?_
        refine o_pure (p_assign (v := .int .i64 0) rfl) rfl rfl rfl ?_
        refine o_pure (p_assign (v := .int .i64 5) rfl) rfl rfl rfl ?_
        refine o_nil ?_
        refine q_then ?_
        refine c_ret ?_
        refine q_then_ret ?_
        obtain ⟨hv1, hv2⟩ : _ ∧ _ := by first | exact Deep.room1 (p := percent) (by assumption) | exact Deep.room2 (p := percent) hbad.1 hbad.2 | exact Deep.room3 (p := percent) (by assumption) hpc (by assumption) | exact Deep.room4 (p := percent) (by assumption) hpc (by assumption)
        have hr0 : (0 : Int) = (Deep.room l percent) := by
          exact hv1
        have hr1 : (5 : Int) = (Deep.roomErr l percent) := by
          exact hv2
        refine q_end0 (v := .tuple #[.int .i64 0, .int .i64 5]) (rt2 rfl (r_tmp rfl) (r_tmp rfl)) (i := 3) rfl ?_
        exact (by have hcc := congr (congrArg (fun (y0 : Int) (y1 : Int) => (.tuple #[.int .i64 y0, .int .i64 y1] : Value)) hr0) hr1; exact hcc)
      · simp only [decide_eq_false_iff_not, Int.not_lt] at hc12
        refine c_skip ?_
        refine q_then ?_
        refine c_seq ?_
        refine c_region ?_
        refine o_pure (p_move (v := .int .i64 (idxF (fun x : Int => (Deep.enough (l.length : Int) percent x)) (Deep.hits l))) rfl) rfl rfl rfl ?_
        refine o_pure (p_addb (p := (idxF (fun x : Int => (Deep.enough (l.length : Int) percent x)) (Deep.hits l))) (q := 1) rfl rfl (by omega)) rfl rfl rfl ?_
        refine o_pure (p_assign (v := .int .i64 ((idxF (fun x : Int => (Deep.enough (l.length : Int) percent x)) (Deep.hits l)) + 1)) rfl) rfl rfl rfl ?_
        refine o_pure (p_assign (v := .int .i64 0) rfl) rfl rfl rfl ?_
        refine o_nil ?_
        refine q_then ?_
        refine c_ret ?_
        obtain ⟨hv1, hv2⟩ : _ ∧ _ := by first | exact Deep.room1 (p := percent) (by assumption) | exact Deep.room2 (p := percent) hbad.1 hbad.2 | exact Deep.room3 (p := percent) (by assumption) hpc (by assumption) | exact Deep.room4 (p := percent) (by assumption) hpc (by assumption)
        have hr0 : (((idxF (fun x : Int => (Deep.enough (l.length : Int) percent x)) (Deep.hits l)) + 1) : Int) = (Deep.room l percent) := by
          exact hv1
        have hr1 : (0 : Int) = (Deep.roomErr l percent) := by
          exact hv2
        refine q_end0 (v := .tuple #[.int .i64 ((idxF (fun x : Int => (Deep.enough (l.length : Int) percent x)) (Deep.hits l)) + 1), .int .i64 0]) (rt2 rfl (r_tmp rfl) (r_tmp rfl)) (i := 3) rfl ?_
        exact (by have hcc := congr (congrArg (fun (y0 : Int) (y1 : Int) => (.tuple #[.int .i64 y0, .int .i64 y1] : Value)) hr0) hr1; exact hcc)
end Go.Proofs.Ytkndekkacimekaa
