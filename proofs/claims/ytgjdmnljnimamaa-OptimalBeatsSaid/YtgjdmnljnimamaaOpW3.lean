/- The walks, printed by a program from the translation and a specification. -/
import Derived.Test.YtgjdmnljnimamaaOpF
import Derived.Test.YtgjdmnljnimamaaOpLaw2
import Derived.Test.YtgjdmnljnimamaaOpW1
import Derived.Test.YtgjdmnljnimamaaOpW2
namespace Go.Proofs.Ytgjdmnljnimamaa
open Go.Sx Go.RowKit
set_option maxHeartbeats 8000000 in
set_option maxRecDepth 100000 in
theorem checkTrace1_ok (key : Int) : Fn0 Try.prog 89 [.int .i64 key] (fun _ => True) (.bool (!Lru.okKey key)) := by
  refine fn0 (nt := 6) (F0 := [(0, .int .i64 key)]) Try.func89 rfl Try.ntmps89 rfl rfl (fun w0 hpre => ?_)
  refine c_seq ?_
  refine c_region ?_
  refine o_pure (p_assign (v := .bool false) rfl) rfl rfl rfl ?_
  refine o_nil ?_
  refine q_then ?_
  refine c_seq ?_
  refine c_region ?_
  refine o_pure (p_move (v := .int .i64 key) rfl) rfl rfl rfl ?_
  refine o_call0 (v := .bool (Lru.okKey key)) rfl (key_ok key) hf58 (fun _ _ => trivial) rfl ?_
  refine o_pure (p_not (b := (Lru.okKey key)) rfl) rfl rfl rfl ?_
  refine o_pure (p_assign (v := .bool (!(Lru.okKey key))) rfl) rfl rfl rfl ?_
  refine o_nil ?_
  refine q_then ?_
  refine c_ret ?_
  have hr0 : ((!(Lru.okKey key)) : Bool) = (!Lru.okKey key) := by
    rfl
  refine q_end0 (v := .bool (!(Lru.okKey key))) (rt1 rfl (r_tmp rfl)) (i := 0) rfl ?_
  exact (by have hcc := congrArg (fun (y0 : Bool) => (.bool y0 : Value)) hr0; exact hcc)

set_option maxHeartbeats 8000000 in
set_option maxRecDepth 100000 in
theorem checkTrace_ok (l : List Int) (al : Option Addr) (cl : Nat) : Fn0 Try.prog 61 [.slice al l.length cl] (fun w => Rd tInt w al cl l) (.int .i64 (Lru.trace l)) := by
  refine fn0 (nt := 10) (F0 := [(0, .slice al l.length cl)]) Try.func61 rfl Try.ntmps61 rfl rfl (fun w0 hpre => ?_)
  have hl := hpre
  have hlhl := hl.2.1
  refine c_seq ?_
  refine c_region ?_
  refine o_pure (p_assign (v := .int .i64 0) rfl) rfl rfl rfl ?_
  refine o_nil ?_
  refine q_then ?_
  refine c_seq ?_
  refine c_block ?_
  refine c_seq ?_
  refine c_region ?_
  refine o_pure (p_move (v := .slice al l.length cl) rfl) rfl rfl rfl ?_
  refine o_pure (p_len_slice (len := l.length) rfl rfl Try.underlying23) rfl rfl rfl ?_
  refine o_pure (p_gt (p := (l.length : Int)) (q := 200) rfl rfl) rfl rfl rfl ?_
  refine o_pure (p_assign (v := .bool (decide (200 < (l.length : Int)))) rfl) rfl rfl rfl ?_
  refine o_nil ?_
  refine q_then ?_
  refine c_cond (b := decide (200 < (l.length : Int))) rfl (fun hc1 => ?_) (fun hc1 => ?_)
  · simp only [decide_eq_true_eq] at hc1
    refine c_seq ?_
    refine c_region ?_
    refine o_pure (p_assign (v := .int .i64 2) rfl) rfl rfl rfl ?_
    refine o_nil ?_
    refine q_then ?_
    refine c_ret ?_
    refine q_block_ret (q_then_ret ?_)
    have hr0 : (2 : Int) = (Lru.trace l) := by
      first | exact (Lru.trace_many (by assumption)).symm | exact (Lru.trace_bad (by omega) (by assumption)).symm | exact (Lru.trace_fine (by omega) (by assumption)).symm
    refine q_end0 (v := .int .i64 2) (rt1 rfl (r_tmp rfl)) (i := 0) rfl ?_
    exact (by have hcc := congrArg (fun (y0 : Int) => (.int .i64 y0 : Value)) hr0; exact hcc)
  · simp only [decide_eq_false_iff_not, Int.not_lt] at hc1
    refine c_seq ?_
    refine c_region ?_
    refine o_pure (p_move (v := .slice al l.length cl) rfl) rfl rfl rfl ?_
    refine o_call0 (v := .bool (l.any (fun x : Int => (!Lru.okKey x)))) rfl (containsFunc_Int_ok l al cl 89 [] (fun x => (!Lru.okKey x)) (fun _ => True) (fun _ _ _ h => h) (fun x => checkTrace1_ok x) hf89) hf51 (fun w hw => ⟨(rd_base (i := 0) rfl hl) w hw, trivial⟩) rfl ?_
    refine o_pure (p_assign (v := .bool (l.any (fun x : Int => (!Lru.okKey x)))) rfl) rfl rfl rfl ?_
    refine o_nil ?_
    refine q_then ?_
    refine c_cond (b := (l.any (fun x : Int => (!Lru.okKey x)))) rfl (fun hc2 => ?_) (fun hc2 => ?_)
    · skip
      refine c_seq ?_
      refine c_region ?_
      refine o_pure (p_assign (v := .int .i64 3) rfl) rfl rfl rfl ?_
      refine o_nil ?_
      refine q_then ?_
      refine c_ret ?_
      refine q_block_ret (q_then_ret ?_)
      have hr0 : (3 : Int) = (Lru.trace l) := by
        first | exact (Lru.trace_many (by assumption)).symm | exact (Lru.trace_bad (by omega) (by assumption)).symm | exact (Lru.trace_fine (by omega) (by assumption)).symm
      refine q_end0 (v := .int .i64 3) (rt1 rfl (r_tmp rfl)) (i := 0) rfl ?_
      exact (by have hcc := congrArg (fun (y0 : Int) => (.int .i64 y0 : Value)) hr0; exact hcc)
    · skip
      refine c_skip ?_
      refine q_block_normal (q_then ?_)
      refine c_seq ?_
      refine c_region ?_
      refine o_pure (p_assign (v := .int .i64 0) rfl) rfl rfl rfl ?_
      refine o_nil ?_
      refine q_then ?_
      refine c_ret ?_
      have hr0 : (0 : Int) = (Lru.trace l) := by
        first | exact (Lru.trace_many (by assumption)).symm | exact (Lru.trace_bad (by omega) (by assumption)).symm | exact (Lru.trace_fine (by omega) (by assumption)).symm
      refine q_end0 (v := .int .i64 0) (rt1 rfl (r_tmp rfl)) (i := 0) rfl ?_
      exact (by have hcc := congrArg (fun (y0 : Int) => (.int .i64 y0 : Value)) hr0; exact hcc)
end Go.Proofs.Ytgjdmnljnimamaa
