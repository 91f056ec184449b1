/- The walks, printed by a program from the translation and a specification. -/
import Derived.Test.YthbfdhphnofacaaRtF
import Derived.Test.YthbfdhphnofacaaRtPure
import Derived.Test.YthbfdhphnofacaaRtW2
import Derived.Test.YthbfdhphnofacaaRtW3
namespace Go.Proofs.Ythbfdhphnofacaa
open Go.Sx Go.RowKit
set_option maxHeartbeats 8000000 in
set_option maxRecDepth 100000 in
theorem rateBegun_ok  : Fn0 Try.prog 40 [] (fun _ => True) (.bool true) := by
  refine fn0 (nt := 109) (F0 := []) Try.func40 rfl Try.ntmps40 rfl rfl (fun w0 hpre => ?_)
  refine c_seq ?_
  refine c_region ?_
  refine o_pure (p_assign (v := .bool false) rfl) rfl rfl rfl ?_
  refine o_nil ?_
  refine q_then ?_
  refine c_seq ?_
  refine c_region ?_
  refine o_call0 (v := .tuple #[.agg #[.int .i64 ((Rate.new 3 10 100).most), .int .i64 ((Rate.new 3 10 100).every), .int .i64 ((Rate.new 3 10 100).has), .int .i64 ((Rate.new 3 10 100).at_)], .int .i64 (Rate.check0 (Rate.full 3 10 100))]) rfl (new_ok 3 10 100) hf33 (fun _ _ => trivial) rfl ?_
  refine o_pure (p_move (v := .tuple #[.agg #[.int .i64 ((Rate.new 3 10 100).most), .int .i64 ((Rate.new 3 10 100).every), .int .i64 ((Rate.new 3 10 100).has), .int .i64 ((Rate.new 3 10 100).at_)], .int .i64 (Rate.check0 (Rate.full 3 10 100))]) rfl) rfl rfl rfl ?_
  refine o_pure (p_extract (vs := [.agg #[.int .i64 ((Rate.new 3 10 100).most), .int .i64 ((Rate.new 3 10 100).every), .int .i64 ((Rate.new 3 10 100).has), .int .i64 ((Rate.new 3 10 100).at_)], .int .i64 (Rate.check0 (Rate.full 3 10 100))]) (v := .agg #[.int .i64 ((Rate.new 3 10 100).most), .int .i64 ((Rate.new 3 10 100).every), .int .i64 ((Rate.new 3 10 100).has), .int .i64 ((Rate.new 3 10 100).at_)]) rfl rfl) rfl rfl rfl ?_
  refine o_pure (p_extract (vs := [.agg #[.int .i64 ((Rate.new 3 10 100).most), .int .i64 ((Rate.new 3 10 100).every), .int .i64 ((Rate.new 3 10 100).has), .int .i64 ((Rate.new 3 10 100).at_)], .int .i64 (Rate.check0 (Rate.full 3 10 100))]) (v := .int .i64 (Rate.check0 (Rate.full 3 10 100))) rfl rfl) rfl rfl rfl ?_
  refine o_alloc ze53 rfl (fun B1 => ?_)
  refine o_storeN (i := 0) (vs := [.int .i64 ((Rate.new 3 10 100).most), .int .i64 ((Rate.new 3 10 100).every), .int .i64 ((Rate.new 3 10 100).has), .int .i64 ((Rate.new 3 10 100).at_)]) (cs' := [.int .i64 ((Rate.new 3 10 100).most), .int .i64 ((Rate.new 3 10 100).every), .int .i64 ((Rate.new 3 10 100).has), .int .i64 ((Rate.new 3 10 100).at_)]) rfl rfl rfl sz53 rfl rfl rfl rfl ?_
  refine o_pure (p_assign (v := .int .i64 (Rate.check0 (Rate.full 3 10 100))) rfl) rfl rfl rfl ?_
  refine o_nil ?_
  refine q_then ?_
  refine c_seq ?_
  refine c_region ?_
  refine o_pure (p_load_agg (i := 0) (vs := [.int .i64 ((Rate.new 3 10 100).most), .int .i64 ((Rate.new 3 10 100).every), .int .i64 ((Rate.new 3 10 100).has), .int .i64 ((Rate.new 3 10 100).at_)]) rfl rfl sh53 rfl rfl) rfl rfl rfl ?_
  refine o_call0 (v := .tuple #[.agg #[.int .i64 ((Rate.take (Rate.new 3 10 100) 100 2).most), .int .i64 ((Rate.take (Rate.new 3 10 100) 100 2).every), .int .i64 ((Rate.take (Rate.new 3 10 100) 100 2).has), .int .i64 ((Rate.take (Rate.new 3 10 100) 100 2).at_)], .bool (Rate.can (Rate.new 3 10 100) 100 2), .int .i64 (Rate.err (Rate.new 3 10 100) 100 2)]) rfl (take_ok (Rate.new 3 10 100) 100 2) hf35 (fun _ _ => trivial) rfl ?_
  refine o_pure (p_move (v := .tuple #[.agg #[.int .i64 ((Rate.take (Rate.new 3 10 100) 100 2).most), .int .i64 ((Rate.take (Rate.new 3 10 100) 100 2).every), .int .i64 ((Rate.take (Rate.new 3 10 100) 100 2).has), .int .i64 ((Rate.take (Rate.new 3 10 100) 100 2).at_)], .bool (Rate.can (Rate.new 3 10 100) 100 2), .int .i64 (Rate.err (Rate.new 3 10 100) 100 2)]) rfl) rfl rfl rfl ?_
  refine o_pure (p_extract (vs := [.agg #[.int .i64 ((Rate.take (Rate.new 3 10 100) 100 2).most), .int .i64 ((Rate.take (Rate.new 3 10 100) 100 2).every), .int .i64 ((Rate.take (Rate.new 3 10 100) 100 2).has), .int .i64 ((Rate.take (Rate.new 3 10 100) 100 2).at_)], .bool (Rate.can (Rate.new 3 10 100) 100 2), .int .i64 (Rate.err (Rate.new 3 10 100) 100 2)]) (v := .agg #[.int .i64 ((Rate.take (Rate.new 3 10 100) 100 2).most), .int .i64 ((Rate.take (Rate.new 3 10 100) 100 2).every), .int .i64 ((Rate.take (Rate.new 3 10 100) 100 2).has), .int .i64 ((Rate.take (Rate.new 3 10 100) 100 2).at_)]) rfl rfl) rfl rfl rfl ?_
  refine o_pure (p_extract (vs := [.agg #[.int .i64 ((Rate.take (Rate.new 3 10 100) 100 2).most), .int .i64 ((Rate.take (Rate.new 3 10 100) 100 2).every), .int .i64 ((Rate.take (Rate.new 3 10 100) 100 2).has), .int .i64 ((Rate.take (Rate.new 3 10 100) 100 2).at_)], .bool (Rate.can (Rate.new 3 10 100) 100 2), .int .i64 (Rate.err (Rate.new 3 10 100) 100 2)]) (v := .bool (Rate.can (Rate.new 3 10 100) 100 2)) rfl rfl) rfl rfl rfl ?_
  refine o_pure (p_extract (vs := [.agg #[.int .i64 ((Rate.take (Rate.new 3 10 100) 100 2).most), .int .i64 ((Rate.take (Rate.new 3 10 100) 100 2).every), .int .i64 ((Rate.take (Rate.new 3 10 100) 100 2).has), .int .i64 ((Rate.take (Rate.new 3 10 100) 100 2).at_)], .bool (Rate.can (Rate.new 3 10 100) 100 2), .int .i64 (Rate.err (Rate.new 3 10 100) 100 2)]) (v := .int .i64 (Rate.err (Rate.new 3 10 100) 100 2)) rfl rfl) rfl rfl rfl ?_
  refine o_storeN (i := 0) (vs := [.int .i64 ((Rate.take (Rate.new 3 10 100) 100 2).most), .int .i64 ((Rate.take (Rate.new 3 10 100) 100 2).every), .int .i64 ((Rate.take (Rate.new 3 10 100) 100 2).has), .int .i64 ((Rate.take (Rate.new 3 10 100) 100 2).at_)]) (cs' := [.int .i64 ((Rate.take (Rate.new 3 10 100) 100 2).most), .int .i64 ((Rate.take (Rate.new 3 10 100) 100 2).every), .int .i64 ((Rate.take (Rate.new 3 10 100) 100 2).has), .int .i64 ((Rate.take (Rate.new 3 10 100) 100 2).at_)]) rfl rfl rfl sz53 rfl rfl rfl rfl ?_
  refine o_pure (p_assign (v := .bool (Rate.can (Rate.new 3 10 100) 100 2)) rfl) rfl rfl rfl ?_
  refine o_pure (p_assign (v := .int .i64 (Rate.err (Rate.new 3 10 100) 100 2)) rfl) rfl rfl rfl ?_
  refine o_nil ?_
  refine q_then ?_
  refine c_seq ?_
  refine c_region ?_
  refine o_pure (p_load_agg (i := 0) (vs := [.int .i64 ((Rate.take (Rate.new 3 10 100) 100 2).most), .int .i64 ((Rate.take (Rate.new 3 10 100) 100 2).every), .int .i64 ((Rate.take (Rate.new 3 10 100) 100 2).has), .int .i64 ((Rate.take (Rate.new 3 10 100) 100 2).at_)]) rfl rfl sh53 rfl rfl) rfl rfl rfl ?_
  refine o_call0 (v := .tuple #[.agg #[.int .i64 ((Rate.advance (Rate.take (Rate.new 3 10 100) 100 2) 119).most), .int .i64 ((Rate.advance (Rate.take (Rate.new 3 10 100) 100 2) 119).every), .int .i64 ((Rate.advance (Rate.take (Rate.new 3 10 100) 100 2) 119).has), .int .i64 ((Rate.advance (Rate.take (Rate.new 3 10 100) 100 2) 119).at_)], .int .i64 (Rate.check (Rate.take (Rate.new 3 10 100) 100 2) 119)]) rfl (advance_ok (Rate.take (Rate.new 3 10 100) 100 2) 119) hf34 (fun _ _ => trivial) rfl ?_
  refine o_pure (p_move (v := .tuple #[.agg #[.int .i64 ((Rate.advance (Rate.take (Rate.new 3 10 100) 100 2) 119).most), .int .i64 ((Rate.advance (Rate.take (Rate.new 3 10 100) 100 2) 119).every), .int .i64 ((Rate.advance (Rate.take (Rate.new 3 10 100) 100 2) 119).has), .int .i64 ((Rate.advance (Rate.take (Rate.new 3 10 100) 100 2) 119).at_)], .int .i64 (Rate.check (Rate.take (Rate.new 3 10 100) 100 2) 119)]) rfl) rfl rfl rfl ?_
  refine o_pure (p_extract (vs := [.agg #[.int .i64 ((Rate.advance (Rate.take (Rate.new 3 10 100) 100 2) 119).most), .int .i64 ((Rate.advance (Rate.take (Rate.new 3 10 100) 100 2) 119).every), .int .i64 ((Rate.advance (Rate.take (Rate.new 3 10 100) 100 2) 119).has), .int .i64 ((Rate.advance (Rate.take (Rate.new 3 10 100) 100 2) 119).at_)], .int .i64 (Rate.check (Rate.take (Rate.new 3 10 100) 100 2) 119)]) (v := .agg #[.int .i64 ((Rate.advance (Rate.take (Rate.new 3 10 100) 100 2) 119).most), .int .i64 ((Rate.advance (Rate.take (Rate.new 3 10 100) 100 2) 119).every), .int .i64 ((Rate.advance (Rate.take (Rate.new 3 10 100) 100 2) 119).has), .int .i64 ((Rate.advance (Rate.take (Rate.new 3 10 100) 100 2) 119).at_)]) rfl rfl) rfl rfl rfl ?_
  refine o_pure (p_extract (vs := [.agg #[.int .i64 ((Rate.advance (Rate.take (Rate.new 3 10 100) 100 2) 119).most), .int .i64 ((Rate.advance (Rate.take (Rate.new 3 10 100) 100 2) 119).every), .int .i64 ((Rate.advance (Rate.take (Rate.new 3 10 100) 100 2) 119).has), .int .i64 ((Rate.advance (Rate.take (Rate.new 3 10 100) 100 2) 119).at_)], .int .i64 (Rate.check (Rate.take (Rate.new 3 10 100) 100 2) 119)]) (v := .int .i64 (Rate.check (Rate.take (Rate.new 3 10 100) 100 2) 119)) rfl rfl) rfl rfl rfl ?_
  refine o_alloc ze53 rfl (fun B2 => ?_)
  refine o_storeN (i := 0) (vs := [.int .i64 ((Rate.advance (Rate.take (Rate.new 3 10 100) 100 2) 119).most), .int .i64 ((Rate.advance (Rate.take (Rate.new 3 10 100) 100 2) 119).every), .int .i64 ((Rate.advance (Rate.take (Rate.new 3 10 100) 100 2) 119).has), .int .i64 ((Rate.advance (Rate.take (Rate.new 3 10 100) 100 2) 119).at_)]) (cs' := [.int .i64 ((Rate.advance (Rate.take (Rate.new 3 10 100) 100 2) 119).most), .int .i64 ((Rate.advance (Rate.take (Rate.new 3 10 100) 100 2) 119).every), .int .i64 ((Rate.advance (Rate.take (Rate.new 3 10 100) 100 2) 119).has), .int .i64 ((Rate.advance (Rate.take (Rate.new 3 10 100) 100 2) 119).at_)]) rfl rfl rfl sz53 rfl rfl rfl rfl ?_
  refine o_pure (p_assign (v := .int .i64 (Rate.check (Rate.take (Rate.new 3 10 100) 100 2) 119)) rfl) rfl rfl rfl ?_
  refine o_nil ?_
  refine q_then ?_
  refine c_seq ?_
  refine c_region ?_
  refine o_pure (p_load_agg (i := 1) (vs := [.int .i64 ((Rate.take (Rate.new 3 10 100) 100 2).most), .int .i64 ((Rate.take (Rate.new 3 10 100) 100 2).every), .int .i64 ((Rate.take (Rate.new 3 10 100) 100 2).has), .int .i64 ((Rate.take (Rate.new 3 10 100) 100 2).at_)]) rfl rfl sh53 rfl rfl) rfl rfl rfl ?_
  refine o_call0 (v := .tuple #[.int .i64 (Rate.when_ (Rate.take (Rate.new 3 10 100) 100 2) 105 3), .int .i64 (Rate.whenErr (Rate.take (Rate.new 3 10 100) 100 2) 105 3)]) rfl (whenF_ok (Rate.take (Rate.new 3 10 100) 100 2) 105 3) hf36 (fun _ _ => trivial) rfl ?_
  refine o_pure (p_move (v := .tuple #[.int .i64 (Rate.when_ (Rate.take (Rate.new 3 10 100) 100 2) 105 3), .int .i64 (Rate.whenErr (Rate.take (Rate.new 3 10 100) 100 2) 105 3)]) rfl) rfl rfl rfl ?_
  refine o_pure (p_extract (vs := [.int .i64 (Rate.when_ (Rate.take (Rate.new 3 10 100) 100 2) 105 3), .int .i64 (Rate.whenErr (Rate.take (Rate.new 3 10 100) 100 2) 105 3)]) (v := .int .i64 (Rate.when_ (Rate.take (Rate.new 3 10 100) 100 2) 105 3)) rfl rfl) rfl rfl rfl ?_
  refine o_pure (p_extract (vs := [.int .i64 (Rate.when_ (Rate.take (Rate.new 3 10 100) 100 2) 105 3), .int .i64 (Rate.whenErr (Rate.take (Rate.new 3 10 100) 100 2) 105 3)]) (v := .int .i64 (Rate.whenErr (Rate.take (Rate.new 3 10 100) 100 2) 105 3)) rfl rfl) rfl rfl rfl ?_
  refine o_pure (p_assign (v := .int .i64 (Rate.when_ (Rate.take (Rate.new 3 10 100) 100 2) 105 3)) rfl) rfl rfl rfl ?_
  refine o_pure (p_assign (v := .int .i64 (Rate.whenErr (Rate.take (Rate.new 3 10 100) 100 2) 105 3)) rfl) rfl rfl rfl ?_
  refine o_nil ?_
  refine q_then ?_
  refine c_seq ?_
  refine c_region ?_
  refine o_pure (p_load_agg (i := 1) (vs := [.int .i64 ((Rate.take (Rate.new 3 10 100) 100 2).most), .int .i64 ((Rate.take (Rate.new 3 10 100) 100 2).every), .int .i64 ((Rate.take (Rate.new 3 10 100) 100 2).has), .int .i64 ((Rate.take (Rate.new 3 10 100) 100 2).at_)]) rfl rfl sh53 rfl rfl) rfl rfl rfl ?_
  refine o_call0 (v := .tuple #[.agg #[.int .i64 ((Rate.take (Rate.take (Rate.new 3 10 100) 100 2) 109 2).most), .int .i64 ((Rate.take (Rate.take (Rate.new 3 10 100) 100 2) 109 2).every), .int .i64 ((Rate.take (Rate.take (Rate.new 3 10 100) 100 2) 109 2).has), .int .i64 ((Rate.take (Rate.take (Rate.new 3 10 100) 100 2) 109 2).at_)], .bool (Rate.can (Rate.take (Rate.new 3 10 100) 100 2) 109 2), .int .i64 (Rate.err (Rate.take (Rate.new 3 10 100) 100 2) 109 2)]) rfl (take_ok (Rate.take (Rate.new 3 10 100) 100 2) 109 2) hf35 (fun _ _ => trivial) rfl ?_
  refine o_pure (p_move (v := .tuple #[.agg #[.int .i64 ((Rate.take (Rate.take (Rate.new 3 10 100) 100 2) 109 2).most), .int .i64 ((Rate.take (Rate.take (Rate.new 3 10 100) 100 2) 109 2).every), .int .i64 ((Rate.take (Rate.take (Rate.new 3 10 100) 100 2) 109 2).has), .int .i64 ((Rate.take (Rate.take (Rate.new 3 10 100) 100 2) 109 2).at_)], .bool (Rate.can (Rate.take (Rate.new 3 10 100) 100 2) 109 2), .int .i64 (Rate.err (Rate.take (Rate.new 3 10 100) 100 2) 109 2)]) rfl) rfl rfl rfl ?_
  refine o_pure (p_extract (vs := [.agg #[.int .i64 ((Rate.take (Rate.take (Rate.new 3 10 100) 100 2) 109 2).most), .int .i64 ((Rate.take (Rate.take (Rate.new 3 10 100) 100 2) 109 2).every), .int .i64 ((Rate.take (Rate.take (Rate.new 3 10 100) 100 2) 109 2).has), .int .i64 ((Rate.take (Rate.take (Rate.new 3 10 100) 100 2) 109 2).at_)], .bool (Rate.can (Rate.take (Rate.new 3 10 100) 100 2) 109 2), .int .i64 (Rate.err (Rate.take (Rate.new 3 10 100) 100 2) 109 2)]) (v := .agg #[.int .i64 ((Rate.take (Rate.take (Rate.new 3 10 100) 100 2) 109 2).most), .int .i64 ((Rate.take (Rate.take (Rate.new 3 10 100) 100 2) 109 2).every), .int .i64 ((Rate.take (Rate.take (Rate.new 3 10 100) 100 2) 109 2).has), .int .i64 ((Rate.take (Rate.take (Rate.new 3 10 100) 100 2) 109 2).at_)]) rfl rfl) rfl rfl rfl ?_
  refine o_pure (p_extract (vs := [.agg #[.int .i64 ((Rate.take (Rate.take (Rate.new 3 10 100) 100 2) 109 2).most), .int .i64 ((Rate.take (Rate.take (Rate.new 3 10 100) 100 2) 109 2).every), .int .i64 ((Rate.take (Rate.take (Rate.new 3 10 100) 100 2) 109 2).has), .int .i64 ((Rate.take (Rate.take (Rate.new 3 10 100) 100 2) 109 2).at_)], .bool (Rate.can (Rate.take (Rate.new 3 10 100) 100 2) 109 2), .int .i64 (Rate.err (Rate.take (Rate.new 3 10 100) 100 2) 109 2)]) (v := .bool (Rate.can (Rate.take (Rate.new 3 10 100) 100 2) 109 2)) rfl rfl) rfl rfl rfl ?_
  refine o_pure (p_extract (vs := [.agg #[.int .i64 ((Rate.take (Rate.take (Rate.new 3 10 100) 100 2) 109 2).most), .int .i64 ((Rate.take (Rate.take (Rate.new 3 10 100) 100 2) 109 2).every), .int .i64 ((Rate.take (Rate.take (Rate.new 3 10 100) 100 2) 109 2).has), .int .i64 ((Rate.take (Rate.take (Rate.new 3 10 100) 100 2) 109 2).at_)], .bool (Rate.can (Rate.take (Rate.new 3 10 100) 100 2) 109 2), .int .i64 (Rate.err (Rate.take (Rate.new 3 10 100) 100 2) 109 2)]) (v := .int .i64 (Rate.err (Rate.take (Rate.new 3 10 100) 100 2) 109 2)) rfl rfl) rfl rfl rfl ?_
  refine o_alloc ze53 rfl (fun B3 => ?_)
  refine o_storeN (i := 0) (vs := [.int .i64 ((Rate.take (Rate.take (Rate.new 3 10 100) 100 2) 109 2).most), .int .i64 ((Rate.take (Rate.take (Rate.new 3 10 100) 100 2) 109 2).every), .int .i64 ((Rate.take (Rate.take (Rate.new 3 10 100) 100 2) 109 2).has), .int .i64 ((Rate.take (Rate.take (Rate.new 3 10 100) 100 2) 109 2).at_)]) (cs' := [.int .i64 ((Rate.take (Rate.take (Rate.new 3 10 100) 100 2) 109 2).most), .int .i64 ((Rate.take (Rate.take (Rate.new 3 10 100) 100 2) 109 2).every), .int .i64 ((Rate.take (Rate.take (Rate.new 3 10 100) 100 2) 109 2).has), .int .i64 ((Rate.take (Rate.take (Rate.new 3 10 100) 100 2) 109 2).at_)]) rfl rfl rfl sz53 rfl rfl rfl rfl ?_
  refine o_pure (p_assign (v := .bool (Rate.can (Rate.take (Rate.new 3 10 100) 100 2) 109 2)) rfl) rfl rfl rfl ?_
  refine o_pure (p_assign (v := .int .i64 (Rate.err (Rate.take (Rate.new 3 10 100) 100 2) 109 2)) rfl) rfl rfl rfl ?_
  refine o_nil ?_
  refine q_then ?_
  refine c_seq ?_
  refine c_region ?_
  refine o_pure (p_load_agg (i := 2) (vs := [.int .i64 ((Rate.take (Rate.new 3 10 100) 100 2).most), .int .i64 ((Rate.take (Rate.new 3 10 100) 100 2).every), .int .i64 ((Rate.take (Rate.new 3 10 100) 100 2).has), .int .i64 ((Rate.take (Rate.new 3 10 100) 100 2).at_)]) rfl rfl sh53 rfl rfl) rfl rfl rfl ?_
  refine o_call0 (v := .tuple #[.int .i64 (Rate.when_ (Rate.take (Rate.new 3 10 100) 100 2) 105 4), .int .i64 (Rate.whenErr (Rate.take (Rate.new 3 10 100) 100 2) 105 4)]) rfl (whenF_ok (Rate.take (Rate.new 3 10 100) 100 2) 105 4) hf36 (fun _ _ => trivial) rfl ?_
  refine o_pure (p_move (v := .tuple #[.int .i64 (Rate.when_ (Rate.take (Rate.new 3 10 100) 100 2) 105 4), .int .i64 (Rate.whenErr (Rate.take (Rate.new 3 10 100) 100 2) 105 4)]) rfl) rfl rfl rfl ?_
  refine o_pure (p_extract (vs := [.int .i64 (Rate.when_ (Rate.take (Rate.new 3 10 100) 100 2) 105 4), .int .i64 (Rate.whenErr (Rate.take (Rate.new 3 10 100) 100 2) 105 4)]) (v := .int .i64 (Rate.when_ (Rate.take (Rate.new 3 10 100) 100 2) 105 4)) rfl rfl) rfl rfl rfl ?_
  refine o_pure (p_extract (vs := [.int .i64 (Rate.when_ (Rate.take (Rate.new 3 10 100) 100 2) 105 4), .int .i64 (Rate.whenErr (Rate.take (Rate.new 3 10 100) 100 2) 105 4)]) (v := .int .i64 (Rate.whenErr (Rate.take (Rate.new 3 10 100) 100 2) 105 4)) rfl rfl) rfl rfl rfl ?_
  refine o_pure (p_assign (v := .int .i64 (Rate.when_ (Rate.take (Rate.new 3 10 100) 100 2) 105 4)) rfl) rfl rfl rfl ?_
  refine o_pure (p_assign (v := .int .i64 (Rate.whenErr (Rate.take (Rate.new 3 10 100) 100 2) 105 4)) rfl) rfl rfl rfl ?_
  refine o_nil ?_
  refine q_then ?_
  refine c_seq ?_
  refine c_region ?_
  refine o_pure (p_load_agg (i := 2) (vs := [.int .i64 ((Rate.take (Rate.new 3 10 100) 100 2).most), .int .i64 ((Rate.take (Rate.new 3 10 100) 100 2).every), .int .i64 ((Rate.take (Rate.new 3 10 100) 100 2).has), .int .i64 ((Rate.take (Rate.new 3 10 100) 100 2).at_)]) rfl rfl sh53 rfl rfl) rfl rfl rfl ?_
  refine o_call0 (v := .tuple #[.agg #[.int .i64 ((Rate.advance (Rate.take (Rate.new 3 10 100) 100 2) 99).most), .int .i64 ((Rate.advance (Rate.take (Rate.new 3 10 100) 100 2) 99).every), .int .i64 ((Rate.advance (Rate.take (Rate.new 3 10 100) 100 2) 99).has), .int .i64 ((Rate.advance (Rate.take (Rate.new 3 10 100) 100 2) 99).at_)], .int .i64 (Rate.check (Rate.take (Rate.new 3 10 100) 100 2) 99)]) rfl (advance_ok (Rate.take (Rate.new 3 10 100) 100 2) 99) hf34 (fun _ _ => trivial) rfl ?_
  refine o_pure (p_move (v := .tuple #[.agg #[.int .i64 ((Rate.advance (Rate.take (Rate.new 3 10 100) 100 2) 99).most), .int .i64 ((Rate.advance (Rate.take (Rate.new 3 10 100) 100 2) 99).every), .int .i64 ((Rate.advance (Rate.take (Rate.new 3 10 100) 100 2) 99).has), .int .i64 ((Rate.advance (Rate.take (Rate.new 3 10 100) 100 2) 99).at_)], .int .i64 (Rate.check (Rate.take (Rate.new 3 10 100) 100 2) 99)]) rfl) rfl rfl rfl ?_
  refine o_pure (p_extract (vs := [.agg #[.int .i64 ((Rate.advance (Rate.take (Rate.new 3 10 100) 100 2) 99).most), .int .i64 ((Rate.advance (Rate.take (Rate.new 3 10 100) 100 2) 99).every), .int .i64 ((Rate.advance (Rate.take (Rate.new 3 10 100) 100 2) 99).has), .int .i64 ((Rate.advance (Rate.take (Rate.new 3 10 100) 100 2) 99).at_)], .int .i64 (Rate.check (Rate.take (Rate.new 3 10 100) 100 2) 99)]) (v := .agg #[.int .i64 ((Rate.advance (Rate.take (Rate.new 3 10 100) 100 2) 99).most), .int .i64 ((Rate.advance (Rate.take (Rate.new 3 10 100) 100 2) 99).every), .int .i64 ((Rate.advance (Rate.take (Rate.new 3 10 100) 100 2) 99).has), .int .i64 ((Rate.advance (Rate.take (Rate.new 3 10 100) 100 2) 99).at_)]) rfl rfl) rfl rfl rfl ?_
  refine o_pure (p_extract (vs := [.agg #[.int .i64 ((Rate.advance (Rate.take (Rate.new 3 10 100) 100 2) 99).most), .int .i64 ((Rate.advance (Rate.take (Rate.new 3 10 100) 100 2) 99).every), .int .i64 ((Rate.advance (Rate.take (Rate.new 3 10 100) 100 2) 99).has), .int .i64 ((Rate.advance (Rate.take (Rate.new 3 10 100) 100 2) 99).at_)], .int .i64 (Rate.check (Rate.take (Rate.new 3 10 100) 100 2) 99)]) (v := .int .i64 (Rate.check (Rate.take (Rate.new 3 10 100) 100 2) 99)) rfl rfl) rfl rfl rfl ?_
  refine o_alloc ze53 rfl (fun B4 => ?_)
  refine o_storeN (i := 0) (vs := [.int .i64 ((Rate.advance (Rate.take (Rate.new 3 10 100) 100 2) 99).most), .int .i64 ((Rate.advance (Rate.take (Rate.new 3 10 100) 100 2) 99).every), .int .i64 ((Rate.advance (Rate.take (Rate.new 3 10 100) 100 2) 99).has), .int .i64 ((Rate.advance (Rate.take (Rate.new 3 10 100) 100 2) 99).at_)]) (cs' := [.int .i64 ((Rate.advance (Rate.take (Rate.new 3 10 100) 100 2) 99).most), .int .i64 ((Rate.advance (Rate.take (Rate.new 3 10 100) 100 2) 99).every), .int .i64 ((Rate.advance (Rate.take (Rate.new 3 10 100) 100 2) 99).has), .int .i64 ((Rate.advance (Rate.take (Rate.new 3 10 100) 100 2) 99).at_)]) rfl rfl rfl sz53 rfl rfl rfl rfl ?_
  refine o_pure (p_assign (v := .int .i64 (Rate.check (Rate.take (Rate.new 3 10 100) 100 2) 99)) rfl) rfl rfl rfl ?_
  refine o_nil ?_
  refine q_then ?_
  refine c_seq ?_
  refine c_region ?_
  refine o_pure (p_move (v := .int .i64 (Rate.check0 (Rate.full 3 10 100))) rfl) rfl rfl rfl ?_
  refine o_pure (p_eq (p := (Rate.check0 (Rate.full 3 10 100))) (q := 0) rfl rfl) rfl rfl rfl ?_
  refine o_pure (p_move (v := .bool ((Rate.check0 (Rate.full 3 10 100)) == 0)) rfl) rfl rfl rfl ?_
  refine o_and (p := 56) 2 (Rate.can (Rate.new 3 10 100) 100 2) ?_ ?_ ?_
  · intro hb5 hk
    simp only [beq_iff_eq] at hb5
    refine o_unguard 54 rfl rfl ?_
    refine o_pure (p_move (v := .bool (Rate.can (Rate.new 3 10 100) 100 2)) rfl) rfl rfl rfl ?_
    refine o_pure (p_pick_true (u := .bool (Rate.can (Rate.new 3 10 100) 100 2)) rfl rfl) rfl rfl rfl ?_
    exact o_sub (Sub.cons rfl (Sub.skip rfl (Sub.skip rfl (Sub.skip rfl (Sub.refl _))))) hk
  · intro hb5 hk
    refine o_guard_no rfl 54 rfl rfl rfl rfl rfl ?_
    refine o_pure (p_pick_false (v := .bool false) rfl rfl) rfl rfl rfl ?_
    exact o_sub (Sub.cons rfl (Sub.skip rfl (Sub.skip rfl (Sub.skip rfl (Sub.refl _))))) hk
  refine o_pure (p_move (v := .bool (((Rate.check0 (Rate.full 3 10 100)) == 0) && (Rate.can (Rate.new 3 10 100) 100 2))) rfl) rfl rfl rfl ?_
  refine o_and (p := 60) 3 ((Rate.err (Rate.new 3 10 100) 100 2) == 0) ?_ ?_ ?_
  · intro hb6 hk
    simp only [Bool.and_eq_true, beq_iff_eq] at hb6
    refine o_unguard 57 rfl rfl ?_
    refine o_pure (p_move (v := .int .i64 (Rate.err (Rate.new 3 10 100) 100 2)) rfl) rfl rfl rfl ?_
    refine o_unguard 57 rfl rfl ?_
    refine o_pure (p_eq (p := (Rate.err (Rate.new 3 10 100) 100 2)) (q := 0) rfl rfl) rfl rfl rfl ?_
    refine o_pure (p_pick_true (u := .bool ((Rate.err (Rate.new 3 10 100) 100 2) == 0)) rfl rfl) rfl rfl rfl ?_
    exact o_sub (Sub.cons rfl (Sub.skip rfl (Sub.skip rfl (Sub.skip rfl (Sub.skip rfl (Sub.refl _)))))) hk
  · intro hb6 hk
    refine o_guard_no rfl 57 rfl rfl rfl rfl rfl ?_
    refine o_guard_no rfl 57 rfl rfl rfl rfl rfl ?_
    refine o_pure (p_pick_false (v := .bool false) rfl rfl) rfl rfl rfl ?_
    exact o_sub (Sub.cons rfl (Sub.skip rfl (Sub.skip rfl (Sub.skip rfl (Sub.skip rfl (Sub.refl _)))))) hk
  refine o_pure (p_move (v := .bool ((((Rate.check0 (Rate.full 3 10 100)) == 0) && (Rate.can (Rate.new 3 10 100) 100 2)) && ((Rate.err (Rate.new 3 10 100) 100 2) == 0))) rfl) rfl rfl rfl ?_
  refine o_and (p := 65) 4 ((Rate.take (Rate.new 3 10 100) 100 2).has == 1) ?_ ?_ ?_
  · intro hb7 hk
    simp only [Bool.and_eq_true, beq_iff_eq] at hb7
    refine o_unguard 61 rfl rfl ?_
    refine o_pure (p_fieldAddr (B := B1) (j := 0) (j' := 2) rfl fo53_2 rfl) rfl rfl rfl ?_
    refine o_unguard 61 rfl rfl ?_
    refine o_pure (p_load (i := 3) (v := .int .i64 ((Rate.take (Rate.new 3 10 100) 100 2).has)) rfl rfl sh3 rfl) rfl rfl rfl ?_
    refine o_unguard 61 rfl rfl ?_
    refine o_pure (p_eq (p := (Rate.take (Rate.new 3 10 100) 100 2).has) (q := 1) rfl rfl) rfl rfl rfl ?_
    refine o_pure (p_pick_true (u := .bool ((Rate.take (Rate.new 3 10 100) 100 2).has == 1)) rfl rfl) rfl rfl rfl ?_
    exact o_sub (Sub.cons rfl (Sub.skip rfl (Sub.skip rfl (Sub.skip rfl (Sub.skip rfl (Sub.skip rfl (Sub.refl _))))))) hk
  · intro hb7 hk
    refine o_guard_no rfl 61 rfl rfl rfl rfl rfl ?_
    refine o_guard_no rfl 61 rfl rfl rfl rfl rfl ?_
    refine o_guard_no rfl 61 rfl rfl rfl rfl rfl ?_
    refine o_pure (p_pick_false (v := .bool false) rfl rfl) rfl rfl rfl ?_
    exact o_sub (Sub.cons rfl (Sub.skip rfl (Sub.skip rfl (Sub.skip rfl (Sub.skip rfl (Sub.skip rfl (Sub.refl _))))))) hk
  refine o_pure (p_move (v := .bool (((((Rate.check0 (Rate.full 3 10 100)) == 0) && (Rate.can (Rate.new 3 10 100) 100 2)) && ((Rate.err (Rate.new 3 10 100) 100 2) == 0)) && ((Rate.take (Rate.new 3 10 100) 100 2).has == 1))) rfl) rfl rfl rfl ?_
  refine o_and (p := 70) 4 (((Rate.advance (Rate.take (Rate.new 3 10 100) 100 2) 119).most == 3) && (((Rate.advance (Rate.take (Rate.new 3 10 100) 100 2) 119).every == 10) && (((Rate.advance (Rate.take (Rate.new 3 10 100) 100 2) 119).has == 2) && ((Rate.advance (Rate.take (Rate.new 3 10 100) 100 2) 119).at_ == 110)))) ?_ ?_ ?_
  · intro hb8 hk
    simp only [Bool.and_eq_true, beq_iff_eq] at hb8
    refine o_unguard 66 rfl rfl ?_
    refine o_pure (p_load_agg (i := 2) (vs := [.int .i64 ((Rate.advance (Rate.take (Rate.new 3 10 100) 100 2) 119).most), .int .i64 ((Rate.advance (Rate.take (Rate.new 3 10 100) 100 2) 119).every), .int .i64 ((Rate.advance (Rate.take (Rate.new 3 10 100) 100 2) 119).has), .int .i64 ((Rate.advance (Rate.take (Rate.new 3 10 100) 100 2) 119).at_)]) rfl rfl sh53 rfl rfl) rfl rfl rfl ?_
    refine o_unguard 66 rfl rfl ?_
    refine o_pure (p_build (cells := [.int .i64 3, .int .i64 10, .int .i64 2, .int .i64 110]) fp53 ze53 rfl rfl) rfl rfl rfl ?_
    refine o_unguard 66 rfl rfl ?_
    refine o_pure (p_eqStruct (xs := [.int .i64 ((Rate.advance (Rate.take (Rate.new 3 10 100) 100 2) 119).most), .int .i64 ((Rate.advance (Rate.take (Rate.new 3 10 100) 100 2) 119).every), .int .i64 ((Rate.advance (Rate.take (Rate.new 3 10 100) 100 2) 119).has), .int .i64 ((Rate.advance (Rate.take (Rate.new 3 10 100) 100 2) 119).at_)]) (ys := [.int .i64 3, .int .i64 10, .int .i64 2, .int .i64 110]) (r := (((Rate.advance (Rate.take (Rate.new 3 10 100) 100 2) 119).most == 3) && (((Rate.advance (Rate.take (Rate.new 3 10 100) 100 2) 119).every == 10) && (((Rate.advance (Rate.take (Rate.new 3 10 100) 100 2) 119).has == 2) && ((Rate.advance (Rate.take (Rate.new 3 10 100) 100 2) 119).at_ == 110))))) rfl rfl eqS53) rfl rfl rfl ?_
    refine o_pure (p_pick_true (u := .bool (((Rate.advance (Rate.take (Rate.new 3 10 100) 100 2) 119).most == 3) && (((Rate.advance (Rate.take (Rate.new 3 10 100) 100 2) 119).every == 10) && (((Rate.advance (Rate.take (Rate.new 3 10 100) 100 2) 119).has == 2) && ((Rate.advance (Rate.take (Rate.new 3 10 100) 100 2) 119).at_ == 110))))) rfl rfl) rfl rfl rfl ?_
    exact o_sub (Sub.cons rfl (Sub.skip rfl (Sub.skip rfl (Sub.skip rfl (Sub.skip rfl (Sub.skip rfl (Sub.refl _))))))) hk
  · intro hb8 hk
    refine o_guard_no rfl 66 rfl rfl rfl rfl rfl ?_
    refine o_guard_no rfl 66 rfl rfl rfl rfl rfl ?_
    refine o_guard_no rfl 66 rfl rfl rfl rfl rfl ?_
    refine o_pure (p_pick_false (v := .bool false) rfl rfl) rfl rfl rfl ?_
    exact o_sub (Sub.cons rfl (Sub.skip rfl (Sub.skip rfl (Sub.skip rfl (Sub.skip rfl (Sub.skip rfl (Sub.refl _))))))) hk
  refine o_pure (p_move (v := .bool ((((((Rate.check0 (Rate.full 3 10 100)) == 0) && (Rate.can (Rate.new 3 10 100) 100 2)) && ((Rate.err (Rate.new 3 10 100) 100 2) == 0)) && ((Rate.take (Rate.new 3 10 100) 100 2).has == 1)) && (((Rate.advance (Rate.take (Rate.new 3 10 100) 100 2) 119).most == 3) && (((Rate.advance (Rate.take (Rate.new 3 10 100) 100 2) 119).every == 10) && (((Rate.advance (Rate.take (Rate.new 3 10 100) 100 2) 119).has == 2) && ((Rate.advance (Rate.take (Rate.new 3 10 100) 100 2) 119).at_ == 110)))))) rfl) rfl rfl rfl ?_
  refine o_and (p := 74) 3 ((Rate.check (Rate.take (Rate.new 3 10 100) 100 2) 119) == 0) ?_ ?_ ?_
  · intro hb9 hk
    simp only [Bool.and_eq_true, beq_iff_eq] at hb9
    refine o_unguard 71 rfl rfl ?_
    refine o_pure (p_move (v := .int .i64 (Rate.check (Rate.take (Rate.new 3 10 100) 100 2) 119)) rfl) rfl rfl rfl ?_
    refine o_unguard 71 rfl rfl ?_
    refine o_pure (p_eq (p := (Rate.check (Rate.take (Rate.new 3 10 100) 100 2) 119)) (q := 0) rfl rfl) rfl rfl rfl ?_
    refine o_pure (p_pick_true (u := .bool ((Rate.check (Rate.take (Rate.new 3 10 100) 100 2) 119) == 0)) rfl rfl) rfl rfl rfl ?_
    exact o_sub (Sub.cons rfl (Sub.skip rfl (Sub.skip rfl (Sub.skip rfl (Sub.skip rfl (Sub.refl _)))))) hk
  · intro hb9 hk
    refine o_guard_no rfl 71 rfl rfl rfl rfl rfl ?_
    refine o_guard_no rfl 71 rfl rfl rfl rfl rfl ?_
    refine o_pure (p_pick_false (v := .bool false) rfl rfl) rfl rfl rfl ?_
    exact o_sub (Sub.cons rfl (Sub.skip rfl (Sub.skip rfl (Sub.skip rfl (Sub.skip rfl (Sub.refl _)))))) hk
  refine o_pure (p_move (v := .bool (((((((Rate.check0 (Rate.full 3 10 100)) == 0) && (Rate.can (Rate.new 3 10 100) 100 2)) && ((Rate.err (Rate.new 3 10 100) 100 2) == 0)) && ((Rate.take (Rate.new 3 10 100) 100 2).has == 1)) && (((Rate.advance (Rate.take (Rate.new 3 10 100) 100 2) 119).most == 3) && (((Rate.advance (Rate.take (Rate.new 3 10 100) 100 2) 119).every == 10) && (((Rate.advance (Rate.take (Rate.new 3 10 100) 100 2) 119).has == 2) && ((Rate.advance (Rate.take (Rate.new 3 10 100) 100 2) 119).at_ == 110))))) && ((Rate.check (Rate.take (Rate.new 3 10 100) 100 2) 119) == 0))) rfl) rfl rfl rfl ?_
  refine o_and (p := 78) 3 ((Rate.when_ (Rate.take (Rate.new 3 10 100) 100 2) 105 3) == 120) ?_ ?_ ?_
  · intro hb10 hk
    simp only [Bool.and_eq_true, beq_iff_eq] at hb10
    refine o_unguard 75 rfl rfl ?_
    refine o_pure (p_move (v := .int .i64 (Rate.when_ (Rate.take (Rate.new 3 10 100) 100 2) 105 3)) rfl) rfl rfl rfl ?_
    refine o_unguard 75 rfl rfl ?_
    refine o_pure (p_eq (p := (Rate.when_ (Rate.take (Rate.new 3 10 100) 100 2) 105 3)) (q := 120) rfl rfl) rfl rfl rfl ?_
    refine o_pure (p_pick_true (u := .bool ((Rate.when_ (Rate.take (Rate.new 3 10 100) 100 2) 105 3) == 120)) rfl rfl) rfl rfl rfl ?_
    exact o_sub (Sub.cons rfl (Sub.skip rfl (Sub.skip rfl (Sub.skip rfl (Sub.skip rfl (Sub.refl _)))))) hk
  · intro hb10 hk
    refine o_guard_no rfl 75 rfl rfl rfl rfl rfl ?_
    refine o_guard_no rfl 75 rfl rfl rfl rfl rfl ?_
    refine o_pure (p_pick_false (v := .bool false) rfl rfl) rfl rfl rfl ?_
    exact o_sub (Sub.cons rfl (Sub.skip rfl (Sub.skip rfl (Sub.skip rfl (Sub.skip rfl (Sub.refl _)))))) hk
  refine o_pure (p_move (v := .bool ((((((((Rate.check0 (Rate.full 3 10 100)) == 0) && (Rate.can (Rate.new 3 10 100) 100 2)) && ((Rate.err (Rate.new 3 10 100) 100 2) == 0)) && ((Rate.take (Rate.new 3 10 100) 100 2).has == 1)) && (((Rate.advance (Rate.take (Rate.new 3 10 100) 100 2) 119).most == 3) && (((Rate.advance (Rate.take (Rate.new 3 10 100) 100 2) 119).every == 10) && (((Rate.advance (Rate.take (Rate.new 3 10 100) 100 2) 119).has == 2) && ((Rate.advance (Rate.take (Rate.new 3 10 100) 100 2) 119).at_ == 110))))) && ((Rate.check (Rate.take (Rate.new 3 10 100) 100 2) 119) == 0)) && ((Rate.when_ (Rate.take (Rate.new 3 10 100) 100 2) 105 3) == 120))) rfl) rfl rfl rfl ?_
  refine o_and (p := 82) 3 ((Rate.whenErr (Rate.take (Rate.new 3 10 100) 100 2) 105 3) == 0) ?_ ?_ ?_
  · intro hb11 hk
    simp only [Bool.and_eq_true, beq_iff_eq] at hb11
    refine o_unguard 79 rfl rfl ?_
    refine o_pure (p_move (v := .int .i64 (Rate.whenErr (Rate.take (Rate.new 3 10 100) 100 2) 105 3)) rfl) rfl rfl rfl ?_
    refine o_unguard 79 rfl rfl ?_
    refine o_pure (p_eq (p := (Rate.whenErr (Rate.take (Rate.new 3 10 100) 100 2) 105 3)) (q := 0) rfl rfl) rfl rfl rfl ?_
    refine o_pure (p_pick_true (u := .bool ((Rate.whenErr (Rate.take (Rate.new 3 10 100) 100 2) 105 3) == 0)) rfl rfl) rfl rfl rfl ?_
    exact o_sub (Sub.cons rfl (Sub.skip rfl (Sub.skip rfl (Sub.skip rfl (Sub.skip rfl (Sub.refl _)))))) hk
  · intro hb11 hk
    refine o_guard_no rfl 79 rfl rfl rfl rfl rfl ?_
    refine o_guard_no rfl 79 rfl rfl rfl rfl rfl ?_
    refine o_pure (p_pick_false (v := .bool false) rfl rfl) rfl rfl rfl ?_
    exact o_sub (Sub.cons rfl (Sub.skip rfl (Sub.skip rfl (Sub.skip rfl (Sub.skip rfl (Sub.refl _)))))) hk
  refine o_pure (p_move (v := .bool (((((((((Rate.check0 (Rate.full 3 10 100)) == 0) && (Rate.can (Rate.new 3 10 100) 100 2)) && ((Rate.err (Rate.new 3 10 100) 100 2) == 0)) && ((Rate.take (Rate.new 3 10 100) 100 2).has == 1)) && (((Rate.advance (Rate.take (Rate.new 3 10 100) 100 2) 119).most == 3) && (((Rate.advance (Rate.take (Rate.new 3 10 100) 100 2) 119).every == 10) && (((Rate.advance (Rate.take (Rate.new 3 10 100) 100 2) 119).has == 2) && ((Rate.advance (Rate.take (Rate.new 3 10 100) 100 2) 119).at_ == 110))))) && ((Rate.check (Rate.take (Rate.new 3 10 100) 100 2) 119) == 0)) && ((Rate.when_ (Rate.take (Rate.new 3 10 100) 100 2) 105 3) == 120)) && ((Rate.whenErr (Rate.take (Rate.new 3 10 100) 100 2) 105 3) == 0))) rfl) rfl rfl rfl ?_
  refine o_and (p := 86) 3 (!(Rate.can (Rate.take (Rate.new 3 10 100) 100 2) 109 2)) ?_ ?_ ?_
  · intro hb12 hk
    simp only [Bool.and_eq_true, beq_iff_eq] at hb12
    refine o_unguard 83 rfl rfl ?_
    refine o_pure (p_move (v := .bool (Rate.can (Rate.take (Rate.new 3 10 100) 100 2) 109 2)) rfl) rfl rfl rfl ?_
    refine o_unguard 83 rfl rfl ?_
    refine o_pure (p_not (b := (Rate.can (Rate.take (Rate.new 3 10 100) 100 2) 109 2)) rfl) rfl rfl rfl ?_
    refine o_pure (p_pick_true (u := .bool (!(Rate.can (Rate.take (Rate.new 3 10 100) 100 2) 109 2))) rfl rfl) rfl rfl rfl ?_
    exact o_sub (Sub.cons rfl (Sub.skip rfl (Sub.skip rfl (Sub.skip rfl (Sub.skip rfl (Sub.refl _)))))) hk
  · intro hb12 hk
    refine o_guard_no rfl 83 rfl rfl rfl rfl rfl ?_
    refine o_guard_no rfl 83 rfl rfl rfl rfl rfl ?_
    refine o_pure (p_pick_false (v := .bool false) rfl rfl) rfl rfl rfl ?_
    exact o_sub (Sub.cons rfl (Sub.skip rfl (Sub.skip rfl (Sub.skip rfl (Sub.skip rfl (Sub.refl _)))))) hk
  refine o_pure (p_move (v := .bool ((((((((((Rate.check0 (Rate.full 3 10 100)) == 0) && (Rate.can (Rate.new 3 10 100) 100 2)) && ((Rate.err (Rate.new 3 10 100) 100 2) == 0)) && ((Rate.take (Rate.new 3 10 100) 100 2).has == 1)) && (((Rate.advance (Rate.take (Rate.new 3 10 100) 100 2) 119).most == 3) && (((Rate.advance (Rate.take (Rate.new 3 10 100) 100 2) 119).every == 10) && (((Rate.advance (Rate.take (Rate.new 3 10 100) 100 2) 119).has == 2) && ((Rate.advance (Rate.take (Rate.new 3 10 100) 100 2) 119).at_ == 110))))) && ((Rate.check (Rate.take (Rate.new 3 10 100) 100 2) 119) == 0)) && ((Rate.when_ (Rate.take (Rate.new 3 10 100) 100 2) 105 3) == 120)) && ((Rate.whenErr (Rate.take (Rate.new 3 10 100) 100 2) 105 3) == 0)) && (!(Rate.can (Rate.take (Rate.new 3 10 100) 100 2) 109 2)))) rfl) rfl rfl rfl ?_
  refine o_and (p := 91) 4 (((Rate.take (Rate.take (Rate.new 3 10 100) 100 2) 109 2).most == 3) && (((Rate.take (Rate.take (Rate.new 3 10 100) 100 2) 109 2).every == 10) && (((Rate.take (Rate.take (Rate.new 3 10 100) 100 2) 109 2).has == 1) && ((Rate.take (Rate.take (Rate.new 3 10 100) 100 2) 109 2).at_ == 100)))) ?_ ?_ ?_
  · intro hb13 hk
    simp only [Bool.and_eq_true, beq_iff_eq, Bool.not_eq_true'] at hb13
    refine o_unguard 87 rfl rfl ?_
    refine o_pure (p_load_agg (i := 1) (vs := [.int .i64 ((Rate.take (Rate.take (Rate.new 3 10 100) 100 2) 109 2).most), .int .i64 ((Rate.take (Rate.take (Rate.new 3 10 100) 100 2) 109 2).every), .int .i64 ((Rate.take (Rate.take (Rate.new 3 10 100) 100 2) 109 2).has), .int .i64 ((Rate.take (Rate.take (Rate.new 3 10 100) 100 2) 109 2).at_)]) rfl rfl sh53 rfl rfl) rfl rfl rfl ?_
    refine o_unguard 87 rfl rfl ?_
    refine o_pure (p_build (cells := [.int .i64 3, .int .i64 10, .int .i64 1, .int .i64 100]) fp53 ze53 rfl rfl) rfl rfl rfl ?_
    refine o_unguard 87 rfl rfl ?_
    refine o_pure (p_eqStruct (xs := [.int .i64 ((Rate.take (Rate.take (Rate.new 3 10 100) 100 2) 109 2).most), .int .i64 ((Rate.take (Rate.take (Rate.new 3 10 100) 100 2) 109 2).every), .int .i64 ((Rate.take (Rate.take (Rate.new 3 10 100) 100 2) 109 2).has), .int .i64 ((Rate.take (Rate.take (Rate.new 3 10 100) 100 2) 109 2).at_)]) (ys := [.int .i64 3, .int .i64 10, .int .i64 1, .int .i64 100]) (r := (((Rate.take (Rate.take (Rate.new 3 10 100) 100 2) 109 2).most == 3) && (((Rate.take (Rate.take (Rate.new 3 10 100) 100 2) 109 2).every == 10) && (((Rate.take (Rate.take (Rate.new 3 10 100) 100 2) 109 2).has == 1) && ((Rate.take (Rate.take (Rate.new 3 10 100) 100 2) 109 2).at_ == 100))))) rfl rfl eqS53) rfl rfl rfl ?_
    refine o_pure (p_pick_true (u := .bool (((Rate.take (Rate.take (Rate.new 3 10 100) 100 2) 109 2).most == 3) && (((Rate.take (Rate.take (Rate.new 3 10 100) 100 2) 109 2).every == 10) && (((Rate.take (Rate.take (Rate.new 3 10 100) 100 2) 109 2).has == 1) && ((Rate.take (Rate.take (Rate.new 3 10 100) 100 2) 109 2).at_ == 100))))) rfl rfl) rfl rfl rfl ?_
    exact o_sub (Sub.cons rfl (Sub.skip rfl (Sub.skip rfl (Sub.skip rfl (Sub.skip rfl (Sub.skip rfl (Sub.refl _))))))) hk
  · intro hb13 hk
    refine o_guard_no rfl 87 rfl rfl rfl rfl rfl ?_
    refine o_guard_no rfl 87 rfl rfl rfl rfl rfl ?_
    refine o_guard_no rfl 87 rfl rfl rfl rfl rfl ?_
    refine o_pure (p_pick_false (v := .bool false) rfl rfl) rfl rfl rfl ?_
    exact o_sub (Sub.cons rfl (Sub.skip rfl (Sub.skip rfl (Sub.skip rfl (Sub.skip rfl (Sub.skip rfl (Sub.refl _))))))) hk
  refine o_pure (p_move (v := .bool (((((((((((Rate.check0 (Rate.full 3 10 100)) == 0) && (Rate.can (Rate.new 3 10 100) 100 2)) && ((Rate.err (Rate.new 3 10 100) 100 2) == 0)) && ((Rate.take (Rate.new 3 10 100) 100 2).has == 1)) && (((Rate.advance (Rate.take (Rate.new 3 10 100) 100 2) 119).most == 3) && (((Rate.advance (Rate.take (Rate.new 3 10 100) 100 2) 119).every == 10) && (((Rate.advance (Rate.take (Rate.new 3 10 100) 100 2) 119).has == 2) && ((Rate.advance (Rate.take (Rate.new 3 10 100) 100 2) 119).at_ == 110))))) && ((Rate.check (Rate.take (Rate.new 3 10 100) 100 2) 119) == 0)) && ((Rate.when_ (Rate.take (Rate.new 3 10 100) 100 2) 105 3) == 120)) && ((Rate.whenErr (Rate.take (Rate.new 3 10 100) 100 2) 105 3) == 0)) && (!(Rate.can (Rate.take (Rate.new 3 10 100) 100 2) 109 2))) && (((Rate.take (Rate.take (Rate.new 3 10 100) 100 2) 109 2).most == 3) && (((Rate.take (Rate.take (Rate.new 3 10 100) 100 2) 109 2).every == 10) && (((Rate.take (Rate.take (Rate.new 3 10 100) 100 2) 109 2).has == 1) && ((Rate.take (Rate.take (Rate.new 3 10 100) 100 2) 109 2).at_ == 100)))))) rfl) rfl rfl rfl ?_
  refine o_and (p := 95) 3 ((Rate.err (Rate.take (Rate.new 3 10 100) 100 2) 109 2) == 0) ?_ ?_ ?_
  · intro hb14 hk
    simp only [Bool.and_eq_true, beq_iff_eq, Bool.not_eq_true'] at hb14
    refine o_unguard 92 rfl rfl ?_
    refine o_pure (p_move (v := .int .i64 (Rate.err (Rate.take (Rate.new 3 10 100) 100 2) 109 2)) rfl) rfl rfl rfl ?_
    refine o_unguard 92 rfl rfl ?_
    refine o_pure (p_eq (p := (Rate.err (Rate.take (Rate.new 3 10 100) 100 2) 109 2)) (q := 0) rfl rfl) rfl rfl rfl ?_
    refine o_pure (p_pick_true (u := .bool ((Rate.err (Rate.take (Rate.new 3 10 100) 100 2) 109 2) == 0)) rfl rfl) rfl rfl rfl ?_
    exact o_sub (Sub.cons rfl (Sub.skip rfl (Sub.skip rfl (Sub.skip rfl (Sub.skip rfl (Sub.refl _)))))) hk
  · intro hb14 hk
    refine o_guard_no rfl 92 rfl rfl rfl rfl rfl ?_
    refine o_guard_no rfl 92 rfl rfl rfl rfl rfl ?_
    refine o_pure (p_pick_false (v := .bool false) rfl rfl) rfl rfl rfl ?_
    exact o_sub (Sub.cons rfl (Sub.skip rfl (Sub.skip rfl (Sub.skip rfl (Sub.skip rfl (Sub.refl _)))))) hk
  refine o_pure (p_move (v := .bool ((((((((((((Rate.check0 (Rate.full 3 10 100)) == 0) && (Rate.can (Rate.new 3 10 100) 100 2)) && ((Rate.err (Rate.new 3 10 100) 100 2) == 0)) && ((Rate.take (Rate.new 3 10 100) 100 2).has == 1)) && (((Rate.advance (Rate.take (Rate.new 3 10 100) 100 2) 119).most == 3) && (((Rate.advance (Rate.take (Rate.new 3 10 100) 100 2) 119).every == 10) && (((Rate.advance (Rate.take (Rate.new 3 10 100) 100 2) 119).has == 2) && ((Rate.advance (Rate.take (Rate.new 3 10 100) 100 2) 119).at_ == 110))))) && ((Rate.check (Rate.take (Rate.new 3 10 100) 100 2) 119) == 0)) && ((Rate.when_ (Rate.take (Rate.new 3 10 100) 100 2) 105 3) == 120)) && ((Rate.whenErr (Rate.take (Rate.new 3 10 100) 100 2) 105 3) == 0)) && (!(Rate.can (Rate.take (Rate.new 3 10 100) 100 2) 109 2))) && (((Rate.take (Rate.take (Rate.new 3 10 100) 100 2) 109 2).most == 3) && (((Rate.take (Rate.take (Rate.new 3 10 100) 100 2) 109 2).every == 10) && (((Rate.take (Rate.take (Rate.new 3 10 100) 100 2) 109 2).has == 1) && ((Rate.take (Rate.take (Rate.new 3 10 100) 100 2) 109 2).at_ == 100))))) && ((Rate.err (Rate.take (Rate.new 3 10 100) 100 2) 109 2) == 0))) rfl) rfl rfl rfl ?_
  refine o_and (p := 99) 3 ((Rate.whenErr (Rate.take (Rate.new 3 10 100) 100 2) 105 4) == 5) ?_ ?_ ?_
  · intro hb15 hk
    simp only [Bool.and_eq_true, beq_iff_eq, Bool.not_eq_true'] at hb15
    refine o_unguard 96 rfl rfl ?_
    refine o_pure (p_move (v := .int .i64 (Rate.whenErr (Rate.take (Rate.new 3 10 100) 100 2) 105 4)) rfl) rfl rfl rfl ?_
    refine o_unguard 96 rfl rfl ?_
    refine o_pure (p_eq (p := (Rate.whenErr (Rate.take (Rate.new 3 10 100) 100 2) 105 4)) (q := 5) rfl rfl) rfl rfl rfl ?_
    refine o_pure (p_pick_true (u := .bool ((Rate.whenErr (Rate.take (Rate.new 3 10 100) 100 2) 105 4) == 5)) rfl rfl) rfl rfl rfl ?_
    exact o_sub (Sub.cons rfl (Sub.skip rfl (Sub.skip rfl (Sub.skip rfl (Sub.skip rfl (Sub.refl _)))))) hk
  · intro hb15 hk
    refine o_guard_no rfl 96 rfl rfl rfl rfl rfl ?_
    refine o_guard_no rfl 96 rfl rfl rfl rfl rfl ?_
    refine o_pure (p_pick_false (v := .bool false) rfl rfl) rfl rfl rfl ?_
    exact o_sub (Sub.cons rfl (Sub.skip rfl (Sub.skip rfl (Sub.skip rfl (Sub.skip rfl (Sub.refl _)))))) hk
  refine o_pure (p_move (v := .bool (((((((((((((Rate.check0 (Rate.full 3 10 100)) == 0) && (Rate.can (Rate.new 3 10 100) 100 2)) && ((Rate.err (Rate.new 3 10 100) 100 2) == 0)) && ((Rate.take (Rate.new 3 10 100) 100 2).has == 1)) && (((Rate.advance (Rate.take (Rate.new 3 10 100) 100 2) 119).most == 3) && (((Rate.advance (Rate.take (Rate.new 3 10 100) 100 2) 119).every == 10) && (((Rate.advance (Rate.take (Rate.new 3 10 100) 100 2) 119).has == 2) && ((Rate.advance (Rate.take (Rate.new 3 10 100) 100 2) 119).at_ == 110))))) && ((Rate.check (Rate.take (Rate.new 3 10 100) 100 2) 119) == 0)) && ((Rate.when_ (Rate.take (Rate.new 3 10 100) 100 2) 105 3) == 120)) && ((Rate.whenErr (Rate.take (Rate.new 3 10 100) 100 2) 105 3) == 0)) && (!(Rate.can (Rate.take (Rate.new 3 10 100) 100 2) 109 2))) && (((Rate.take (Rate.take (Rate.new 3 10 100) 100 2) 109 2).most == 3) && (((Rate.take (Rate.take (Rate.new 3 10 100) 100 2) 109 2).every == 10) && (((Rate.take (Rate.take (Rate.new 3 10 100) 100 2) 109 2).has == 1) && ((Rate.take (Rate.take (Rate.new 3 10 100) 100 2) 109 2).at_ == 100))))) && ((Rate.err (Rate.take (Rate.new 3 10 100) 100 2) 109 2) == 0)) && ((Rate.whenErr (Rate.take (Rate.new 3 10 100) 100 2) 105 4) == 5))) rfl) rfl rfl rfl ?_
  refine o_and (p := 103) 3 ((Rate.check (Rate.take (Rate.new 3 10 100) 100 2) 99) == 4) ?_ ?_ ?_
  · intro hb16 hk
    simp only [Bool.and_eq_true, beq_iff_eq, Bool.not_eq_true'] at hb16
    refine o_unguard 100 rfl rfl ?_
    refine o_pure (p_move (v := .int .i64 (Rate.check (Rate.take (Rate.new 3 10 100) 100 2) 99)) rfl) rfl rfl rfl ?_
    refine o_unguard 100 rfl rfl ?_
    refine o_pure (p_eq (p := (Rate.check (Rate.take (Rate.new 3 10 100) 100 2) 99)) (q := 4) rfl rfl) rfl rfl rfl ?_
    refine o_pure (p_pick_true (u := .bool ((Rate.check (Rate.take (Rate.new 3 10 100) 100 2) 99) == 4)) rfl rfl) rfl rfl rfl ?_
    exact o_sub (Sub.cons rfl (Sub.skip rfl (Sub.skip rfl (Sub.skip rfl (Sub.skip rfl (Sub.refl _)))))) hk
  · intro hb16 hk
    refine o_guard_no rfl 100 rfl rfl rfl rfl rfl ?_
    refine o_guard_no rfl 100 rfl rfl rfl rfl rfl ?_
    refine o_pure (p_pick_false (v := .bool false) rfl rfl) rfl rfl rfl ?_
    exact o_sub (Sub.cons rfl (Sub.skip rfl (Sub.skip rfl (Sub.skip rfl (Sub.skip rfl (Sub.refl _)))))) hk
  refine o_pure (p_move (v := .bool ((((((((((((((Rate.check0 (Rate.full 3 10 100)) == 0) && (Rate.can (Rate.new 3 10 100) 100 2)) && ((Rate.err (Rate.new 3 10 100) 100 2) == 0)) && ((Rate.take (Rate.new 3 10 100) 100 2).has == 1)) && (((Rate.advance (Rate.take (Rate.new 3 10 100) 100 2) 119).most == 3) && (((Rate.advance (Rate.take (Rate.new 3 10 100) 100 2) 119).every == 10) && (((Rate.advance (Rate.take (Rate.new 3 10 100) 100 2) 119).has == 2) && ((Rate.advance (Rate.take (Rate.new 3 10 100) 100 2) 119).at_ == 110))))) && ((Rate.check (Rate.take (Rate.new 3 10 100) 100 2) 119) == 0)) && ((Rate.when_ (Rate.take (Rate.new 3 10 100) 100 2) 105 3) == 120)) && ((Rate.whenErr (Rate.take (Rate.new 3 10 100) 100 2) 105 3) == 0)) && (!(Rate.can (Rate.take (Rate.new 3 10 100) 100 2) 109 2))) && (((Rate.take (Rate.take (Rate.new 3 10 100) 100 2) 109 2).most == 3) && (((Rate.take (Rate.take (Rate.new 3 10 100) 100 2) 109 2).every == 10) && (((Rate.take (Rate.take (Rate.new 3 10 100) 100 2) 109 2).has == 1) && ((Rate.take (Rate.take (Rate.new 3 10 100) 100 2) 109 2).at_ == 100))))) && ((Rate.err (Rate.take (Rate.new 3 10 100) 100 2) 109 2) == 0)) && ((Rate.whenErr (Rate.take (Rate.new 3 10 100) 100 2) 105 4) == 5)) && ((Rate.check (Rate.take (Rate.new 3 10 100) 100 2) 99) == 4))) rfl) rfl rfl rfl ?_
  refine o_and (p := 108) 4 ((Rate.check0 (⟨0, 0, 0, 0⟩ : DBucket)) == 3) ?_ ?_ ?_
  · intro hb17 hk
    simp only [Bool.and_eq_true, beq_iff_eq, Bool.not_eq_true'] at hb17
    refine o_unguard 104 rfl rfl ?_
    refine o_pure (p_build (cells := [.int .i64 0, .int .i64 0, .int .i64 0, .int .i64 0]) fp53 ze53 rfl rfl) rfl rfl rfl ?_
    refine o_unguard 104 rfl rfl ?_
    refine o_call0 (v := .int .i64 (Rate.check0 (⟨0, 0, 0, 0⟩ : DBucket))) rfl (check0_ok (⟨0, 0, 0, 0⟩ : DBucket)) hf41 (fun _ _ => trivial) rfl ?_
    refine o_unguard 104 rfl rfl ?_
    refine o_pure (p_eq (p := (Rate.check0 (⟨0, 0, 0, 0⟩ : DBucket))) (q := 3) rfl rfl) rfl rfl rfl ?_
    refine o_pure (p_pick_true (u := .bool ((Rate.check0 (⟨0, 0, 0, 0⟩ : DBucket)) == 3)) rfl rfl) rfl rfl rfl ?_
    exact o_sub (Sub.cons rfl (Sub.skip rfl (Sub.skip rfl (Sub.skip rfl (Sub.skip rfl (Sub.skip rfl (Sub.refl _))))))) hk
  · intro hb17 hk
    refine o_guard_no rfl 104 rfl rfl rfl rfl rfl ?_
    refine o_guard_no rfl 104 rfl rfl rfl rfl rfl ?_
    refine o_guard_no rfl 104 rfl rfl rfl rfl rfl ?_
    refine o_pure (p_pick_false (v := .bool false) rfl rfl) rfl rfl rfl ?_
    exact o_sub (Sub.cons rfl (Sub.skip rfl (Sub.skip rfl (Sub.skip rfl (Sub.skip rfl (Sub.skip rfl (Sub.refl _))))))) hk
  refine o_pure (p_assign (v := .bool (((((((((((((((Rate.check0 (Rate.full 3 10 100)) == 0) && (Rate.can (Rate.new 3 10 100) 100 2)) && ((Rate.err (Rate.new 3 10 100) 100 2) == 0)) && ((Rate.take (Rate.new 3 10 100) 100 2).has == 1)) && (((Rate.advance (Rate.take (Rate.new 3 10 100) 100 2) 119).most == 3) && (((Rate.advance (Rate.take (Rate.new 3 10 100) 100 2) 119).every == 10) && (((Rate.advance (Rate.take (Rate.new 3 10 100) 100 2) 119).has == 2) && ((Rate.advance (Rate.take (Rate.new 3 10 100) 100 2) 119).at_ == 110))))) && ((Rate.check (Rate.take (Rate.new 3 10 100) 100 2) 119) == 0)) && ((Rate.when_ (Rate.take (Rate.new 3 10 100) 100 2) 105 3) == 120)) && ((Rate.whenErr (Rate.take (Rate.new 3 10 100) 100 2) 105 3) == 0)) && (!(Rate.can (Rate.take (Rate.new 3 10 100) 100 2) 109 2))) && (((Rate.take (Rate.take (Rate.new 3 10 100) 100 2) 109 2).most == 3) && (((Rate.take (Rate.take (Rate.new 3 10 100) 100 2) 109 2).every == 10) && (((Rate.take (Rate.take (Rate.new 3 10 100) 100 2) 109 2).has == 1) && ((Rate.take (Rate.take (Rate.new 3 10 100) 100 2) 109 2).at_ == 100))))) && ((Rate.err (Rate.take (Rate.new 3 10 100) 100 2) 109 2) == 0)) && ((Rate.whenErr (Rate.take (Rate.new 3 10 100) 100 2) 105 4) == 5)) && ((Rate.check (Rate.take (Rate.new 3 10 100) 100 2) 99) == 4)) && ((Rate.check0 (⟨0, 0, 0, 0⟩ : DBucket)) == 3))) rfl) rfl rfl rfl ?_
  refine o_nil ?_
  refine q_then ?_
  refine c_ret ?_
  refine q_end0 (v := .bool (((((((((((((((Rate.check0 (Rate.full 3 10 100)) == 0) && (Rate.can (Rate.new 3 10 100) 100 2)) && ((Rate.err (Rate.new 3 10 100) 100 2) == 0)) && ((Rate.take (Rate.new 3 10 100) 100 2).has == 1)) && (((Rate.advance (Rate.take (Rate.new 3 10 100) 100 2) 119).most == 3) && (((Rate.advance (Rate.take (Rate.new 3 10 100) 100 2) 119).every == 10) && (((Rate.advance (Rate.take (Rate.new 3 10 100) 100 2) 119).has == 2) && ((Rate.advance (Rate.take (Rate.new 3 10 100) 100 2) 119).at_ == 110))))) && ((Rate.check (Rate.take (Rate.new 3 10 100) 100 2) 119) == 0)) && ((Rate.when_ (Rate.take (Rate.new 3 10 100) 100 2) 105 3) == 120)) && ((Rate.whenErr (Rate.take (Rate.new 3 10 100) 100 2) 105 3) == 0)) && (!(Rate.can (Rate.take (Rate.new 3 10 100) 100 2) 109 2))) && (((Rate.take (Rate.take (Rate.new 3 10 100) 100 2) 109 2).most == 3) && (((Rate.take (Rate.take (Rate.new 3 10 100) 100 2) 109 2).every == 10) && (((Rate.take (Rate.take (Rate.new 3 10 100) 100 2) 109 2).has == 1) && ((Rate.take (Rate.take (Rate.new 3 10 100) 100 2) 109 2).at_ == 100))))) && ((Rate.err (Rate.take (Rate.new 3 10 100) 100 2) 109 2) == 0)) && ((Rate.whenErr (Rate.take (Rate.new 3 10 100) 100 2) 105 4) == 5)) && ((Rate.check (Rate.take (Rate.new 3 10 100) 100 2) 99) == 4)) && ((Rate.check0 (⟨0, 0, 0, 0⟩ : DBucket)) == 3))) (rt1 rfl (r_tmp rfl)) (i := 4) rfl ?_
  first | rfl | decide +kernel
end Go.Proofs.Ythbfdhphnofacaa
