/- The walks, printed by a program from the translation and a specification. -/
import Derived.Test.YtkndekkacimekaaExF
import Derived.Test.YtkndekkacimekaaExLaw2
import Derived.Test.YtkndekkacimekaaExW7
import Derived.Test.YtkndekkacimekaaExW8
import Derived.Test.YtkndekkacimekaaExW12
import Derived.Test.YtkndekkacimekaaExW2
namespace Go.Proofs.Ytkndekkacimekaa
open Go.Sx Go.RowKit
set_option maxHeartbeats 8000000 in
set_option maxRecDepth 100000 in
theorem expireBegun_ok  : Fn0 Try.prog 24 [] (fun _ => True) (.bool true) := by
  refine fn0 (nt := 102) (F0 := []) Try.func24 rfl Try.ntmps24 rfl rfl (fun w0 hpre => ?_)
  refine c_seq ?_
  refine c_region ?_
  refine o_pure (p_assign (v := .bool false) rfl) rfl rfl rfl ?_
  refine o_nil ?_
  refine q_then ?_
  refine c_seq ?_
  refine c_region ?_
  refine o_pure (p_build (cells := [.int .i64 10, .slice none 0 0]) fp24 ze24 rfl rfl) rfl rfl rfl ?_
  refine o_callM rfl (eput_ok (⟨10, []⟩ : DStore) none 0 (7 : Int) (70 : Int) (100 : Int)) hf15 (fun w hw => rd_nil w hw) rfl (fun _ _ _ _ ha hA => SlO.agree ha hA) ?_
  rintro ⟨a3, c4⟩ S1
  refine o_know (fun w hw => own_len (i := 0) (T := tEntry) hw rfl) (fun hlr5 => ?_)
  refine o_pure (p_move (v := .tuple #[.agg #[.int .i64 ((Exp.put (⟨10, []⟩ : DStore) (7 : Int) (70 : Int) (100 : Int)).life), .slice a3 ((Exp.put (⟨10, []⟩ : DStore) (7 : Int) (70 : Int) (100 : Int)).entries).length c4], .int .i64 (Exp.putErr (⟨10, []⟩ : DStore) (7 : Int) (70 : Int) (100 : Int))]) rfl) rfl rfl rfl ?_
  refine o_pure (p_extract (vs := [.agg #[.int .i64 ((Exp.put (⟨10, []⟩ : DStore) (7 : Int) (70 : Int) (100 : Int)).life), .slice a3 ((Exp.put (⟨10, []⟩ : DStore) (7 : Int) (70 : Int) (100 : Int)).entries).length c4], .int .i64 (Exp.putErr (⟨10, []⟩ : DStore) (7 : Int) (70 : Int) (100 : Int))]) (v := .agg #[.int .i64 ((Exp.put (⟨10, []⟩ : DStore) (7 : Int) (70 : Int) (100 : Int)).life), .slice a3 ((Exp.put (⟨10, []⟩ : DStore) (7 : Int) (70 : Int) (100 : Int)).entries).length c4]) rfl rfl) rfl rfl rfl ?_
  refine o_pure (p_extract (vs := [.agg #[.int .i64 ((Exp.put (⟨10, []⟩ : DStore) (7 : Int) (70 : Int) (100 : Int)).life), .slice a3 ((Exp.put (⟨10, []⟩ : DStore) (7 : Int) (70 : Int) (100 : Int)).entries).length c4], .int .i64 (Exp.putErr (⟨10, []⟩ : DStore) (7 : Int) (70 : Int) (100 : Int))]) (v := .int .i64 (Exp.putErr (⟨10, []⟩ : DStore) (7 : Int) (70 : Int) (100 : Int))) rfl rfl) rfl rfl rfl ?_
  refine o_alloc ze24 rfl (fun B6 => ?_)
  refine o_storeN (i := 0) (vs := [.int .i64 ((Exp.put (⟨10, []⟩ : DStore) (7 : Int) (70 : Int) (100 : Int)).life), .slice a3 ((Exp.put (⟨10, []⟩ : DStore) (7 : Int) (70 : Int) (100 : Int)).entries).length c4]) (cs' := [.int .i64 ((Exp.put (⟨10, []⟩ : DStore) (7 : Int) (70 : Int) (100 : Int)).life), .slice a3 ((Exp.put (⟨10, []⟩ : DStore) (7 : Int) (70 : Int) (100 : Int)).entries).length c4]) rfl rfl rfl sz24 rfl rfl rfl rfl ?_
  refine o_pure (p_assign (v := .int .i64 (Exp.putErr (⟨10, []⟩ : DStore) (7 : Int) (70 : Int) (100 : Int))) rfl) rfl rfl rfl ?_
  refine o_nil ?_
  refine q_then ?_
  refine c_seq ?_
  refine c_region ?_
  refine o_pure (p_load_agg (i := 0) (vs := [.int .i64 ((Exp.put (⟨10, []⟩ : DStore) (7 : Int) (70 : Int) (100 : Int)).life), .slice a3 ((Exp.put (⟨10, []⟩ : DStore) (7 : Int) (70 : Int) (100 : Int)).entries).length c4]) rfl rfl sh24 rfl rfl) rfl rfl rfl ?_
  refine o_callM rfl (eput_ok (Exp.put (⟨10, []⟩ : DStore) (7 : Int) (70 : Int) (100 : Int)) a3 c4 (3 : Int) (30 : Int) (105 : Int)) hf15 (fun w hw => (rd_own (i := 1) rfl) w hw) rfl (fun _ _ _ _ ha hA => SlO.agree ha hA) ?_
  rintro ⟨a9, c10⟩ S7
  refine o_know (fun w hw => own_len (i := 0) (T := tEntry) hw rfl) (fun hlr11 => ?_)
  refine o_pure (p_move (v := .tuple #[.agg #[.int .i64 ((Exp.put (Exp.put (⟨10, []⟩ : DStore) (7 : Int) (70 : Int) (100 : Int)) (3 : Int) (30 : Int) (105 : Int)).life), .slice a9 ((Exp.put (Exp.put (⟨10, []⟩ : DStore) (7 : Int) (70 : Int) (100 : Int)) (3 : Int) (30 : Int) (105 : Int)).entries).length c10], .int .i64 (Exp.putErr (Exp.put (⟨10, []⟩ : DStore) (7 : Int) (70 : Int) (100 : Int)) (3 : Int) (30 : Int) (105 : Int))]) rfl) rfl rfl rfl ?_
  refine o_pure (p_extract (vs := [.agg #[.int .i64 ((Exp.put (Exp.put (⟨10, []⟩ : DStore) (7 : Int) (70 : Int) (100 : Int)) (3 : Int) (30 : Int) (105 : Int)).life), .slice a9 ((Exp.put (Exp.put (⟨10, []⟩ : DStore) (7 : Int) (70 : Int) (100 : Int)) (3 : Int) (30 : Int) (105 : Int)).entries).length c10], .int .i64 (Exp.putErr (Exp.put (⟨10, []⟩ : DStore) (7 : Int) (70 : Int) (100 : Int)) (3 : Int) (30 : Int) (105 : Int))]) (v := .agg #[.int .i64 ((Exp.put (Exp.put (⟨10, []⟩ : DStore) (7 : Int) (70 : Int) (100 : Int)) (3 : Int) (30 : Int) (105 : Int)).life), .slice a9 ((Exp.put (Exp.put (⟨10, []⟩ : DStore) (7 : Int) (70 : Int) (100 : Int)) (3 : Int) (30 : Int) (105 : Int)).entries).length c10]) rfl rfl) rfl rfl rfl ?_
  refine o_pure (p_extract (vs := [.agg #[.int .i64 ((Exp.put (Exp.put (⟨10, []⟩ : DStore) (7 : Int) (70 : Int) (100 : Int)) (3 : Int) (30 : Int) (105 : Int)).life), .slice a9 ((Exp.put (Exp.put (⟨10, []⟩ : DStore) (7 : Int) (70 : Int) (100 : Int)) (3 : Int) (30 : Int) (105 : Int)).entries).length c10], .int .i64 (Exp.putErr (Exp.put (⟨10, []⟩ : DStore) (7 : Int) (70 : Int) (100 : Int)) (3 : Int) (30 : Int) (105 : Int))]) (v := .int .i64 (Exp.putErr (Exp.put (⟨10, []⟩ : DStore) (7 : Int) (70 : Int) (100 : Int)) (3 : Int) (30 : Int) (105 : Int))) rfl rfl) rfl rfl rfl ?_
  refine o_storeN (i := 1) (vs := [.int .i64 ((Exp.put (Exp.put (⟨10, []⟩ : DStore) (7 : Int) (70 : Int) (100 : Int)) (3 : Int) (30 : Int) (105 : Int)).life), .slice a9 ((Exp.put (Exp.put (⟨10, []⟩ : DStore) (7 : Int) (70 : Int) (100 : Int)) (3 : Int) (30 : Int) (105 : Int)).entries).length c10]) (cs' := [.int .i64 ((Exp.put (Exp.put (⟨10, []⟩ : DStore) (7 : Int) (70 : Int) (100 : Int)) (3 : Int) (30 : Int) (105 : Int)).life), .slice a9 ((Exp.put (Exp.put (⟨10, []⟩ : DStore) (7 : Int) (70 : Int) (100 : Int)) (3 : Int) (30 : Int) (105 : Int)).entries).length c10]) rfl rfl rfl sz24 rfl rfl rfl rfl ?_
  refine o_pure (p_assign (v := .int .i64 (Exp.putErr (Exp.put (⟨10, []⟩ : DStore) (7 : Int) (70 : Int) (100 : Int)) (3 : Int) (30 : Int) (105 : Int))) rfl) rfl rfl rfl ?_
  refine o_nil ?_
  refine q_then ?_
  refine c_seq ?_
  refine c_region ?_
  refine o_pure (p_load_agg (i := 1) (vs := [.int .i64 ((Exp.put (Exp.put (⟨10, []⟩ : DStore) (7 : Int) (70 : Int) (100 : Int)) (3 : Int) (30 : Int) (105 : Int)).life), .slice a9 ((Exp.put (Exp.put (⟨10, []⟩ : DStore) (7 : Int) (70 : Int) (100 : Int)) (3 : Int) (30 : Int) (105 : Int)).entries).length c10]) rfl rfl sh24 rfl rfl) rfl rfl rfl ?_
  refine o_call0 (v := .tuple #[.int .i64 ((Exp.get (Exp.put (Exp.put (⟨10, []⟩ : DStore) (7 : Int) (70 : Int) (100 : Int)) (3 : Int) (30 : Int) (105 : Int)) (7 : Int) (109 : Int)).1), .bool ((Exp.get (Exp.put (Exp.put (⟨10, []⟩ : DStore) (7 : Int) (70 : Int) (100 : Int)) (3 : Int) (30 : Int) (105 : Int)) (7 : Int) (109 : Int)).2), .int .i64 (Exp.getErr (Exp.put (Exp.put (⟨10, []⟩ : DStore) (7 : Int) (70 : Int) (100 : Int)) (3 : Int) (30 : Int) (105 : Int)) (7 : Int) (109 : Int))]) rfl (eget_ok (Exp.put (Exp.put (⟨10, []⟩ : DStore) (7 : Int) (70 : Int) (100 : Int)) (3 : Int) (30 : Int) (105 : Int)) a9 c10 (7 : Int) (109 : Int)) hf16 (fun w hw => (rd_own (i := 0) rfl) w hw) rfl ?_
  refine o_pure (p_move (v := .tuple #[.int .i64 ((Exp.get (Exp.put (Exp.put (⟨10, []⟩ : DStore) (7 : Int) (70 : Int) (100 : Int)) (3 : Int) (30 : Int) (105 : Int)) (7 : Int) (109 : Int)).1), .bool ((Exp.get (Exp.put (Exp.put (⟨10, []⟩ : DStore) (7 : Int) (70 : Int) (100 : Int)) (3 : Int) (30 : Int) (105 : Int)) (7 : Int) (109 : Int)).2), .int .i64 (Exp.getErr (Exp.put (Exp.put (⟨10, []⟩ : DStore) (7 : Int) (70 : Int) (100 : Int)) (3 : Int) (30 : Int) (105 : Int)) (7 : Int) (109 : Int))]) rfl) rfl rfl rfl ?_
  refine o_pure (p_extract (vs := [.int .i64 ((Exp.get (Exp.put (Exp.put (⟨10, []⟩ : DStore) (7 : Int) (70 : Int) (100 : Int)) (3 : Int) (30 : Int) (105 : Int)) (7 : Int) (109 : Int)).1), .bool ((Exp.get (Exp.put (Exp.put (⟨10, []⟩ : DStore) (7 : Int) (70 : Int) (100 : Int)) (3 : Int) (30 : Int) (105 : Int)) (7 : Int) (109 : Int)).2), .int .i64 (Exp.getErr (Exp.put (Exp.put (⟨10, []⟩ : DStore) (7 : Int) (70 : Int) (100 : Int)) (3 : Int) (30 : Int) (105 : Int)) (7 : Int) (109 : Int))]) (v := .int .i64 ((Exp.get (Exp.put (Exp.put (⟨10, []⟩ : DStore) (7 : Int) (70 : Int) (100 : Int)) (3 : Int) (30 : Int) (105 : Int)) (7 : Int) (109 : Int)).1)) rfl rfl) rfl rfl rfl ?_
  refine o_pure (p_extract (vs := [.int .i64 ((Exp.get (Exp.put (Exp.put (⟨10, []⟩ : DStore) (7 : Int) (70 : Int) (100 : Int)) (3 : Int) (30 : Int) (105 : Int)) (7 : Int) (109 : Int)).1), .bool ((Exp.get (Exp.put (Exp.put (⟨10, []⟩ : DStore) (7 : Int) (70 : Int) (100 : Int)) (3 : Int) (30 : Int) (105 : Int)) (7 : Int) (109 : Int)).2), .int .i64 (Exp.getErr (Exp.put (Exp.put (⟨10, []⟩ : DStore) (7 : Int) (70 : Int) (100 : Int)) (3 : Int) (30 : Int) (105 : Int)) (7 : Int) (109 : Int))]) (v := .bool ((Exp.get (Exp.put (Exp.put (⟨10, []⟩ : DStore) (7 : Int) (70 : Int) (100 : Int)) (3 : Int) (30 : Int) (105 : Int)) (7 : Int) (109 : Int)).2)) rfl rfl) rfl rfl rfl ?_
  refine o_pure (p_extract (vs := [.int .i64 ((Exp.get (Exp.put (Exp.put (⟨10, []⟩ : DStore) (7 : Int) (70 : Int) (100 : Int)) (3 : Int) (30 : Int) (105 : Int)) (7 : Int) (109 : Int)).1), .bool ((Exp.get (Exp.put (Exp.put (⟨10, []⟩ : DStore) (7 : Int) (70 : Int) (100 : Int)) (3 : Int) (30 : Int) (105 : Int)) (7 : Int) (109 : Int)).2), .int .i64 (Exp.getErr (Exp.put (Exp.put (⟨10, []⟩ : DStore) (7 : Int) (70 : Int) (100 : Int)) (3 : Int) (30 : Int) (105 : Int)) (7 : Int) (109 : Int))]) (v := .int .i64 (Exp.getErr (Exp.put (Exp.put (⟨10, []⟩ : DStore) (7 : Int) (70 : Int) (100 : Int)) (3 : Int) (30 : Int) (105 : Int)) (7 : Int) (109 : Int))) rfl rfl) rfl rfl rfl ?_
  refine o_pure (p_assign (v := .int .i64 ((Exp.get (Exp.put (Exp.put (⟨10, []⟩ : DStore) (7 : Int) (70 : Int) (100 : Int)) (3 : Int) (30 : Int) (105 : Int)) (7 : Int) (109 : Int)).1)) rfl) rfl rfl rfl ?_
  refine o_pure (p_assign (v := .bool ((Exp.get (Exp.put (Exp.put (⟨10, []⟩ : DStore) (7 : Int) (70 : Int) (100 : Int)) (3 : Int) (30 : Int) (105 : Int)) (7 : Int) (109 : Int)).2)) rfl) rfl rfl rfl ?_
  refine o_pure (p_assign (v := .int .i64 (Exp.getErr (Exp.put (Exp.put (⟨10, []⟩ : DStore) (7 : Int) (70 : Int) (100 : Int)) (3 : Int) (30 : Int) (105 : Int)) (7 : Int) (109 : Int))) rfl) rfl rfl rfl ?_
  refine o_nil ?_
  refine q_then ?_
  refine c_seq ?_
  refine c_region ?_
  refine o_pure (p_load_agg (i := 1) (vs := [.int .i64 ((Exp.put (Exp.put (⟨10, []⟩ : DStore) (7 : Int) (70 : Int) (100 : Int)) (3 : Int) (30 : Int) (105 : Int)).life), .slice a9 ((Exp.put (Exp.put (⟨10, []⟩ : DStore) (7 : Int) (70 : Int) (100 : Int)) (3 : Int) (30 : Int) (105 : Int)).entries).length c10]) rfl rfl sh24 rfl rfl) rfl rfl rfl ?_
  refine o_call0 (v := .tuple #[.int .i64 ((Exp.get (Exp.put (Exp.put (⟨10, []⟩ : DStore) (7 : Int) (70 : Int) (100 : Int)) (3 : Int) (30 : Int) (105 : Int)) (7 : Int) (110 : Int)).1), .bool ((Exp.get (Exp.put (Exp.put (⟨10, []⟩ : DStore) (7 : Int) (70 : Int) (100 : Int)) (3 : Int) (30 : Int) (105 : Int)) (7 : Int) (110 : Int)).2), .int .i64 (Exp.getErr (Exp.put (Exp.put (⟨10, []⟩ : DStore) (7 : Int) (70 : Int) (100 : Int)) (3 : Int) (30 : Int) (105 : Int)) (7 : Int) (110 : Int))]) rfl (eget_ok (Exp.put (Exp.put (⟨10, []⟩ : DStore) (7 : Int) (70 : Int) (100 : Int)) (3 : Int) (30 : Int) (105 : Int)) a9 c10 (7 : Int) (110 : Int)) hf16 (fun w hw => (rd_own (i := 0) rfl) w hw) rfl ?_
  refine o_pure (p_move (v := .tuple #[.int .i64 ((Exp.get (Exp.put (Exp.put (⟨10, []⟩ : DStore) (7 : Int) (70 : Int) (100 : Int)) (3 : Int) (30 : Int) (105 : Int)) (7 : Int) (110 : Int)).1), .bool ((Exp.get (Exp.put (Exp.put (⟨10, []⟩ : DStore) (7 : Int) (70 : Int) (100 : Int)) (3 : Int) (30 : Int) (105 : Int)) (7 : Int) (110 : Int)).2), .int .i64 (Exp.getErr (Exp.put (Exp.put (⟨10, []⟩ : DStore) (7 : Int) (70 : Int) (100 : Int)) (3 : Int) (30 : Int) (105 : Int)) (7 : Int) (110 : Int))]) rfl) rfl rfl rfl ?_
  refine o_pure (p_extract (vs := [.int .i64 ((Exp.get (Exp.put (Exp.put (⟨10, []⟩ : DStore) (7 : Int) (70 : Int) (100 : Int)) (3 : Int) (30 : Int) (105 : Int)) (7 : Int) (110 : Int)).1), .bool ((Exp.get (Exp.put (Exp.put (⟨10, []⟩ : DStore) (7 : Int) (70 : Int) (100 : Int)) (3 : Int) (30 : Int) (105 : Int)) (7 : Int) (110 : Int)).2), .int .i64 (Exp.getErr (Exp.put (Exp.put (⟨10, []⟩ : DStore) (7 : Int) (70 : Int) (100 : Int)) (3 : Int) (30 : Int) (105 : Int)) (7 : Int) (110 : Int))]) (v := .int .i64 ((Exp.get (Exp.put (Exp.put (⟨10, []⟩ : DStore) (7 : Int) (70 : Int) (100 : Int)) (3 : Int) (30 : Int) (105 : Int)) (7 : Int) (110 : Int)).1)) rfl rfl) rfl rfl rfl ?_
  refine o_pure (p_extract (vs := [.int .i64 ((Exp.get (Exp.put (Exp.put (⟨10, []⟩ : DStore) (7 : Int) (70 : Int) (100 : Int)) (3 : Int) (30 : Int) (105 : Int)) (7 : Int) (110 : Int)).1), .bool ((Exp.get (Exp.put (Exp.put (⟨10, []⟩ : DStore) (7 : Int) (70 : Int) (100 : Int)) (3 : Int) (30 : Int) (105 : Int)) (7 : Int) (110 : Int)).2), .int .i64 (Exp.getErr (Exp.put (Exp.put (⟨10, []⟩ : DStore) (7 : Int) (70 : Int) (100 : Int)) (3 : Int) (30 : Int) (105 : Int)) (7 : Int) (110 : Int))]) (v := .bool ((Exp.get (Exp.put (Exp.put (⟨10, []⟩ : DStore) (7 : Int) (70 : Int) (100 : Int)) (3 : Int) (30 : Int) (105 : Int)) (7 : Int) (110 : Int)).2)) rfl rfl) rfl rfl rfl ?_
  refine o_pure (p_extract (vs := [.int .i64 ((Exp.get (Exp.put (Exp.put (⟨10, []⟩ : DStore) (7 : Int) (70 : Int) (100 : Int)) (3 : Int) (30 : Int) (105 : Int)) (7 : Int) (110 : Int)).1), .bool ((Exp.get (Exp.put (Exp.put (⟨10, []⟩ : DStore) (7 : Int) (70 : Int) (100 : Int)) (3 : Int) (30 : Int) (105 : Int)) (7 : Int) (110 : Int)).2), .int .i64 (Exp.getErr (Exp.put (Exp.put (⟨10, []⟩ : DStore) (7 : Int) (70 : Int) (100 : Int)) (3 : Int) (30 : Int) (105 : Int)) (7 : Int) (110 : Int))]) (v := .int .i64 (Exp.getErr (Exp.put (Exp.put (⟨10, []⟩ : DStore) (7 : Int) (70 : Int) (100 : Int)) (3 : Int) (30 : Int) (105 : Int)) (7 : Int) (110 : Int))) rfl rfl) rfl rfl rfl ?_
  refine o_pure (p_assign (v := .int .i64 ((Exp.get (Exp.put (Exp.put (⟨10, []⟩ : DStore) (7 : Int) (70 : Int) (100 : Int)) (3 : Int) (30 : Int) (105 : Int)) (7 : Int) (110 : Int)).1)) rfl) rfl rfl rfl ?_
  refine o_pure (p_assign (v := .bool ((Exp.get (Exp.put (Exp.put (⟨10, []⟩ : DStore) (7 : Int) (70 : Int) (100 : Int)) (3 : Int) (30 : Int) (105 : Int)) (7 : Int) (110 : Int)).2)) rfl) rfl rfl rfl ?_
  refine o_pure (p_assign (v := .int .i64 (Exp.getErr (Exp.put (Exp.put (⟨10, []⟩ : DStore) (7 : Int) (70 : Int) (100 : Int)) (3 : Int) (30 : Int) (105 : Int)) (7 : Int) (110 : Int))) rfl) rfl rfl rfl ?_
  refine o_nil ?_
  refine q_then ?_
  refine c_seq ?_
  refine c_region ?_
  refine o_pure (p_load_agg (i := 1) (vs := [.int .i64 ((Exp.put (Exp.put (⟨10, []⟩ : DStore) (7 : Int) (70 : Int) (100 : Int)) (3 : Int) (30 : Int) (105 : Int)).life), .slice a9 ((Exp.put (Exp.put (⟨10, []⟩ : DStore) (7 : Int) (70 : Int) (100 : Int)) (3 : Int) (30 : Int) (105 : Int)).entries).length c10]) rfl rfl sh24 rfl rfl) rfl rfl rfl ?_
  refine o_call0 (v := .tuple #[.int .i64 (Exp.next (Exp.put (Exp.put (⟨10, []⟩ : DStore) (7 : Int) (70 : Int) (100 : Int)) (3 : Int) (30 : Int) (105 : Int))), .int .i64 (Exp.nextErr (Exp.put (Exp.put (⟨10, []⟩ : DStore) (7 : Int) (70 : Int) (100 : Int)) (3 : Int) (30 : Int) (105 : Int)))]) rfl (enext_ok (Exp.put (Exp.put (⟨10, []⟩ : DStore) (7 : Int) (70 : Int) (100 : Int)) (3 : Int) (30 : Int) (105 : Int)) a9 c10) hf18 (fun w hw => (rd_own (i := 0) rfl) w hw) rfl ?_
  refine o_pure (p_move (v := .tuple #[.int .i64 (Exp.next (Exp.put (Exp.put (⟨10, []⟩ : DStore) (7 : Int) (70 : Int) (100 : Int)) (3 : Int) (30 : Int) (105 : Int))), .int .i64 (Exp.nextErr (Exp.put (Exp.put (⟨10, []⟩ : DStore) (7 : Int) (70 : Int) (100 : Int)) (3 : Int) (30 : Int) (105 : Int)))]) rfl) rfl rfl rfl ?_
  refine o_pure (p_extract (vs := [.int .i64 (Exp.next (Exp.put (Exp.put (⟨10, []⟩ : DStore) (7 : Int) (70 : Int) (100 : Int)) (3 : Int) (30 : Int) (105 : Int))), .int .i64 (Exp.nextErr (Exp.put (Exp.put (⟨10, []⟩ : DStore) (7 : Int) (70 : Int) (100 : Int)) (3 : Int) (30 : Int) (105 : Int)))]) (v := .int .i64 (Exp.next (Exp.put (Exp.put (⟨10, []⟩ : DStore) (7 : Int) (70 : Int) (100 : Int)) (3 : Int) (30 : Int) (105 : Int)))) rfl rfl) rfl rfl rfl ?_
  refine o_pure (p_extract (vs := [.int .i64 (Exp.next (Exp.put (Exp.put (⟨10, []⟩ : DStore) (7 : Int) (70 : Int) (100 : Int)) (3 : Int) (30 : Int) (105 : Int))), .int .i64 (Exp.nextErr (Exp.put (Exp.put (⟨10, []⟩ : DStore) (7 : Int) (70 : Int) (100 : Int)) (3 : Int) (30 : Int) (105 : Int)))]) (v := .int .i64 (Exp.nextErr (Exp.put (Exp.put (⟨10, []⟩ : DStore) (7 : Int) (70 : Int) (100 : Int)) (3 : Int) (30 : Int) (105 : Int)))) rfl rfl) rfl rfl rfl ?_
  refine o_pure (p_assign (v := .int .i64 (Exp.next (Exp.put (Exp.put (⟨10, []⟩ : DStore) (7 : Int) (70 : Int) (100 : Int)) (3 : Int) (30 : Int) (105 : Int)))) rfl) rfl rfl rfl ?_
  refine o_pure (p_assign (v := .int .i64 (Exp.nextErr (Exp.put (Exp.put (⟨10, []⟩ : DStore) (7 : Int) (70 : Int) (100 : Int)) (3 : Int) (30 : Int) (105 : Int)))) rfl) rfl rfl rfl ?_
  refine o_nil ?_
  refine q_then ?_
  refine c_seq ?_
  refine c_region ?_
  refine o_pure (p_load_agg (i := 1) (vs := [.int .i64 ((Exp.put (Exp.put (⟨10, []⟩ : DStore) (7 : Int) (70 : Int) (100 : Int)) (3 : Int) (30 : Int) (105 : Int)).life), .slice a9 ((Exp.put (Exp.put (⟨10, []⟩ : DStore) (7 : Int) (70 : Int) (100 : Int)) (3 : Int) (30 : Int) (105 : Int)).entries).length c10]) rfl rfl sh24 rfl rfl) rfl rfl rfl ?_
  refine o_callM rfl (esweep_ok (Exp.put (Exp.put (⟨10, []⟩ : DStore) (7 : Int) (70 : Int) (100 : Int)) (3 : Int) (30 : Int) (105 : Int)) a9 c10 (110 : Int)) hf17 (fun w hw => (rd_own (i := 0) rfl) w hw) rfl (fun _ _ _ _ ha hA => ⟨SlR.agree ha hA.1, SlR.agree ha hA.2⟩) ?_
  rintro ⟨a14, c15, a16, c17⟩ S12
  refine o_know (fun w hw => (hw.at (i := 0) rfl).here.1.2.1) (fun hlr18 => ?_)
  refine o_know (fun w hw => (hw.at (i := 0) rfl).here.2.2.1) (fun hlr19 => ?_)
  refine o_pure (p_move (v := .tuple #[.agg #[.int .i64 (((Exp.sweep (Exp.put (Exp.put (⟨10, []⟩ : DStore) (7 : Int) (70 : Int) (100 : Int)) (3 : Int) (30 : Int) (105 : Int)) (110 : Int)).1).life), .slice a14 (((Exp.sweep (Exp.put (Exp.put (⟨10, []⟩ : DStore) (7 : Int) (70 : Int) (100 : Int)) (3 : Int) (30 : Int) (105 : Int)) (110 : Int)).1).entries).length c15], .slice a16 ((Exp.sweep (Exp.put (Exp.put (⟨10, []⟩ : DStore) (7 : Int) (70 : Int) (100 : Int)) (3 : Int) (30 : Int) (105 : Int)) (110 : Int)).2).length c17, .int .i64 (Exp.nowErr (Exp.put (Exp.put (⟨10, []⟩ : DStore) (7 : Int) (70 : Int) (100 : Int)) (3 : Int) (30 : Int) (105 : Int)) (110 : Int))]) rfl) rfl rfl rfl ?_
  refine o_pure (p_extract (vs := [.agg #[.int .i64 (((Exp.sweep (Exp.put (Exp.put (⟨10, []⟩ : DStore) (7 : Int) (70 : Int) (100 : Int)) (3 : Int) (30 : Int) (105 : Int)) (110 : Int)).1).life), .slice a14 (((Exp.sweep (Exp.put (Exp.put (⟨10, []⟩ : DStore) (7 : Int) (70 : Int) (100 : Int)) (3 : Int) (30 : Int) (105 : Int)) (110 : Int)).1).entries).length c15], .slice a16 ((Exp.sweep (Exp.put (Exp.put (⟨10, []⟩ : DStore) (7 : Int) (70 : Int) (100 : Int)) (3 : Int) (30 : Int) (105 : Int)) (110 : Int)).2).length c17, .int .i64 (Exp.nowErr (Exp.put (Exp.put (⟨10, []⟩ : DStore) (7 : Int) (70 : Int) (100 : Int)) (3 : Int) (30 : Int) (105 : Int)) (110 : Int))]) (v := .agg #[.int .i64 (((Exp.sweep (Exp.put (Exp.put (⟨10, []⟩ : DStore) (7 : Int) (70 : Int) (100 : Int)) (3 : Int) (30 : Int) (105 : Int)) (110 : Int)).1).life), .slice a14 (((Exp.sweep (Exp.put (Exp.put (⟨10, []⟩ : DStore) (7 : Int) (70 : Int) (100 : Int)) (3 : Int) (30 : Int) (105 : Int)) (110 : Int)).1).entries).length c15]) rfl rfl) rfl rfl rfl ?_
  refine o_pure (p_extract (vs := [.agg #[.int .i64 (((Exp.sweep (Exp.put (Exp.put (⟨10, []⟩ : DStore) (7 : Int) (70 : Int) (100 : Int)) (3 : Int) (30 : Int) (105 : Int)) (110 : Int)).1).life), .slice a14 (((Exp.sweep (Exp.put (Exp.put (⟨10, []⟩ : DStore) (7 : Int) (70 : Int) (100 : Int)) (3 : Int) (30 : Int) (105 : Int)) (110 : Int)).1).entries).length c15], .slice a16 ((Exp.sweep (Exp.put (Exp.put (⟨10, []⟩ : DStore) (7 : Int) (70 : Int) (100 : Int)) (3 : Int) (30 : Int) (105 : Int)) (110 : Int)).2).length c17, .int .i64 (Exp.nowErr (Exp.put (Exp.put (⟨10, []⟩ : DStore) (7 : Int) (70 : Int) (100 : Int)) (3 : Int) (30 : Int) (105 : Int)) (110 : Int))]) (v := .slice a16 ((Exp.sweep (Exp.put (Exp.put (⟨10, []⟩ : DStore) (7 : Int) (70 : Int) (100 : Int)) (3 : Int) (30 : Int) (105 : Int)) (110 : Int)).2).length c17) rfl rfl) rfl rfl rfl ?_
  refine o_pure (p_extract (vs := [.agg #[.int .i64 (((Exp.sweep (Exp.put (Exp.put (⟨10, []⟩ : DStore) (7 : Int) (70 : Int) (100 : Int)) (3 : Int) (30 : Int) (105 : Int)) (110 : Int)).1).life), .slice a14 (((Exp.sweep (Exp.put (Exp.put (⟨10, []⟩ : DStore) (7 : Int) (70 : Int) (100 : Int)) (3 : Int) (30 : Int) (105 : Int)) (110 : Int)).1).entries).length c15], .slice a16 ((Exp.sweep (Exp.put (Exp.put (⟨10, []⟩ : DStore) (7 : Int) (70 : Int) (100 : Int)) (3 : Int) (30 : Int) (105 : Int)) (110 : Int)).2).length c17, .int .i64 (Exp.nowErr (Exp.put (Exp.put (⟨10, []⟩ : DStore) (7 : Int) (70 : Int) (100 : Int)) (3 : Int) (30 : Int) (105 : Int)) (110 : Int))]) (v := .int .i64 (Exp.nowErr (Exp.put (Exp.put (⟨10, []⟩ : DStore) (7 : Int) (70 : Int) (100 : Int)) (3 : Int) (30 : Int) (105 : Int)) (110 : Int))) rfl rfl) rfl rfl rfl ?_
  refine o_alloc ze24 rfl (fun B20 => ?_)
  refine o_storeN (i := 0) (vs := [.int .i64 (((Exp.sweep (Exp.put (Exp.put (⟨10, []⟩ : DStore) (7 : Int) (70 : Int) (100 : Int)) (3 : Int) (30 : Int) (105 : Int)) (110 : Int)).1).life), .slice a14 (((Exp.sweep (Exp.put (Exp.put (⟨10, []⟩ : DStore) (7 : Int) (70 : Int) (100 : Int)) (3 : Int) (30 : Int) (105 : Int)) (110 : Int)).1).entries).length c15]) (cs' := [.int .i64 (((Exp.sweep (Exp.put (Exp.put (⟨10, []⟩ : DStore) (7 : Int) (70 : Int) (100 : Int)) (3 : Int) (30 : Int) (105 : Int)) (110 : Int)).1).life), .slice a14 (((Exp.sweep (Exp.put (Exp.put (⟨10, []⟩ : DStore) (7 : Int) (70 : Int) (100 : Int)) (3 : Int) (30 : Int) (105 : Int)) (110 : Int)).1).entries).length c15]) rfl rfl rfl sz24 rfl rfl rfl rfl ?_
  refine o_pure (p_assign (v := .slice a16 ((Exp.sweep (Exp.put (Exp.put (⟨10, []⟩ : DStore) (7 : Int) (70 : Int) (100 : Int)) (3 : Int) (30 : Int) (105 : Int)) (110 : Int)).2).length c17) rfl) rfl rfl rfl ?_
  refine o_pure (p_assign (v := .int .i64 (Exp.nowErr (Exp.put (Exp.put (⟨10, []⟩ : DStore) (7 : Int) (70 : Int) (100 : Int)) (3 : Int) (30 : Int) (105 : Int)) (110 : Int))) rfl) rfl rfl rfl ?_
  refine o_nil ?_
  refine q_then ?_
  refine c_seq ?_
  refine c_region ?_
  refine o_pure (p_move (v := .int .i64 (Exp.putErr (⟨10, []⟩ : DStore) (7 : Int) (70 : Int) (100 : Int))) rfl) rfl rfl rfl ?_
  refine o_pure (p_eq (p := (Exp.putErr (⟨10, []⟩ : DStore) (7 : Int) (70 : Int) (100 : Int))) (q := 0) rfl rfl) rfl rfl rfl ?_
  refine o_pure (p_move (v := .bool ((Exp.putErr (⟨10, []⟩ : DStore) (7 : Int) (70 : Int) (100 : Int)) == 0)) rfl) rfl rfl rfl ?_
  refine o_and (p := 53) 3 ((Exp.putErr (Exp.put (⟨10, []⟩ : DStore) (7 : Int) (70 : Int) (100 : Int)) (3 : Int) (30 : Int) (105 : Int)) == 0) ?_ ?_ ?_
  · intro hb21 hk
    simp only [beq_iff_eq] at hb21
    refine o_unguard 50 rfl rfl ?_
    refine o_pure (p_move (v := .int .i64 (Exp.putErr (Exp.put (⟨10, []⟩ : DStore) (7 : Int) (70 : Int) (100 : Int)) (3 : Int) (30 : Int) (105 : Int))) rfl) rfl rfl rfl ?_
    refine o_unguard 50 rfl rfl ?_
    refine o_pure (p_eq (p := (Exp.putErr (Exp.put (⟨10, []⟩ : DStore) (7 : Int) (70 : Int) (100 : Int)) (3 : Int) (30 : Int) (105 : Int))) (q := 0) rfl rfl) rfl rfl rfl ?_
    refine o_pure (p_pick_true (u := .bool ((Exp.putErr (Exp.put (⟨10, []⟩ : DStore) (7 : Int) (70 : Int) (100 : Int)) (3 : Int) (30 : Int) (105 : Int)) == 0)) rfl rfl) rfl rfl rfl ?_
    exact o_sub (Sub.cons rfl (Sub.skip rfl (Sub.skip rfl (Sub.skip rfl (Sub.skip rfl (Sub.refl _)))))) hk
  · intro hb21 hk
    refine o_guard_no rfl 50 rfl rfl rfl rfl rfl ?_
    refine o_guard_no rfl 50 rfl rfl rfl rfl rfl ?_
    refine o_pure (p_pick_false (v := .bool false) rfl rfl) rfl rfl rfl ?_
    exact o_sub (Sub.cons rfl (Sub.skip rfl (Sub.skip rfl (Sub.skip rfl (Sub.skip rfl (Sub.refl _)))))) hk
  refine o_pure (p_move (v := .bool (((Exp.putErr (⟨10, []⟩ : DStore) (7 : Int) (70 : Int) (100 : Int)) == 0) && ((Exp.putErr (Exp.put (⟨10, []⟩ : DStore) (7 : Int) (70 : Int) (100 : Int)) (3 : Int) (30 : Int) (105 : Int)) == 0))) rfl) rfl rfl rfl ?_
  refine o_and (p := 57) 3 (((Exp.get (Exp.put (Exp.put (⟨10, []⟩ : DStore) (7 : Int) (70 : Int) (100 : Int)) (3 : Int) (30 : Int) (105 : Int)) (7 : Int) (109 : Int)).1) == 70) ?_ ?_ ?_
  · intro hb22 hk
    simp only [Bool.and_eq_true, beq_iff_eq] at hb22
    refine o_unguard 54 rfl rfl ?_
    refine o_pure (p_move (v := .int .i64 ((Exp.get (Exp.put (Exp.put (⟨10, []⟩ : DStore) (7 : Int) (70 : Int) (100 : Int)) (3 : Int) (30 : Int) (105 : Int)) (7 : Int) (109 : Int)).1)) rfl) rfl rfl rfl ?_
    refine o_unguard 54 rfl rfl ?_
    refine o_pure (p_eq (p := ((Exp.get (Exp.put (Exp.put (⟨10, []⟩ : DStore) (7 : Int) (70 : Int) (100 : Int)) (3 : Int) (30 : Int) (105 : Int)) (7 : Int) (109 : Int)).1)) (q := 70) rfl rfl) rfl rfl rfl ?_
    refine o_pure (p_pick_true (u := .bool (((Exp.get (Exp.put (Exp.put (⟨10, []⟩ : DStore) (7 : Int) (70 : Int) (100 : Int)) (3 : Int) (30 : Int) (105 : Int)) (7 : Int) (109 : Int)).1) == 70)) rfl rfl) rfl rfl rfl ?_
    exact o_sub (Sub.cons rfl (Sub.skip rfl (Sub.skip rfl (Sub.skip rfl (Sub.skip rfl (Sub.refl _)))))) hk
  · intro hb22 hk
    refine o_guard_no rfl 54 rfl rfl rfl rfl rfl ?_
    refine o_guard_no rfl 54 rfl rfl rfl rfl rfl ?_
    refine o_pure (p_pick_false (v := .bool false) rfl rfl) rfl rfl rfl ?_
    exact o_sub (Sub.cons rfl (Sub.skip rfl (Sub.skip rfl (Sub.skip rfl (Sub.skip rfl (Sub.refl _)))))) hk
  refine o_pure (p_move (v := .bool ((((Exp.putErr (⟨10, []⟩ : DStore) (7 : Int) (70 : Int) (100 : Int)) == 0) && ((Exp.putErr (Exp.put (⟨10, []⟩ : DStore) (7 : Int) (70 : Int) (100 : Int)) (3 : Int) (30 : Int) (105 : Int)) == 0)) && (((Exp.get (Exp.put (Exp.put (⟨10, []⟩ : DStore) (7 : Int) (70 : Int) (100 : Int)) (3 : Int) (30 : Int) (105 : Int)) (7 : Int) (109 : Int)).1) == 70))) rfl) rfl rfl rfl ?_
  refine o_and (p := 60) 2 ((Exp.get (Exp.put (Exp.put (⟨10, []⟩ : DStore) (7 : Int) (70 : Int) (100 : Int)) (3 : Int) (30 : Int) (105 : Int)) (7 : Int) (109 : Int)).2) ?_ ?_ ?_
  · intro hb23 hk
    simp only [Bool.and_eq_true, beq_iff_eq] at hb23
    refine o_unguard 58 rfl rfl ?_
    refine o_pure (p_move (v := .bool ((Exp.get (Exp.put (Exp.put (⟨10, []⟩ : DStore) (7 : Int) (70 : Int) (100 : Int)) (3 : Int) (30 : Int) (105 : Int)) (7 : Int) (109 : Int)).2)) rfl) rfl rfl rfl ?_
    refine o_pure (p_pick_true (u := .bool ((Exp.get (Exp.put (Exp.put (⟨10, []⟩ : DStore) (7 : Int) (70 : Int) (100 : Int)) (3 : Int) (30 : Int) (105 : Int)) (7 : Int) (109 : Int)).2)) rfl rfl) rfl rfl rfl ?_
    exact o_sub (Sub.cons rfl (Sub.skip rfl (Sub.skip rfl (Sub.skip rfl (Sub.refl _))))) hk
  · intro hb23 hk
    refine o_guard_no rfl 58 rfl rfl rfl rfl rfl ?_
    refine o_pure (p_pick_false (v := .bool false) rfl rfl) rfl rfl rfl ?_
    exact o_sub (Sub.cons rfl (Sub.skip rfl (Sub.skip rfl (Sub.skip rfl (Sub.refl _))))) hk
  refine o_pure (p_move (v := .bool (((((Exp.putErr (⟨10, []⟩ : DStore) (7 : Int) (70 : Int) (100 : Int)) == 0) && ((Exp.putErr (Exp.put (⟨10, []⟩ : DStore) (7 : Int) (70 : Int) (100 : Int)) (3 : Int) (30 : Int) (105 : Int)) == 0)) && (((Exp.get (Exp.put (Exp.put (⟨10, []⟩ : DStore) (7 : Int) (70 : Int) (100 : Int)) (3 : Int) (30 : Int) (105 : Int)) (7 : Int) (109 : Int)).1) == 70)) && ((Exp.get (Exp.put (Exp.put (⟨10, []⟩ : DStore) (7 : Int) (70 : Int) (100 : Int)) (3 : Int) (30 : Int) (105 : Int)) (7 : Int) (109 : Int)).2))) rfl) rfl rfl rfl ?_
  refine o_and (p := 64) 3 ((Exp.getErr (Exp.put (Exp.put (⟨10, []⟩ : DStore) (7 : Int) (70 : Int) (100 : Int)) (3 : Int) (30 : Int) (105 : Int)) (7 : Int) (109 : Int)) == 0) ?_ ?_ ?_
  · intro hb24 hk
    simp only [Bool.and_eq_true, beq_iff_eq] at hb24
    refine o_unguard 61 rfl rfl ?_
    refine o_pure (p_move (v := .int .i64 (Exp.getErr (Exp.put (Exp.put (⟨10, []⟩ : DStore) (7 : Int) (70 : Int) (100 : Int)) (3 : Int) (30 : Int) (105 : Int)) (7 : Int) (109 : Int))) rfl) rfl rfl rfl ?_
    refine o_unguard 61 rfl rfl ?_
    refine o_pure (p_eq (p := (Exp.getErr (Exp.put (Exp.put (⟨10, []⟩ : DStore) (7 : Int) (70 : Int) (100 : Int)) (3 : Int) (30 : Int) (105 : Int)) (7 : Int) (109 : Int))) (q := 0) rfl rfl) rfl rfl rfl ?_
    refine o_pure (p_pick_true (u := .bool ((Exp.getErr (Exp.put (Exp.put (⟨10, []⟩ : DStore) (7 : Int) (70 : Int) (100 : Int)) (3 : Int) (30 : Int) (105 : Int)) (7 : Int) (109 : Int)) == 0)) rfl rfl) rfl rfl rfl ?_
    exact o_sub (Sub.cons rfl (Sub.skip rfl (Sub.skip rfl (Sub.skip rfl (Sub.skip rfl (Sub.refl _)))))) hk
  · intro hb24 hk
    refine o_guard_no rfl 61 rfl rfl rfl rfl rfl ?_
    refine o_guard_no rfl 61 rfl rfl rfl rfl rfl ?_
    refine o_pure (p_pick_false (v := .bool false) rfl rfl) rfl rfl rfl ?_
    exact o_sub (Sub.cons rfl (Sub.skip rfl (Sub.skip rfl (Sub.skip rfl (Sub.skip rfl (Sub.refl _)))))) hk
  refine o_pure (p_move (v := .bool ((((((Exp.putErr (⟨10, []⟩ : DStore) (7 : Int) (70 : Int) (100 : Int)) == 0) && ((Exp.putErr (Exp.put (⟨10, []⟩ : DStore) (7 : Int) (70 : Int) (100 : Int)) (3 : Int) (30 : Int) (105 : Int)) == 0)) && (((Exp.get (Exp.put (Exp.put (⟨10, []⟩ : DStore) (7 : Int) (70 : Int) (100 : Int)) (3 : Int) (30 : Int) (105 : Int)) (7 : Int) (109 : Int)).1) == 70)) && ((Exp.get (Exp.put (Exp.put (⟨10, []⟩ : DStore) (7 : Int) (70 : Int) (100 : Int)) (3 : Int) (30 : Int) (105 : Int)) (7 : Int) (109 : Int)).2)) && ((Exp.getErr (Exp.put (Exp.put (⟨10, []⟩ : DStore) (7 : Int) (70 : Int) (100 : Int)) (3 : Int) (30 : Int) (105 : Int)) (7 : Int) (109 : Int)) == 0))) rfl) rfl rfl rfl ?_
  refine o_and (p := 68) 3 (!((Exp.get (Exp.put (Exp.put (⟨10, []⟩ : DStore) (7 : Int) (70 : Int) (100 : Int)) (3 : Int) (30 : Int) (105 : Int)) (7 : Int) (110 : Int)).2)) ?_ ?_ ?_
  · intro hb25 hk
    simp only [Bool.and_eq_true, beq_iff_eq] at hb25
    refine o_unguard 65 rfl rfl ?_
    refine o_pure (p_move (v := .bool ((Exp.get (Exp.put (Exp.put (⟨10, []⟩ : DStore) (7 : Int) (70 : Int) (100 : Int)) (3 : Int) (30 : Int) (105 : Int)) (7 : Int) (110 : Int)).2)) rfl) rfl rfl rfl ?_
    refine o_unguard 65 rfl rfl ?_
    refine o_pure (p_not (b := ((Exp.get (Exp.put (Exp.put (⟨10, []⟩ : DStore) (7 : Int) (70 : Int) (100 : Int)) (3 : Int) (30 : Int) (105 : Int)) (7 : Int) (110 : Int)).2)) rfl) rfl rfl rfl ?_
    refine o_pure (p_pick_true (u := .bool (!((Exp.get (Exp.put (Exp.put (⟨10, []⟩ : DStore) (7 : Int) (70 : Int) (100 : Int)) (3 : Int) (30 : Int) (105 : Int)) (7 : Int) (110 : Int)).2))) rfl rfl) rfl rfl rfl ?_
    exact o_sub (Sub.cons rfl (Sub.skip rfl (Sub.skip rfl (Sub.skip rfl (Sub.skip rfl (Sub.refl _)))))) hk
  · intro hb25 hk
    refine o_guard_no rfl 65 rfl rfl rfl rfl rfl ?_
    refine o_guard_no rfl 65 rfl rfl rfl rfl rfl ?_
    refine o_pure (p_pick_false (v := .bool false) rfl rfl) rfl rfl rfl ?_
    exact o_sub (Sub.cons rfl (Sub.skip rfl (Sub.skip rfl (Sub.skip rfl (Sub.skip rfl (Sub.refl _)))))) hk
  refine o_pure (p_move (v := .bool (((((((Exp.putErr (⟨10, []⟩ : DStore) (7 : Int) (70 : Int) (100 : Int)) == 0) && ((Exp.putErr (Exp.put (⟨10, []⟩ : DStore) (7 : Int) (70 : Int) (100 : Int)) (3 : Int) (30 : Int) (105 : Int)) == 0)) && (((Exp.get (Exp.put (Exp.put (⟨10, []⟩ : DStore) (7 : Int) (70 : Int) (100 : Int)) (3 : Int) (30 : Int) (105 : Int)) (7 : Int) (109 : Int)).1) == 70)) && ((Exp.get (Exp.put (Exp.put (⟨10, []⟩ : DStore) (7 : Int) (70 : Int) (100 : Int)) (3 : Int) (30 : Int) (105 : Int)) (7 : Int) (109 : Int)).2)) && ((Exp.getErr (Exp.put (Exp.put (⟨10, []⟩ : DStore) (7 : Int) (70 : Int) (100 : Int)) (3 : Int) (30 : Int) (105 : Int)) (7 : Int) (109 : Int)) == 0)) && (!((Exp.get (Exp.put (Exp.put (⟨10, []⟩ : DStore) (7 : Int) (70 : Int) (100 : Int)) (3 : Int) (30 : Int) (105 : Int)) (7 : Int) (110 : Int)).2)))) rfl) rfl rfl rfl ?_
  refine o_and (p := 72) 3 ((Exp.getErr (Exp.put (Exp.put (⟨10, []⟩ : DStore) (7 : Int) (70 : Int) (100 : Int)) (3 : Int) (30 : Int) (105 : Int)) (7 : Int) (110 : Int)) == 0) ?_ ?_ ?_
  · intro hb26 hk
    simp only [Bool.and_eq_true, beq_iff_eq, Bool.not_eq_true'] at hb26
    refine o_unguard 69 rfl rfl ?_
    refine o_pure (p_move (v := .int .i64 (Exp.getErr (Exp.put (Exp.put (⟨10, []⟩ : DStore) (7 : Int) (70 : Int) (100 : Int)) (3 : Int) (30 : Int) (105 : Int)) (7 : Int) (110 : Int))) rfl) rfl rfl rfl ?_
    refine o_unguard 69 rfl rfl ?_
    refine o_pure (p_eq (p := (Exp.getErr (Exp.put (Exp.put (⟨10, []⟩ : DStore) (7 : Int) (70 : Int) (100 : Int)) (3 : Int) (30 : Int) (105 : Int)) (7 : Int) (110 : Int))) (q := 0) rfl rfl) rfl rfl rfl ?_
    refine o_pure (p_pick_true (u := .bool ((Exp.getErr (Exp.put (Exp.put (⟨10, []⟩ : DStore) (7 : Int) (70 : Int) (100 : Int)) (3 : Int) (30 : Int) (105 : Int)) (7 : Int) (110 : Int)) == 0)) rfl rfl) rfl rfl rfl ?_
    exact o_sub (Sub.cons rfl (Sub.skip rfl (Sub.skip rfl (Sub.skip rfl (Sub.skip rfl (Sub.refl _)))))) hk
  · intro hb26 hk
    refine o_guard_no rfl 69 rfl rfl rfl rfl rfl ?_
    refine o_guard_no rfl 69 rfl rfl rfl rfl rfl ?_
    refine o_pure (p_pick_false (v := .bool false) rfl rfl) rfl rfl rfl ?_
    exact o_sub (Sub.cons rfl (Sub.skip rfl (Sub.skip rfl (Sub.skip rfl (Sub.skip rfl (Sub.refl _)))))) hk
  refine o_pure (p_move (v := .bool ((((((((Exp.putErr (⟨10, []⟩ : DStore) (7 : Int) (70 : Int) (100 : Int)) == 0) && ((Exp.putErr (Exp.put (⟨10, []⟩ : DStore) (7 : Int) (70 : Int) (100 : Int)) (3 : Int) (30 : Int) (105 : Int)) == 0)) && (((Exp.get (Exp.put (Exp.put (⟨10, []⟩ : DStore) (7 : Int) (70 : Int) (100 : Int)) (3 : Int) (30 : Int) (105 : Int)) (7 : Int) (109 : Int)).1) == 70)) && ((Exp.get (Exp.put (Exp.put (⟨10, []⟩ : DStore) (7 : Int) (70 : Int) (100 : Int)) (3 : Int) (30 : Int) (105 : Int)) (7 : Int) (109 : Int)).2)) && ((Exp.getErr (Exp.put (Exp.put (⟨10, []⟩ : DStore) (7 : Int) (70 : Int) (100 : Int)) (3 : Int) (30 : Int) (105 : Int)) (7 : Int) (109 : Int)) == 0)) && (!((Exp.get (Exp.put (Exp.put (⟨10, []⟩ : DStore) (7 : Int) (70 : Int) (100 : Int)) (3 : Int) (30 : Int) (105 : Int)) (7 : Int) (110 : Int)).2))) && ((Exp.getErr (Exp.put (Exp.put (⟨10, []⟩ : DStore) (7 : Int) (70 : Int) (100 : Int)) (3 : Int) (30 : Int) (105 : Int)) (7 : Int) (110 : Int)) == 0))) rfl) rfl rfl rfl ?_
  refine o_and (p := 76) 3 ((Exp.next (Exp.put (Exp.put (⟨10, []⟩ : DStore) (7 : Int) (70 : Int) (100 : Int)) (3 : Int) (30 : Int) (105 : Int))) == 110) ?_ ?_ ?_
  · intro hb27 hk
    simp only [Bool.and_eq_true, beq_iff_eq, Bool.not_eq_true'] at hb27
    refine o_unguard 73 rfl rfl ?_
    refine o_pure (p_move (v := .int .i64 (Exp.next (Exp.put (Exp.put (⟨10, []⟩ : DStore) (7 : Int) (70 : Int) (100 : Int)) (3 : Int) (30 : Int) (105 : Int)))) rfl) rfl rfl rfl ?_
    refine o_unguard 73 rfl rfl ?_
    refine o_pure (p_eq (p := (Exp.next (Exp.put (Exp.put (⟨10, []⟩ : DStore) (7 : Int) (70 : Int) (100 : Int)) (3 : Int) (30 : Int) (105 : Int)))) (q := 110) rfl rfl) rfl rfl rfl ?_
    refine o_pure (p_pick_true (u := .bool ((Exp.next (Exp.put (Exp.put (⟨10, []⟩ : DStore) (7 : Int) (70 : Int) (100 : Int)) (3 : Int) (30 : Int) (105 : Int))) == 110)) rfl rfl) rfl rfl rfl ?_
    exact o_sub (Sub.cons rfl (Sub.skip rfl (Sub.skip rfl (Sub.skip rfl (Sub.skip rfl (Sub.refl _)))))) hk
  · intro hb27 hk
    refine o_guard_no rfl 73 rfl rfl rfl rfl rfl ?_
    refine o_guard_no rfl 73 rfl rfl rfl rfl rfl ?_
    refine o_pure (p_pick_false (v := .bool false) rfl rfl) rfl rfl rfl ?_
    exact o_sub (Sub.cons rfl (Sub.skip rfl (Sub.skip rfl (Sub.skip rfl (Sub.skip rfl (Sub.refl _)))))) hk
  refine o_pure (p_move (v := .bool (((((((((Exp.putErr (⟨10, []⟩ : DStore) (7 : Int) (70 : Int) (100 : Int)) == 0) && ((Exp.putErr (Exp.put (⟨10, []⟩ : DStore) (7 : Int) (70 : Int) (100 : Int)) (3 : Int) (30 : Int) (105 : Int)) == 0)) && (((Exp.get (Exp.put (Exp.put (⟨10, []⟩ : DStore) (7 : Int) (70 : Int) (100 : Int)) (3 : Int) (30 : Int) (105 : Int)) (7 : Int) (109 : Int)).1) == 70)) && ((Exp.get (Exp.put (Exp.put (⟨10, []⟩ : DStore) (7 : Int) (70 : Int) (100 : Int)) (3 : Int) (30 : Int) (105 : Int)) (7 : Int) (109 : Int)).2)) && ((Exp.getErr (Exp.put (Exp.put (⟨10, []⟩ : DStore) (7 : Int) (70 : Int) (100 : Int)) (3 : Int) (30 : Int) (105 : Int)) (7 : Int) (109 : Int)) == 0)) && (!((Exp.get (Exp.put (Exp.put (⟨10, []⟩ : DStore) (7 : Int) (70 : Int) (100 : Int)) (3 : Int) (30 : Int) (105 : Int)) (7 : Int) (110 : Int)).2))) && ((Exp.getErr (Exp.put (Exp.put (⟨10, []⟩ : DStore) (7 : Int) (70 : Int) (100 : Int)) (3 : Int) (30 : Int) (105 : Int)) (7 : Int) (110 : Int)) == 0)) && ((Exp.next (Exp.put (Exp.put (⟨10, []⟩ : DStore) (7 : Int) (70 : Int) (100 : Int)) (3 : Int) (30 : Int) (105 : Int))) == 110))) rfl) rfl rfl rfl ?_
  refine o_and (p := 80) 3 ((Exp.nextErr (Exp.put (Exp.put (⟨10, []⟩ : DStore) (7 : Int) (70 : Int) (100 : Int)) (3 : Int) (30 : Int) (105 : Int))) == 0) ?_ ?_ ?_
  · intro hb28 hk
    simp only [Bool.and_eq_true, beq_iff_eq, Bool.not_eq_true'] at hb28
    refine o_unguard 77 rfl rfl ?_
    refine o_pure (p_move (v := .int .i64 (Exp.nextErr (Exp.put (Exp.put (⟨10, []⟩ : DStore) (7 : Int) (70 : Int) (100 : Int)) (3 : Int) (30 : Int) (105 : Int)))) rfl) rfl rfl rfl ?_
    refine o_unguard 77 rfl rfl ?_
    refine o_pure (p_eq (p := (Exp.nextErr (Exp.put (Exp.put (⟨10, []⟩ : DStore) (7 : Int) (70 : Int) (100 : Int)) (3 : Int) (30 : Int) (105 : Int)))) (q := 0) rfl rfl) rfl rfl rfl ?_
    refine o_pure (p_pick_true (u := .bool ((Exp.nextErr (Exp.put (Exp.put (⟨10, []⟩ : DStore) (7 : Int) (70 : Int) (100 : Int)) (3 : Int) (30 : Int) (105 : Int))) == 0)) rfl rfl) rfl rfl rfl ?_
    exact o_sub (Sub.cons rfl (Sub.skip rfl (Sub.skip rfl (Sub.skip rfl (Sub.skip rfl (Sub.refl _)))))) hk
  · intro hb28 hk
    refine o_guard_no rfl 77 rfl rfl rfl rfl rfl ?_
    refine o_guard_no rfl 77 rfl rfl rfl rfl rfl ?_
    refine o_pure (p_pick_false (v := .bool false) rfl rfl) rfl rfl rfl ?_
    exact o_sub (Sub.cons rfl (Sub.skip rfl (Sub.skip rfl (Sub.skip rfl (Sub.skip rfl (Sub.refl _)))))) hk
  refine o_pure (p_move (v := .bool ((((((((((Exp.putErr (⟨10, []⟩ : DStore) (7 : Int) (70 : Int) (100 : Int)) == 0) && ((Exp.putErr (Exp.put (⟨10, []⟩ : DStore) (7 : Int) (70 : Int) (100 : Int)) (3 : Int) (30 : Int) (105 : Int)) == 0)) && (((Exp.get (Exp.put (Exp.put (⟨10, []⟩ : DStore) (7 : Int) (70 : Int) (100 : Int)) (3 : Int) (30 : Int) (105 : Int)) (7 : Int) (109 : Int)).1) == 70)) && ((Exp.get (Exp.put (Exp.put (⟨10, []⟩ : DStore) (7 : Int) (70 : Int) (100 : Int)) (3 : Int) (30 : Int) (105 : Int)) (7 : Int) (109 : Int)).2)) && ((Exp.getErr (Exp.put (Exp.put (⟨10, []⟩ : DStore) (7 : Int) (70 : Int) (100 : Int)) (3 : Int) (30 : Int) (105 : Int)) (7 : Int) (109 : Int)) == 0)) && (!((Exp.get (Exp.put (Exp.put (⟨10, []⟩ : DStore) (7 : Int) (70 : Int) (100 : Int)) (3 : Int) (30 : Int) (105 : Int)) (7 : Int) (110 : Int)).2))) && ((Exp.getErr (Exp.put (Exp.put (⟨10, []⟩ : DStore) (7 : Int) (70 : Int) (100 : Int)) (3 : Int) (30 : Int) (105 : Int)) (7 : Int) (110 : Int)) == 0)) && ((Exp.next (Exp.put (Exp.put (⟨10, []⟩ : DStore) (7 : Int) (70 : Int) (100 : Int)) (3 : Int) (30 : Int) (105 : Int))) == 110)) && ((Exp.nextErr (Exp.put (Exp.put (⟨10, []⟩ : DStore) (7 : Int) (70 : Int) (100 : Int)) (3 : Int) (30 : Int) (105 : Int))) == 0))) rfl) rfl rfl rfl ?_
  refine o_and (p := 87) 6 (decide (((Exp.sweep (Exp.put (Exp.put (⟨10, []⟩ : DStore) (7 : Int) (70 : Int) (100 : Int)) (3 : Int) (30 : Int) (105 : Int)) (110 : Int)).1) = (⟨10, [(⟨3, 30, 115⟩ : DEntry)]⟩ : DStore))) ?_ ?_ ?_
  · intro hb29 hk
    simp only [Bool.and_eq_true, beq_iff_eq, Bool.not_eq_true'] at hb29
    refine o_unguard 81 rfl rfl ?_
    refine o_pure (p_load_agg (i := 0) (vs := [.int .i64 (((Exp.sweep (Exp.put (Exp.put (⟨10, []⟩ : DStore) (7 : Int) (70 : Int) (100 : Int)) (3 : Int) (30 : Int) (105 : Int)) (110 : Int)).1).life), .slice a14 (((Exp.sweep (Exp.put (Exp.put (⟨10, []⟩ : DStore) (7 : Int) (70 : Int) (100 : Int)) (3 : Int) (30 : Int) (105 : Int)) (110 : Int)).1).entries).length c15]) rfl rfl sh24 rfl rfl) rfl rfl rfl ?_
    refine o_unguard 81 rfl rfl ?_
    refine o_pure (p_build (cells := [.int .i64 3, .int .i64 30, .int .i64 115]) fp42 ze42 rfl rfl) rfl rfl rfl ?_
    refine o_unguard 81 rfl rfl ?_
    refine o_buildSlice (m := 1) (T := tEntry) (L := [(⟨3, 30, 115⟩ : DEntry)]) (vs := [.agg #[.int .i64 3, .int .i64 30, .int .i64 115]]) rfl rfl rfl rfl Try.underlying22 sz42 (by decide) ze42 rfl (by decide) rfl (fun S30 a31 => ?_)
    refine o_unguard 81 rfl rfl ?_
    refine o_pure (p_build (cells := [.int .i64 10, .slice a31 ([(⟨3, 30, 115⟩ : DEntry)]).length ([(⟨3, 30, 115⟩ : DEntry)].length)]) fp24 ze24 rfl rfl) rfl rfl rfl ?_
    refine o_unguard 81 rfl rfl ?_
    refine o_call0 (v := .bool (decide (((Exp.sweep (Exp.put (Exp.put (⟨10, []⟩ : DStore) (7 : Int) (70 : Int) (100 : Int)) (3 : Int) (30 : Int) (105 : Int)) (110 : Int)).1) = (⟨10, [(⟨3, 30, 115⟩ : DEntry)]⟩ : DStore)))) rfl (sameLasting_ok ((Exp.sweep (Exp.put (Exp.put (⟨10, []⟩ : DStore) (7 : Int) (70 : Int) (100 : Int)) (3 : Int) (30 : Int) (105 : Int)) (110 : Int)).1) a14 c15 (⟨10, [(⟨3, 30, 115⟩ : DEntry)]⟩ : DStore) a31 ([(⟨3, 30, 115⟩ : DEntry)].length)) hf26 (fun w hw => ⟨(rd_ent (i := 2) rfl (fun w h => h.1)) w hw, (rd_own (i := 0) rfl) w hw⟩) rfl ?_
    refine o_pure (p_pick_true (u := .bool (decide (((Exp.sweep (Exp.put (Exp.put (⟨10, []⟩ : DStore) (7 : Int) (70 : Int) (100 : Int)) (3 : Int) (30 : Int) (105 : Int)) (110 : Int)).1) = (⟨10, [(⟨3, 30, 115⟩ : DEntry)]⟩ : DStore)))) rfl rfl) rfl rfl rfl ?_
    exact o_sub (Sub.cons rfl (Sub.skip rfl (Sub.skip rfl (Sub.skip rfl (Sub.skip rfl (Sub.skip rfl (Sub.skip rfl (Sub.skip rfl (Sub.refl _))))))))) (o_drop (List.Sublist.cons _ (List.Sublist.cons_cons _ (List.Sublist.cons_cons _ (List.Sublist.cons_cons _ (List.Sublist.cons_cons _ (List.Sublist.cons_cons _ (List.Sublist.cons_cons _ (List.Sublist.slnil)))))))) hk)
  · intro hb29 hk
    refine o_guard_no rfl 81 rfl rfl rfl rfl rfl ?_
    refine o_guard_no rfl 81 rfl rfl rfl rfl rfl ?_
    refine o_guard_no rfl 81 rfl rfl rfl rfl rfl ?_
    refine o_guard_no rfl 81 rfl rfl rfl rfl rfl ?_
    refine o_guard_no rfl 81 rfl rfl rfl rfl rfl ?_
    refine o_pure (p_pick_false (v := .bool false) rfl rfl) rfl rfl rfl ?_
    exact o_sub (Sub.cons rfl (Sub.skip rfl (Sub.skip rfl (Sub.skip rfl (Sub.skip rfl (Sub.skip rfl (Sub.skip rfl (Sub.skip rfl (Sub.refl _))))))))) hk
  refine o_pure (p_move (v := .bool (((((((((((Exp.putErr (⟨10, []⟩ : DStore) (7 : Int) (70 : Int) (100 : Int)) == 0) && ((Exp.putErr (Exp.put (⟨10, []⟩ : DStore) (7 : Int) (70 : Int) (100 : Int)) (3 : Int) (30 : Int) (105 : Int)) == 0)) && (((Exp.get (Exp.put (Exp.put (⟨10, []⟩ : DStore) (7 : Int) (70 : Int) (100 : Int)) (3 : Int) (30 : Int) (105 : Int)) (7 : Int) (109 : Int)).1) == 70)) && ((Exp.get (Exp.put (Exp.put (⟨10, []⟩ : DStore) (7 : Int) (70 : Int) (100 : Int)) (3 : Int) (30 : Int) (105 : Int)) (7 : Int) (109 : Int)).2)) && ((Exp.getErr (Exp.put (Exp.put (⟨10, []⟩ : DStore) (7 : Int) (70 : Int) (100 : Int)) (3 : Int) (30 : Int) (105 : Int)) (7 : Int) (109 : Int)) == 0)) && (!((Exp.get (Exp.put (Exp.put (⟨10, []⟩ : DStore) (7 : Int) (70 : Int) (100 : Int)) (3 : Int) (30 : Int) (105 : Int)) (7 : Int) (110 : Int)).2))) && ((Exp.getErr (Exp.put (Exp.put (⟨10, []⟩ : DStore) (7 : Int) (70 : Int) (100 : Int)) (3 : Int) (30 : Int) (105 : Int)) (7 : Int) (110 : Int)) == 0)) && ((Exp.next (Exp.put (Exp.put (⟨10, []⟩ : DStore) (7 : Int) (70 : Int) (100 : Int)) (3 : Int) (30 : Int) (105 : Int))) == 110)) && ((Exp.nextErr (Exp.put (Exp.put (⟨10, []⟩ : DStore) (7 : Int) (70 : Int) (100 : Int)) (3 : Int) (30 : Int) (105 : Int))) == 0)) && (decide (((Exp.sweep (Exp.put (Exp.put (⟨10, []⟩ : DStore) (7 : Int) (70 : Int) (100 : Int)) (3 : Int) (30 : Int) (105 : Int)) (110 : Int)).1) = (⟨10, [(⟨3, 30, 115⟩ : DEntry)]⟩ : DStore))))) rfl) rfl rfl rfl ?_
  refine o_and (p := 92) 4 (Ref.sameInts ((Exp.sweep (Exp.put (Exp.put (⟨10, []⟩ : DStore) (7 : Int) (70 : Int) (100 : Int)) (3 : Int) (30 : Int) (105 : Int)) (110 : Int)).2) ([7])) ?_ ?_ ?_
  · intro hb33 hk
    simp only [Bool.and_eq_true, beq_iff_eq, Bool.not_eq_true', decide_eq_true_eq] at hb33
    refine o_unguard 88 rfl rfl ?_
    refine o_pure (p_move (v := .slice a16 ((Exp.sweep (Exp.put (Exp.put (⟨10, []⟩ : DStore) (7 : Int) (70 : Int) (100 : Int)) (3 : Int) (30 : Int) (105 : Int)) (110 : Int)).2).length c17) rfl) rfl rfl rfl ?_
    refine o_unguard 88 rfl rfl ?_
    refine o_buildSlice (m := 1) (T := tInt) (L := [7]) (vs := [.int .i64 7]) rfl rfl rfl rfl Try.underlying30 sz3 (by decide) ze3 rfl (by decide) rfl (fun S34 a35 => ?_)
    refine o_unguard 88 rfl rfl ?_
    refine o_call0 (v := .bool (Ref.sameInts ((Exp.sweep (Exp.put (Exp.put (⟨10, []⟩ : DStore) (7 : Int) (70 : Int) (100 : Int)) (3 : Int) (30 : Int) (105 : Int)) (110 : Int)).2) ([7]))) rfl (sameInts_ok ((Exp.sweep (Exp.put (Exp.put (⟨10, []⟩ : DStore) (7 : Int) (70 : Int) (100 : Int)) (3 : Int) (30 : Int) (105 : Int)) (110 : Int)).2) a16 c17 ([7]) a35 ([7].length)) hf27 (fun w hw => ⟨(rd_ent (i := 2) rfl (fun w h => h.2)) w hw, (rd_own (i := 0) rfl) w hw⟩) rfl ?_
    refine o_pure (p_pick_true (u := .bool (Ref.sameInts ((Exp.sweep (Exp.put (Exp.put (⟨10, []⟩ : DStore) (7 : Int) (70 : Int) (100 : Int)) (3 : Int) (30 : Int) (105 : Int)) (110 : Int)).2) ([7]))) rfl rfl) rfl rfl rfl ?_
    exact o_sub (Sub.cons rfl (Sub.skip rfl (Sub.skip rfl (Sub.skip rfl (Sub.skip rfl (Sub.skip rfl (Sub.refl _))))))) (o_drop (List.Sublist.cons _ (List.Sublist.cons_cons _ (List.Sublist.cons_cons _ (List.Sublist.cons_cons _ (List.Sublist.cons_cons _ (List.Sublist.cons_cons _ (List.Sublist.cons_cons _ (List.Sublist.slnil)))))))) hk)
  · intro hb33 hk
    refine o_guard_no rfl 88 rfl rfl rfl rfl rfl ?_
    refine o_guard_no rfl 88 rfl rfl rfl rfl rfl ?_
    refine o_guard_no rfl 88 rfl rfl rfl rfl rfl ?_
    refine o_pure (p_pick_false (v := .bool false) rfl rfl) rfl rfl rfl ?_
    exact o_sub (Sub.cons rfl (Sub.skip rfl (Sub.skip rfl (Sub.skip rfl (Sub.skip rfl (Sub.skip rfl (Sub.refl _))))))) hk
  refine o_pure (p_move (v := .bool ((((((((((((Exp.putErr (⟨10, []⟩ : DStore) (7 : Int) (70 : Int) (100 : Int)) == 0) && ((Exp.putErr (Exp.put (⟨10, []⟩ : DStore) (7 : Int) (70 : Int) (100 : Int)) (3 : Int) (30 : Int) (105 : Int)) == 0)) && (((Exp.get (Exp.put (Exp.put (⟨10, []⟩ : DStore) (7 : Int) (70 : Int) (100 : Int)) (3 : Int) (30 : Int) (105 : Int)) (7 : Int) (109 : Int)).1) == 70)) && ((Exp.get (Exp.put (Exp.put (⟨10, []⟩ : DStore) (7 : Int) (70 : Int) (100 : Int)) (3 : Int) (30 : Int) (105 : Int)) (7 : Int) (109 : Int)).2)) && ((Exp.getErr (Exp.put (Exp.put (⟨10, []⟩ : DStore) (7 : Int) (70 : Int) (100 : Int)) (3 : Int) (30 : Int) (105 : Int)) (7 : Int) (109 : Int)) == 0)) && (!((Exp.get (Exp.put (Exp.put (⟨10, []⟩ : DStore) (7 : Int) (70 : Int) (100 : Int)) (3 : Int) (30 : Int) (105 : Int)) (7 : Int) (110 : Int)).2))) && ((Exp.getErr (Exp.put (Exp.put (⟨10, []⟩ : DStore) (7 : Int) (70 : Int) (100 : Int)) (3 : Int) (30 : Int) (105 : Int)) (7 : Int) (110 : Int)) == 0)) && ((Exp.next (Exp.put (Exp.put (⟨10, []⟩ : DStore) (7 : Int) (70 : Int) (100 : Int)) (3 : Int) (30 : Int) (105 : Int))) == 110)) && ((Exp.nextErr (Exp.put (Exp.put (⟨10, []⟩ : DStore) (7 : Int) (70 : Int) (100 : Int)) (3 : Int) (30 : Int) (105 : Int))) == 0)) && (decide (((Exp.sweep (Exp.put (Exp.put (⟨10, []⟩ : DStore) (7 : Int) (70 : Int) (100 : Int)) (3 : Int) (30 : Int) (105 : Int)) (110 : Int)).1) = (⟨10, [(⟨3, 30, 115⟩ : DEntry)]⟩ : DStore)))) && (Ref.sameInts ((Exp.sweep (Exp.put (Exp.put (⟨10, []⟩ : DStore) (7 : Int) (70 : Int) (100 : Int)) (3 : Int) (30 : Int) (105 : Int)) (110 : Int)).2) ([7])))) rfl) rfl rfl rfl ?_
  refine o_and (p := 96) 3 ((Exp.nowErr (Exp.put (Exp.put (⟨10, []⟩ : DStore) (7 : Int) (70 : Int) (100 : Int)) (3 : Int) (30 : Int) (105 : Int)) (110 : Int)) == 0) ?_ ?_ ?_
  · intro hb37 hk
    simp only [Bool.and_eq_true, beq_iff_eq, Bool.not_eq_true', decide_eq_true_eq] at hb37
    refine o_unguard 93 rfl rfl ?_
    refine o_pure (p_move (v := .int .i64 (Exp.nowErr (Exp.put (Exp.put (⟨10, []⟩ : DStore) (7 : Int) (70 : Int) (100 : Int)) (3 : Int) (30 : Int) (105 : Int)) (110 : Int))) rfl) rfl rfl rfl ?_
    refine o_unguard 93 rfl rfl ?_
    refine o_pure (p_eq (p := (Exp.nowErr (Exp.put (Exp.put (⟨10, []⟩ : DStore) (7 : Int) (70 : Int) (100 : Int)) (3 : Int) (30 : Int) (105 : Int)) (110 : Int))) (q := 0) rfl rfl) rfl rfl rfl ?_
    refine o_pure (p_pick_true (u := .bool ((Exp.nowErr (Exp.put (Exp.put (⟨10, []⟩ : DStore) (7 : Int) (70 : Int) (100 : Int)) (3 : Int) (30 : Int) (105 : Int)) (110 : Int)) == 0)) rfl rfl) rfl rfl rfl ?_
    exact o_sub (Sub.cons rfl (Sub.skip rfl (Sub.skip rfl (Sub.skip rfl (Sub.skip rfl (Sub.refl _)))))) hk
  · intro hb37 hk
    refine o_guard_no rfl 93 rfl rfl rfl rfl rfl ?_
    refine o_guard_no rfl 93 rfl rfl rfl rfl rfl ?_
    refine o_pure (p_pick_false (v := .bool false) rfl rfl) rfl rfl rfl ?_
    exact o_sub (Sub.cons rfl (Sub.skip rfl (Sub.skip rfl (Sub.skip rfl (Sub.skip rfl (Sub.refl _)))))) hk
  refine o_pure (p_move (v := .bool (((((((((((((Exp.putErr (⟨10, []⟩ : DStore) (7 : Int) (70 : Int) (100 : Int)) == 0) && ((Exp.putErr (Exp.put (⟨10, []⟩ : DStore) (7 : Int) (70 : Int) (100 : Int)) (3 : Int) (30 : Int) (105 : Int)) == 0)) && (((Exp.get (Exp.put (Exp.put (⟨10, []⟩ : DStore) (7 : Int) (70 : Int) (100 : Int)) (3 : Int) (30 : Int) (105 : Int)) (7 : Int) (109 : Int)).1) == 70)) && ((Exp.get (Exp.put (Exp.put (⟨10, []⟩ : DStore) (7 : Int) (70 : Int) (100 : Int)) (3 : Int) (30 : Int) (105 : Int)) (7 : Int) (109 : Int)).2)) && ((Exp.getErr (Exp.put (Exp.put (⟨10, []⟩ : DStore) (7 : Int) (70 : Int) (100 : Int)) (3 : Int) (30 : Int) (105 : Int)) (7 : Int) (109 : Int)) == 0)) && (!((Exp.get (Exp.put (Exp.put (⟨10, []⟩ : DStore) (7 : Int) (70 : Int) (100 : Int)) (3 : Int) (30 : Int) (105 : Int)) (7 : Int) (110 : Int)).2))) && ((Exp.getErr (Exp.put (Exp.put (⟨10, []⟩ : DStore) (7 : Int) (70 : Int) (100 : Int)) (3 : Int) (30 : Int) (105 : Int)) (7 : Int) (110 : Int)) == 0)) && ((Exp.next (Exp.put (Exp.put (⟨10, []⟩ : DStore) (7 : Int) (70 : Int) (100 : Int)) (3 : Int) (30 : Int) (105 : Int))) == 110)) && ((Exp.nextErr (Exp.put (Exp.put (⟨10, []⟩ : DStore) (7 : Int) (70 : Int) (100 : Int)) (3 : Int) (30 : Int) (105 : Int))) == 0)) && (decide (((Exp.sweep (Exp.put (Exp.put (⟨10, []⟩ : DStore) (7 : Int) (70 : Int) (100 : Int)) (3 : Int) (30 : Int) (105 : Int)) (110 : Int)).1) = (⟨10, [(⟨3, 30, 115⟩ : DEntry)]⟩ : DStore)))) && (Ref.sameInts ((Exp.sweep (Exp.put (Exp.put (⟨10, []⟩ : DStore) (7 : Int) (70 : Int) (100 : Int)) (3 : Int) (30 : Int) (105 : Int)) (110 : Int)).2) ([7]))) && ((Exp.nowErr (Exp.put (Exp.put (⟨10, []⟩ : DStore) (7 : Int) (70 : Int) (100 : Int)) (3 : Int) (30 : Int) (105 : Int)) (110 : Int)) == 0))) rfl) rfl rfl rfl ?_
  refine o_and (p := 101) 4 ((Exp.check (⟨0, []⟩ : DStore)) == 3) ?_ ?_ ?_
  · intro hb38 hk
    simp only [Bool.and_eq_true, beq_iff_eq, Bool.not_eq_true', decide_eq_true_eq] at hb38
    refine o_unguard 97 rfl rfl ?_
    refine o_pure (p_build (cells := [.int .i64 0, .slice none 0 0]) fp24 ze24 rfl rfl) rfl rfl rfl ?_
    refine o_unguard 97 rfl rfl ?_
    refine o_call0 (v := .int .i64 (Exp.check (⟨0, []⟩ : DStore))) rfl (echeck_ok (⟨0, []⟩ : DStore) none 0) hf25 (fun w hw => rd_nil w hw) rfl ?_
    refine o_unguard 97 rfl rfl ?_
    refine o_pure (p_eq (p := (Exp.check (⟨0, []⟩ : DStore))) (q := 3) rfl rfl) rfl rfl rfl ?_
    refine o_pure (p_pick_true (u := .bool ((Exp.check (⟨0, []⟩ : DStore)) == 3)) rfl rfl) rfl rfl rfl ?_
    exact o_sub (Sub.cons rfl (Sub.skip rfl (Sub.skip rfl (Sub.skip rfl (Sub.skip rfl (Sub.skip rfl (Sub.refl _))))))) hk
  · intro hb38 hk
    refine o_guard_no rfl 97 rfl rfl rfl rfl rfl ?_
    refine o_guard_no rfl 97 rfl rfl rfl rfl rfl ?_
    refine o_guard_no rfl 97 rfl rfl rfl rfl rfl ?_
    refine o_pure (p_pick_false (v := .bool false) rfl rfl) rfl rfl rfl ?_
    exact o_sub (Sub.cons rfl (Sub.skip rfl (Sub.skip rfl (Sub.skip rfl (Sub.skip rfl (Sub.skip rfl (Sub.refl _))))))) hk
  refine o_pure (p_assign (v := .bool ((((((((((((((Exp.putErr (⟨10, []⟩ : DStore) (7 : Int) (70 : Int) (100 : Int)) == 0) && ((Exp.putErr (Exp.put (⟨10, []⟩ : DStore) (7 : Int) (70 : Int) (100 : Int)) (3 : Int) (30 : Int) (105 : Int)) == 0)) && (((Exp.get (Exp.put (Exp.put (⟨10, []⟩ : DStore) (7 : Int) (70 : Int) (100 : Int)) (3 : Int) (30 : Int) (105 : Int)) (7 : Int) (109 : Int)).1) == 70)) && ((Exp.get (Exp.put (Exp.put (⟨10, []⟩ : DStore) (7 : Int) (70 : Int) (100 : Int)) (3 : Int) (30 : Int) (105 : Int)) (7 : Int) (109 : Int)).2)) && ((Exp.getErr (Exp.put (Exp.put (⟨10, []⟩ : DStore) (7 : Int) (70 : Int) (100 : Int)) (3 : Int) (30 : Int) (105 : Int)) (7 : Int) (109 : Int)) == 0)) && (!((Exp.get (Exp.put (Exp.put (⟨10, []⟩ : DStore) (7 : Int) (70 : Int) (100 : Int)) (3 : Int) (30 : Int) (105 : Int)) (7 : Int) (110 : Int)).2))) && ((Exp.getErr (Exp.put (Exp.put (⟨10, []⟩ : DStore) (7 : Int) (70 : Int) (100 : Int)) (3 : Int) (30 : Int) (105 : Int)) (7 : Int) (110 : Int)) == 0)) && ((Exp.next (Exp.put (Exp.put (⟨10, []⟩ : DStore) (7 : Int) (70 : Int) (100 : Int)) (3 : Int) (30 : Int) (105 : Int))) == 110)) && ((Exp.nextErr (Exp.put (Exp.put (⟨10, []⟩ : DStore) (7 : Int) (70 : Int) (100 : Int)) (3 : Int) (30 : Int) (105 : Int))) == 0)) && (decide (((Exp.sweep (Exp.put (Exp.put (⟨10, []⟩ : DStore) (7 : Int) (70 : Int) (100 : Int)) (3 : Int) (30 : Int) (105 : Int)) (110 : Int)).1) = (⟨10, [(⟨3, 30, 115⟩ : DEntry)]⟩ : DStore)))) && (Ref.sameInts ((Exp.sweep (Exp.put (Exp.put (⟨10, []⟩ : DStore) (7 : Int) (70 : Int) (100 : Int)) (3 : Int) (30 : Int) (105 : Int)) (110 : Int)).2) ([7]))) && ((Exp.nowErr (Exp.put (Exp.put (⟨10, []⟩ : DStore) (7 : Int) (70 : Int) (100 : Int)) (3 : Int) (30 : Int) (105 : Int)) (110 : Int)) == 0)) && ((Exp.check (⟨0, []⟩ : DStore)) == 3))) rfl) rfl rfl rfl ?_
  refine o_nil ?_
  refine q_then ?_
  refine c_ret ?_
  have hr0 : (((((((((((((((Exp.putErr (⟨10, []⟩ : DStore) (7 : Int) (70 : Int) (100 : Int)) == 0) && ((Exp.putErr (Exp.put (⟨10, []⟩ : DStore) (7 : Int) (70 : Int) (100 : Int)) (3 : Int) (30 : Int) (105 : Int)) == 0)) && (((Exp.get (Exp.put (Exp.put (⟨10, []⟩ : DStore) (7 : Int) (70 : Int) (100 : Int)) (3 : Int) (30 : Int) (105 : Int)) (7 : Int) (109 : Int)).1) == 70)) && ((Exp.get (Exp.put (Exp.put (⟨10, []⟩ : DStore) (7 : Int) (70 : Int) (100 : Int)) (3 : Int) (30 : Int) (105 : Int)) (7 : Int) (109 : Int)).2)) && ((Exp.getErr (Exp.put (Exp.put (⟨10, []⟩ : DStore) (7 : Int) (70 : Int) (100 : Int)) (3 : Int) (30 : Int) (105 : Int)) (7 : Int) (109 : Int)) == 0)) && (!((Exp.get (Exp.put (Exp.put (⟨10, []⟩ : DStore) (7 : Int) (70 : Int) (100 : Int)) (3 : Int) (30 : Int) (105 : Int)) (7 : Int) (110 : Int)).2))) && ((Exp.getErr (Exp.put (Exp.put (⟨10, []⟩ : DStore) (7 : Int) (70 : Int) (100 : Int)) (3 : Int) (30 : Int) (105 : Int)) (7 : Int) (110 : Int)) == 0)) && ((Exp.next (Exp.put (Exp.put (⟨10, []⟩ : DStore) (7 : Int) (70 : Int) (100 : Int)) (3 : Int) (30 : Int) (105 : Int))) == 110)) && ((Exp.nextErr (Exp.put (Exp.put (⟨10, []⟩ : DStore) (7 : Int) (70 : Int) (100 : Int)) (3 : Int) (30 : Int) (105 : Int))) == 0)) && (decide (((Exp.sweep (Exp.put (Exp.put (⟨10, []⟩ : DStore) (7 : Int) (70 : Int) (100 : Int)) (3 : Int) (30 : Int) (105 : Int)) (110 : Int)).1) = (⟨10, [(⟨3, 30, 115⟩ : DEntry)]⟩ : DStore)))) && (Ref.sameInts ((Exp.sweep (Exp.put (Exp.put (⟨10, []⟩ : DStore) (7 : Int) (70 : Int) (100 : Int)) (3 : Int) (30 : Int) (105 : Int)) (110 : Int)).2) ([7]))) && ((Exp.nowErr (Exp.put (Exp.put (⟨10, []⟩ : DStore) (7 : Int) (70 : Int) (100 : Int)) (3 : Int) (30 : Int) (105 : Int)) (110 : Int)) == 0)) && ((Exp.check (⟨0, []⟩ : DStore)) == 3)) : Bool) = true := by
    first | rfl | decide +kernel
  refine q_end0 (v := .bool ((((((((((((((Exp.putErr (⟨10, []⟩ : DStore) (7 : Int) (70 : Int) (100 : Int)) == 0) && ((Exp.putErr (Exp.put (⟨10, []⟩ : DStore) (7 : Int) (70 : Int) (100 : Int)) (3 : Int) (30 : Int) (105 : Int)) == 0)) && (((Exp.get (Exp.put (Exp.put (⟨10, []⟩ : DStore) (7 : Int) (70 : Int) (100 : Int)) (3 : Int) (30 : Int) (105 : Int)) (7 : Int) (109 : Int)).1) == 70)) && ((Exp.get (Exp.put (Exp.put (⟨10, []⟩ : DStore) (7 : Int) (70 : Int) (100 : Int)) (3 : Int) (30 : Int) (105 : Int)) (7 : Int) (109 : Int)).2)) && ((Exp.getErr (Exp.put (Exp.put (⟨10, []⟩ : DStore) (7 : Int) (70 : Int) (100 : Int)) (3 : Int) (30 : Int) (105 : Int)) (7 : Int) (109 : Int)) == 0)) && (!((Exp.get (Exp.put (Exp.put (⟨10, []⟩ : DStore) (7 : Int) (70 : Int) (100 : Int)) (3 : Int) (30 : Int) (105 : Int)) (7 : Int) (110 : Int)).2))) && ((Exp.getErr (Exp.put (Exp.put (⟨10, []⟩ : DStore) (7 : Int) (70 : Int) (100 : Int)) (3 : Int) (30 : Int) (105 : Int)) (7 : Int) (110 : Int)) == 0)) && ((Exp.next (Exp.put (Exp.put (⟨10, []⟩ : DStore) (7 : Int) (70 : Int) (100 : Int)) (3 : Int) (30 : Int) (105 : Int))) == 110)) && ((Exp.nextErr (Exp.put (Exp.put (⟨10, []⟩ : DStore) (7 : Int) (70 : Int) (100 : Int)) (3 : Int) (30 : Int) (105 : Int))) == 0)) && (decide (((Exp.sweep (Exp.put (Exp.put (⟨10, []⟩ : DStore) (7 : Int) (70 : Int) (100 : Int)) (3 : Int) (30 : Int) (105 : Int)) (110 : Int)).1) = (⟨10, [(⟨3, 30, 115⟩ : DEntry)]⟩ : DStore)))) && (Ref.sameInts ((Exp.sweep (Exp.put (Exp.put (⟨10, []⟩ : DStore) (7 : Int) (70 : Int) (100 : Int)) (3 : Int) (30 : Int) (105 : Int)) (110 : Int)).2) ([7]))) && ((Exp.nowErr (Exp.put (Exp.put (⟨10, []⟩ : DStore) (7 : Int) (70 : Int) (100 : Int)) (3 : Int) (30 : Int) (105 : Int)) (110 : Int)) == 0)) && ((Exp.check (⟨0, []⟩ : DStore)) == 3))) (rt1 rfl (r_tmp rfl)) (i := 5) rfl ?_
  exact (by have hcc := congrArg (fun (y0 : Bool) => (.bool y0 : Value)) hr0; exact hcc)
end Go.Proofs.Ytkndekkacimekaa
