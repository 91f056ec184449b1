/- The walks, printed by a program from the translation and a specification. -/
import Derived.Test.YthecfjipaepcgaaShF
import Derived.Test.YthecfjipaepcgaaShLaw
import Derived.Test.YthecfjipaepcgaaShW3
namespace Go.Proofs.Ythecfjipaepcgaa
open Go.Sx Go.RowKit
set_option maxHeartbeats 8000000 in
set_option maxRecDepth 100000 in
theorem trio_ok  : FnM Try.prog 67 [] (fun _ => True) (Option Addr × Nat) (fun p => .slice p.1 ([(⟨(ByteArray.mk #[97]), 1⟩ : DShard), (⟨(ByteArray.mk #[98]), 2⟩ : DShard), (⟨(ByteArray.mk #[99]), 1⟩ : DShard)]).length p.2) (fun p S w => SlO tShard S w p.1 p.2 ([(⟨(ByteArray.mk #[97]), 1⟩ : DShard), (⟨(ByteArray.mk #[98]), 2⟩ : DShard), (⟨(ByteArray.mk #[99]), 1⟩ : DShard)])) := by
  refine fnM (nt := 5) (F0 := []) Try.func67 rfl Try.ntmps67 rfl rfl (fun w0 hpre => ?_)
  refine c_seq ?_
  refine c_region ?_
  refine o_pure (p_assign (v := .slice none 0 0) rfl) rfl rfl rfl ?_
  refine o_nil ?_
  refine q_then ?_
  refine c_seq ?_
  refine c_region ?_
  refine o_pure (p_build (cells := [.string (ByteArray.mk #[97]), .int .i64 1]) fp50 ze50 rfl rfl) rfl rfl rfl ?_
  refine o_pure (p_build (cells := [.string (ByteArray.mk #[98]), .int .i64 2]) fp50 ze50 rfl rfl) rfl rfl rfl ?_
  refine o_pure (p_build (cells := [.string (ByteArray.mk #[99]), .int .i64 1]) fp50 ze50 rfl rfl) rfl rfl rfl ?_
  refine o_buildSlice (m := 3) (T := tShard) (L := [(⟨(ByteArray.mk #[97]), 1⟩ : DShard), (⟨(ByteArray.mk #[98]), 2⟩ : DShard), (⟨(ByteArray.mk #[99]), 1⟩ : DShard)]) (vs := [.agg #[.string (ByteArray.mk #[97]), .int .i64 1], .agg #[.string (ByteArray.mk #[98]), .int .i64 2], .agg #[.string (ByteArray.mk #[99]), .int .i64 1]]) rfl rfl rfl rfl Try.underlying43 sz50 (by decide) ze50 rfl (by decide) rfl (fun S1 a2 => ?_)
  refine o_pure (p_assign (v := .slice a2 ([(⟨(ByteArray.mk #[97]), 1⟩ : DShard), (⟨(ByteArray.mk #[98]), 2⟩ : DShard), (⟨(ByteArray.mk #[99]), 1⟩ : DShard)]).length ([(⟨(ByteArray.mk #[97]), 1⟩ : DShard), (⟨(ByteArray.mk #[98]), 2⟩ : DShard), (⟨(ByteArray.mk #[99]), 1⟩ : DShard)].length)) rfl) rfl rfl rfl ?_
  refine o_nil ?_
  refine q_then ?_
  refine c_ret ?_
  refine q_endM (p := (a2, [(⟨(ByteArray.mk #[97]), 1⟩ : DShard), (⟨(ByteArray.mk #[98]), 2⟩ : DShard), (⟨(ByteArray.mk #[99]), 1⟩ : DShard)].length)) S1 (rt1 rfl (r_tmp rfl)) (i := 1) rfl ?_ ?_ ?_
  · exact rfl
  · exact fun w hw => hw.above (i := 1) (j := 0) (by decide) rfl rfl
  · intro w hw; exact (hw.at (i := 0) rfl).here

set_option maxHeartbeats 8000000 in
set_option maxRecDepth 100000 in
theorem shardBegun_ok  : Fn0 Try.prog 30 [] (fun _ => True) (.bool true) := by
  refine fn0 (nt := 69) (F0 := []) Try.func30 rfl Try.ntmps30 rfl rfl (fun w0 hpre => ?_)
  have hlen3 : (Shd.owners [(⟨(ByteArray.mk #[97]), 1⟩ : DShard), (⟨(ByteArray.mk #[98]), 2⟩ : DShard), (⟨(ByteArray.mk #[99]), 1⟩ : DShard)] (ByteArray.mk #[107]) 3).length = 3 := by decide +kernel
  have htl : [(⟨(ByteArray.mk #[97]), 1⟩ : DShard), (⟨(ByteArray.mk #[98]), 2⟩ : DShard), (⟨(ByteArray.mk #[99]), 1⟩ : DShard)].length = 3 := rfl
  refine c_seq ?_
  refine c_region ?_
  refine o_pure (p_assign (v := .bool false) rfl) rfl rfl rfl ?_
  refine o_nil ?_
  refine q_then ?_
  refine c_seq ?_
  refine c_region ?_
  refine o_callM rfl (trio_ok ) hf67 (fun _ _ => trivial) rfl (fun _ _ _ _ ha hA => SlO.agree ha hA) ?_
  rintro ⟨a3, c4⟩ S1
  refine o_know (fun w hw => own_len (i := 0) (T := tShard) hw rfl) (fun hlr5 => ?_)
  refine o_callM rfl (sowners_ok ([(⟨(ByteArray.mk #[97]), 1⟩ : DShard), (⟨(ByteArray.mk #[98]), 2⟩ : DShard), (⟨(ByteArray.mk #[99]), 1⟩ : DShard)]) a3 c4 (ByteArray.mk #[107]) (3 : Int)) hf32 (fun w hw => (rd_own (i := 0) rfl) w hw) rfl (fun _ _ _ _ ha hA => SlO.agree ha hA) ?_
  rintro ⟨a8, c9⟩ S6
  refine o_know (fun w hw => own_len (i := 0) (T := tInt) hw rfl) (fun hlr10 => ?_)
  refine o_pure (p_move (v := .tuple #[.slice a8 (Shd.owners ([(⟨(ByteArray.mk #[97]), 1⟩ : DShard), (⟨(ByteArray.mk #[98]), 2⟩ : DShard), (⟨(ByteArray.mk #[99]), 1⟩ : DShard)]) (ByteArray.mk #[107]) (3 : Int)).length c9, .int .i64 (Shd.ownsErr ([(⟨(ByteArray.mk #[97]), 1⟩ : DShard), (⟨(ByteArray.mk #[98]), 2⟩ : DShard), (⟨(ByteArray.mk #[99]), 1⟩ : DShard)]) (ByteArray.mk #[107]) (3 : Int))]) rfl) rfl rfl rfl ?_
  refine o_pure (p_extract (vs := [.slice a8 (Shd.owners ([(⟨(ByteArray.mk #[97]), 1⟩ : DShard), (⟨(ByteArray.mk #[98]), 2⟩ : DShard), (⟨(ByteArray.mk #[99]), 1⟩ : DShard)]) (ByteArray.mk #[107]) (3 : Int)).length c9, .int .i64 (Shd.ownsErr ([(⟨(ByteArray.mk #[97]), 1⟩ : DShard), (⟨(ByteArray.mk #[98]), 2⟩ : DShard), (⟨(ByteArray.mk #[99]), 1⟩ : DShard)]) (ByteArray.mk #[107]) (3 : Int))]) (v := .slice a8 (Shd.owners ([(⟨(ByteArray.mk #[97]), 1⟩ : DShard), (⟨(ByteArray.mk #[98]), 2⟩ : DShard), (⟨(ByteArray.mk #[99]), 1⟩ : DShard)]) (ByteArray.mk #[107]) (3 : Int)).length c9) rfl rfl) rfl rfl rfl ?_
  refine o_pure (p_extract (vs := [.slice a8 (Shd.owners ([(⟨(ByteArray.mk #[97]), 1⟩ : DShard), (⟨(ByteArray.mk #[98]), 2⟩ : DShard), (⟨(ByteArray.mk #[99]), 1⟩ : DShard)]) (ByteArray.mk #[107]) (3 : Int)).length c9, .int .i64 (Shd.ownsErr ([(⟨(ByteArray.mk #[97]), 1⟩ : DShard), (⟨(ByteArray.mk #[98]), 2⟩ : DShard), (⟨(ByteArray.mk #[99]), 1⟩ : DShard)]) (ByteArray.mk #[107]) (3 : Int))]) (v := .int .i64 (Shd.ownsErr ([(⟨(ByteArray.mk #[97]), 1⟩ : DShard), (⟨(ByteArray.mk #[98]), 2⟩ : DShard), (⟨(ByteArray.mk #[99]), 1⟩ : DShard)]) (ByteArray.mk #[107]) (3 : Int))) rfl rfl) rfl rfl rfl ?_
  refine o_pure (p_assign (v := .slice a8 (Shd.owners ([(⟨(ByteArray.mk #[97]), 1⟩ : DShard), (⟨(ByteArray.mk #[98]), 2⟩ : DShard), (⟨(ByteArray.mk #[99]), 1⟩ : DShard)]) (ByteArray.mk #[107]) (3 : Int)).length c9) rfl) rfl rfl rfl ?_
  refine o_pure (p_assign (v := .int .i64 (Shd.ownsErr ([(⟨(ByteArray.mk #[97]), 1⟩ : DShard), (⟨(ByteArray.mk #[98]), 2⟩ : DShard), (⟨(ByteArray.mk #[99]), 1⟩ : DShard)]) (ByteArray.mk #[107]) (3 : Int))) rfl) rfl rfl rfl ?_
  refine o_nil ?_
  refine q_then ?_
  refine c_seq ?_
  refine c_region ?_
  refine o_callM rfl (trio_ok ) hf67 (fun _ _ => trivial) rfl (fun _ _ _ _ ha hA => SlO.agree ha hA) ?_
  rintro ⟨a13, c14⟩ S11
  refine o_know (fun w hw => own_len (i := 0) (T := tShard) hw rfl) (fun hlr15 => ?_)
  refine o_call0 (v := .tuple #[.int .i64 (Shd.owner ([(⟨(ByteArray.mk #[97]), 1⟩ : DShard), (⟨(ByteArray.mk #[98]), 2⟩ : DShard), (⟨(ByteArray.mk #[99]), 1⟩ : DShard)]) (ByteArray.mk #[107])), .int .i64 (Shd.ownErr ([(⟨(ByteArray.mk #[97]), 1⟩ : DShard), (⟨(ByteArray.mk #[98]), 2⟩ : DShard), (⟨(ByteArray.mk #[99]), 1⟩ : DShard)]) (ByteArray.mk #[107]))]) rfl (sowner_ok ([(⟨(ByteArray.mk #[97]), 1⟩ : DShard), (⟨(ByteArray.mk #[98]), 2⟩ : DShard), (⟨(ByteArray.mk #[99]), 1⟩ : DShard)]) a13 c14 (ByteArray.mk #[107])) hf33 (fun w hw => (rd_own (i := 0) rfl) w hw) rfl ?_
  refine o_pure (p_move (v := .tuple #[.int .i64 (Shd.owner ([(⟨(ByteArray.mk #[97]), 1⟩ : DShard), (⟨(ByteArray.mk #[98]), 2⟩ : DShard), (⟨(ByteArray.mk #[99]), 1⟩ : DShard)]) (ByteArray.mk #[107])), .int .i64 (Shd.ownErr ([(⟨(ByteArray.mk #[97]), 1⟩ : DShard), (⟨(ByteArray.mk #[98]), 2⟩ : DShard), (⟨(ByteArray.mk #[99]), 1⟩ : DShard)]) (ByteArray.mk #[107]))]) rfl) rfl rfl rfl ?_
  refine o_pure (p_extract (vs := [.int .i64 (Shd.owner ([(⟨(ByteArray.mk #[97]), 1⟩ : DShard), (⟨(ByteArray.mk #[98]), 2⟩ : DShard), (⟨(ByteArray.mk #[99]), 1⟩ : DShard)]) (ByteArray.mk #[107])), .int .i64 (Shd.ownErr ([(⟨(ByteArray.mk #[97]), 1⟩ : DShard), (⟨(ByteArray.mk #[98]), 2⟩ : DShard), (⟨(ByteArray.mk #[99]), 1⟩ : DShard)]) (ByteArray.mk #[107]))]) (v := .int .i64 (Shd.owner ([(⟨(ByteArray.mk #[97]), 1⟩ : DShard), (⟨(ByteArray.mk #[98]), 2⟩ : DShard), (⟨(ByteArray.mk #[99]), 1⟩ : DShard)]) (ByteArray.mk #[107]))) rfl rfl) rfl rfl rfl ?_
  refine o_pure (p_extract (vs := [.int .i64 (Shd.owner ([(⟨(ByteArray.mk #[97]), 1⟩ : DShard), (⟨(ByteArray.mk #[98]), 2⟩ : DShard), (⟨(ByteArray.mk #[99]), 1⟩ : DShard)]) (ByteArray.mk #[107])), .int .i64 (Shd.ownErr ([(⟨(ByteArray.mk #[97]), 1⟩ : DShard), (⟨(ByteArray.mk #[98]), 2⟩ : DShard), (⟨(ByteArray.mk #[99]), 1⟩ : DShard)]) (ByteArray.mk #[107]))]) (v := .int .i64 (Shd.ownErr ([(⟨(ByteArray.mk #[97]), 1⟩ : DShard), (⟨(ByteArray.mk #[98]), 2⟩ : DShard), (⟨(ByteArray.mk #[99]), 1⟩ : DShard)]) (ByteArray.mk #[107]))) rfl rfl) rfl rfl rfl ?_
  refine o_pure (p_assign (v := .int .i64 (Shd.owner ([(⟨(ByteArray.mk #[97]), 1⟩ : DShard), (⟨(ByteArray.mk #[98]), 2⟩ : DShard), (⟨(ByteArray.mk #[99]), 1⟩ : DShard)]) (ByteArray.mk #[107]))) rfl) rfl rfl rfl ?_
  refine o_pure (p_assign (v := .int .i64 (Shd.ownErr ([(⟨(ByteArray.mk #[97]), 1⟩ : DShard), (⟨(ByteArray.mk #[98]), 2⟩ : DShard), (⟨(ByteArray.mk #[99]), 1⟩ : DShard)]) (ByteArray.mk #[107]))) rfl) rfl rfl rfl ?_
  refine o_nil ?_
  refine q_then ?_
  refine c_seq ?_
  refine c_region ?_
  refine o_callM rfl (trio_ok ) hf67 (fun _ _ => trivial) rfl (fun _ _ _ _ ha hA => SlO.agree ha hA) ?_
  rintro ⟨a18, c19⟩ S16
  refine o_know (fun w hw => own_len (i := 0) (T := tShard) hw rfl) (fun hlr20 => ?_)
  refine o_callM rfl (trio_ok ) hf67 (fun _ _ => trivial) rfl (fun _ _ _ _ ha hA => SlO.agree ha hA) ?_
  rintro ⟨a23, c24⟩ S21
  refine o_know (fun w hw => own_len (i := 0) (T := tShard) hw rfl) (fun hlr25 => ?_)
  refine o_pure (p_sliceH (L := ([(⟨(ByteArray.mk #[97]), 1⟩ : DShard), (⟨(ByteArray.mk #[98]), 2⟩ : DShard), (⟨(ByteArray.mk #[99]), 1⟩ : DShard)])) (T := tShard) (h := 2) rfl rfl Try.underlying43 sz50 (by omega) (by omega) (rd_own (i := 0) rfl)) rfl rfl rfl ?_
  refine o_buildSlice (m := 2) (T := tStr) (L := [(ByteArray.mk #[107]), (ByteArray.mk #[108])]) (vs := [.string (ByteArray.mk #[107]), .string (ByteArray.mk #[108])]) rfl rfl rfl rfl Try.underlying44 sz9 (by decide) ze9 rfl (by decide) rfl (fun S26 a27 => ?_)
  refine o_callM rfl (smoved_ok ([(⟨(ByteArray.mk #[97]), 1⟩ : DShard), (⟨(ByteArray.mk #[98]), 2⟩ : DShard), (⟨(ByteArray.mk #[99]), 1⟩ : DShard)]) a18 c19 (([(⟨(ByteArray.mk #[97]), 1⟩ : DShard), (⟨(ByteArray.mk #[98]), 2⟩ : DShard), (⟨(ByteArray.mk #[99]), 1⟩ : DShard)]).take 2) a23 c24 ([(ByteArray.mk #[107]), (ByteArray.mk #[108])]) a27 ([(ByteArray.mk #[107]), (ByteArray.mk #[108])].length)) hf27 (fun w hw => ⟨(rd_own (i := 2) rfl) w hw, (rd_takeC (hi := 2) (rd_own (i := 1) rfl) (by omega)) w hw, (rd_own (i := 0) rfl) w hw⟩) rfl (fun _ _ _ _ ha hA => SlO.agree ha hA) ?_
  rintro ⟨a31, c32⟩ S29
  refine o_know (fun w hw => own_len (i := 0) (T := tInt) hw rfl) (fun hlr33 => ?_)
  refine o_pure (p_move (v := .tuple #[.slice a31 (Shd.moved ([(⟨(ByteArray.mk #[97]), 1⟩ : DShard), (⟨(ByteArray.mk #[98]), 2⟩ : DShard), (⟨(ByteArray.mk #[99]), 1⟩ : DShard)]) (([(⟨(ByteArray.mk #[97]), 1⟩ : DShard), (⟨(ByteArray.mk #[98]), 2⟩ : DShard), (⟨(ByteArray.mk #[99]), 1⟩ : DShard)]).take 2) ([(ByteArray.mk #[107]), (ByteArray.mk #[108])])).length c32, .int .i64 (Shd.movErr ([(⟨(ByteArray.mk #[97]), 1⟩ : DShard), (⟨(ByteArray.mk #[98]), 2⟩ : DShard), (⟨(ByteArray.mk #[99]), 1⟩ : DShard)]) (([(⟨(ByteArray.mk #[97]), 1⟩ : DShard), (⟨(ByteArray.mk #[98]), 2⟩ : DShard), (⟨(ByteArray.mk #[99]), 1⟩ : DShard)]).take 2) ([(ByteArray.mk #[107]), (ByteArray.mk #[108])]))]) rfl) rfl rfl rfl ?_
  refine o_pure (p_extract (vs := [.slice a31 (Shd.moved ([(⟨(ByteArray.mk #[97]), 1⟩ : DShard), (⟨(ByteArray.mk #[98]), 2⟩ : DShard), (⟨(ByteArray.mk #[99]), 1⟩ : DShard)]) (([(⟨(ByteArray.mk #[97]), 1⟩ : DShard), (⟨(ByteArray.mk #[98]), 2⟩ : DShard), (⟨(ByteArray.mk #[99]), 1⟩ : DShard)]).take 2) ([(ByteArray.mk #[107]), (ByteArray.mk #[108])])).length c32, .int .i64 (Shd.movErr ([(⟨(ByteArray.mk #[97]), 1⟩ : DShard), (⟨(ByteArray.mk #[98]), 2⟩ : DShard), (⟨(ByteArray.mk #[99]), 1⟩ : DShard)]) (([(⟨(ByteArray.mk #[97]), 1⟩ : DShard), (⟨(ByteArray.mk #[98]), 2⟩ : DShard), (⟨(ByteArray.mk #[99]), 1⟩ : DShard)]).take 2) ([(ByteArray.mk #[107]), (ByteArray.mk #[108])]))]) (v := .slice a31 (Shd.moved ([(⟨(ByteArray.mk #[97]), 1⟩ : DShard), (⟨(ByteArray.mk #[98]), 2⟩ : DShard), (⟨(ByteArray.mk #[99]), 1⟩ : DShard)]) (([(⟨(ByteArray.mk #[97]), 1⟩ : DShard), (⟨(ByteArray.mk #[98]), 2⟩ : DShard), (⟨(ByteArray.mk #[99]), 1⟩ : DShard)]).take 2) ([(ByteArray.mk #[107]), (ByteArray.mk #[108])])).length c32) rfl rfl) rfl rfl rfl ?_
  refine o_pure (p_extract (vs := [.slice a31 (Shd.moved ([(⟨(ByteArray.mk #[97]), 1⟩ : DShard), (⟨(ByteArray.mk #[98]), 2⟩ : DShard), (⟨(ByteArray.mk #[99]), 1⟩ : DShard)]) (([(⟨(ByteArray.mk #[97]), 1⟩ : DShard), (⟨(ByteArray.mk #[98]), 2⟩ : DShard), (⟨(ByteArray.mk #[99]), 1⟩ : DShard)]).take 2) ([(ByteArray.mk #[107]), (ByteArray.mk #[108])])).length c32, .int .i64 (Shd.movErr ([(⟨(ByteArray.mk #[97]), 1⟩ : DShard), (⟨(ByteArray.mk #[98]), 2⟩ : DShard), (⟨(ByteArray.mk #[99]), 1⟩ : DShard)]) (([(⟨(ByteArray.mk #[97]), 1⟩ : DShard), (⟨(ByteArray.mk #[98]), 2⟩ : DShard), (⟨(ByteArray.mk #[99]), 1⟩ : DShard)]).take 2) ([(ByteArray.mk #[107]), (ByteArray.mk #[108])]))]) (v := .int .i64 (Shd.movErr ([(⟨(ByteArray.mk #[97]), 1⟩ : DShard), (⟨(ByteArray.mk #[98]), 2⟩ : DShard), (⟨(ByteArray.mk #[99]), 1⟩ : DShard)]) (([(⟨(ByteArray.mk #[97]), 1⟩ : DShard), (⟨(ByteArray.mk #[98]), 2⟩ : DShard), (⟨(ByteArray.mk #[99]), 1⟩ : DShard)]).take 2) ([(ByteArray.mk #[107]), (ByteArray.mk #[108])]))) rfl rfl) rfl rfl rfl ?_
  refine o_pure (p_assign (v := .slice a31 (Shd.moved ([(⟨(ByteArray.mk #[97]), 1⟩ : DShard), (⟨(ByteArray.mk #[98]), 2⟩ : DShard), (⟨(ByteArray.mk #[99]), 1⟩ : DShard)]) (([(⟨(ByteArray.mk #[97]), 1⟩ : DShard), (⟨(ByteArray.mk #[98]), 2⟩ : DShard), (⟨(ByteArray.mk #[99]), 1⟩ : DShard)]).take 2) ([(ByteArray.mk #[107]), (ByteArray.mk #[108])])).length c32) rfl) rfl rfl rfl ?_
  refine o_pure (p_assign (v := .int .i64 (Shd.movErr ([(⟨(ByteArray.mk #[97]), 1⟩ : DShard), (⟨(ByteArray.mk #[98]), 2⟩ : DShard), (⟨(ByteArray.mk #[99]), 1⟩ : DShard)]) (([(⟨(ByteArray.mk #[97]), 1⟩ : DShard), (⟨(ByteArray.mk #[98]), 2⟩ : DShard), (⟨(ByteArray.mk #[99]), 1⟩ : DShard)]).take 2) ([(ByteArray.mk #[107]), (ByteArray.mk #[108])]))) rfl) rfl rfl rfl ?_
  refine o_nil ?_
  refine q_then ?_
  refine c_seq ?_
  refine c_region ?_
  refine o_call0 (v := .tuple #[.int .i64 (Shd.owner [] (ByteArray.mk #[107])), .int .i64 (Shd.ownErr [] (ByteArray.mk #[107]))]) rfl (sowner_ok [] none 0 (ByteArray.mk #[107])) hf33 (fun w hw => rd_nil w hw) rfl ?_
  refine o_pure (p_move (v := .tuple #[.int .i64 (Shd.owner [] (ByteArray.mk #[107])), .int .i64 (Shd.ownErr [] (ByteArray.mk #[107]))]) rfl) rfl rfl rfl ?_
  refine o_pure (p_extract (vs := [.int .i64 (Shd.owner [] (ByteArray.mk #[107])), .int .i64 (Shd.ownErr [] (ByteArray.mk #[107]))]) (v := .int .i64 (Shd.owner [] (ByteArray.mk #[107]))) rfl rfl) rfl rfl rfl ?_
  refine o_pure (p_extract (vs := [.int .i64 (Shd.owner [] (ByteArray.mk #[107])), .int .i64 (Shd.ownErr [] (ByteArray.mk #[107]))]) (v := .int .i64 (Shd.ownErr [] (ByteArray.mk #[107]))) rfl rfl) rfl rfl rfl ?_
  refine o_pure (p_assign (v := .int .i64 (Shd.owner [] (ByteArray.mk #[107]))) rfl) rfl rfl rfl ?_
  refine o_pure (p_assign (v := .int .i64 (Shd.ownErr [] (ByteArray.mk #[107]))) rfl) rfl rfl rfl ?_
  refine o_nil ?_
  refine q_then ?_
  refine c_seq ?_
  refine c_region ?_
  refine o_pure (p_move (v := .int .i64 (Shd.ownsErr ([(⟨(ByteArray.mk #[97]), 1⟩ : DShard), (⟨(ByteArray.mk #[98]), 2⟩ : DShard), (⟨(ByteArray.mk #[99]), 1⟩ : DShard)]) (ByteArray.mk #[107]) (3 : Int))) rfl) rfl rfl rfl ?_
  refine o_pure (p_eq (p := (Shd.ownsErr ([(⟨(ByteArray.mk #[97]), 1⟩ : DShard), (⟨(ByteArray.mk #[98]), 2⟩ : DShard), (⟨(ByteArray.mk #[99]), 1⟩ : DShard)]) (ByteArray.mk #[107]) (3 : Int))) (q := 0) rfl rfl) rfl rfl rfl ?_
  refine o_pure (p_move (v := .bool ((Shd.ownsErr ([(⟨(ByteArray.mk #[97]), 1⟩ : DShard), (⟨(ByteArray.mk #[98]), 2⟩ : DShard), (⟨(ByteArray.mk #[99]), 1⟩ : DShard)]) (ByteArray.mk #[107]) (3 : Int)) == 0)) rfl) rfl rfl rfl ?_
  refine o_and (p := 37) 4 (((Shd.owners ([(⟨(ByteArray.mk #[97]), 1⟩ : DShard), (⟨(ByteArray.mk #[98]), 2⟩ : DShard), (⟨(ByteArray.mk #[99]), 1⟩ : DShard)]) (ByteArray.mk #[107]) (3 : Int)).length : Int) == 3) ?_ ?_ ?_
  · intro hb34 hk
    simp only [beq_iff_eq] at hb34
    refine o_unguard 33 rfl rfl ?_
    refine o_pure (p_move (v := .slice a8 (Shd.owners ([(⟨(ByteArray.mk #[97]), 1⟩ : DShard), (⟨(ByteArray.mk #[98]), 2⟩ : DShard), (⟨(ByteArray.mk #[99]), 1⟩ : DShard)]) (ByteArray.mk #[107]) (3 : Int)).length c9) rfl) rfl rfl rfl ?_
    refine o_unguard 33 rfl rfl ?_
    refine o_pure (p_len_slice (len := (Shd.owners ([(⟨(ByteArray.mk #[97]), 1⟩ : DShard), (⟨(ByteArray.mk #[98]), 2⟩ : DShard), (⟨(ByteArray.mk #[99]), 1⟩ : DShard)]) (ByteArray.mk #[107]) (3 : Int)).length) rfl rfl Try.underlying45) rfl rfl rfl ?_
    refine o_unguard 33 rfl rfl ?_
    refine o_pure (p_eq (p := ((Shd.owners ([(⟨(ByteArray.mk #[97]), 1⟩ : DShard), (⟨(ByteArray.mk #[98]), 2⟩ : DShard), (⟨(ByteArray.mk #[99]), 1⟩ : DShard)]) (ByteArray.mk #[107]) (3 : Int)).length : Int)) (q := 3) rfl rfl) rfl rfl rfl ?_
    refine o_pure (p_pick_true (u := .bool (((Shd.owners ([(⟨(ByteArray.mk #[97]), 1⟩ : DShard), (⟨(ByteArray.mk #[98]), 2⟩ : DShard), (⟨(ByteArray.mk #[99]), 1⟩ : DShard)]) (ByteArray.mk #[107]) (3 : Int)).length : Int) == 3)) rfl rfl) rfl rfl rfl ?_
    exact o_sub (Sub.cons rfl (Sub.skip rfl (Sub.skip rfl (Sub.skip rfl (Sub.skip rfl (Sub.skip rfl (Sub.refl _))))))) hk
  · intro hb34 hk
    refine o_guard_no rfl 33 rfl rfl rfl rfl rfl ?_
    refine o_guard_no rfl 33 rfl rfl rfl rfl rfl ?_
    refine o_guard_no rfl 33 rfl rfl rfl rfl rfl ?_
    refine o_pure (p_pick_false (v := .bool false) rfl rfl) rfl rfl rfl ?_
    exact o_sub (Sub.cons rfl (Sub.skip rfl (Sub.skip rfl (Sub.skip rfl (Sub.skip rfl (Sub.skip rfl (Sub.refl _))))))) hk
  refine o_pure (p_move (v := .bool (((Shd.ownsErr ([(⟨(ByteArray.mk #[97]), 1⟩ : DShard), (⟨(ByteArray.mk #[98]), 2⟩ : DShard), (⟨(ByteArray.mk #[99]), 1⟩ : DShard)]) (ByteArray.mk #[107]) (3 : Int)) == 0) && (((Shd.owners ([(⟨(ByteArray.mk #[97]), 1⟩ : DShard), (⟨(ByteArray.mk #[98]), 2⟩ : DShard), (⟨(ByteArray.mk #[99]), 1⟩ : DShard)]) (ByteArray.mk #[107]) (3 : Int)).length : Int) == 3))) rfl) rfl rfl rfl ?_
  refine o_and (p := 44) 6 ((Shd.owners ([(⟨(ByteArray.mk #[97]), 1⟩ : DShard), (⟨(ByteArray.mk #[98]), 2⟩ : DShard), (⟨(ByteArray.mk #[99]), 1⟩ : DShard)]) (ByteArray.mk #[107]) (3 : Int))[0] == (Shd.owner ([(⟨(ByteArray.mk #[97]), 1⟩ : DShard), (⟨(ByteArray.mk #[98]), 2⟩ : DShard), (⟨(ByteArray.mk #[99]), 1⟩ : DShard)]) (ByteArray.mk #[107]))) ?_ ?_ ?_
  · intro hb35 hk
    simp only [Bool.and_eq_true, beq_iff_eq] at hb35
    refine o_unguard 38 rfl rfl ?_
    refine o_pure (p_move (v := .slice a8 (Shd.owners ([(⟨(ByteArray.mk #[97]), 1⟩ : DShard), (⟨(ByteArray.mk #[98]), 2⟩ : DShard), (⟨(ByteArray.mk #[99]), 1⟩ : DShard)]) (ByteArray.mk #[107]) (3 : Int)).length c9) rfl) rfl rfl rfl ?_
    refine o_unguard 38 rfl rfl ?_
    refine o_pure (p_indexAddr (L := (Shd.owners ([(⟨(ByteArray.mk #[97]), 1⟩ : DShard), (⟨(ByteArray.mk #[98]), 2⟩ : DShard), (⟨(ByteArray.mk #[99]), 1⟩ : DShard)]) (ByteArray.mk #[107]) (3 : Int))) (T := tInt) (i := 0) rfl rfl (rd_own (i := 5) rfl) Try.underlying45 sz3 (by first | omega | decide +kernel) (by first | omega | decide +kernel)) rfl rfl rfl ?_
    refine o_unguard 38 rfl rfl ?_
    refine o_pure (p_loadE1 (i := 0) (T := tInt) (L := (Shd.owners ([(⟨(ByteArray.mk #[97]), 1⟩ : DShard), (⟨(ByteArray.mk #[98]), 2⟩ : DShard), (⟨(ByteArray.mk #[99]), 1⟩ : DShard)]) (ByteArray.mk #[107]) (3 : Int))) (v := .int .i64 ((Shd.owners ([(⟨(ByteArray.mk #[97]), 1⟩ : DShard), (⟨(ByteArray.mk #[98]), 2⟩ : DShard), (⟨(ByteArray.mk #[99]), 1⟩ : DShard)]) (ByteArray.mk #[107]) (3 : Int))[0])) rfl (rd_own (i := 5) rfl) (by first | assumption | omega | decide +kernel) sh3 rfl) rfl rfl rfl ?_
    refine o_unguard 38 rfl rfl ?_
    refine o_pure (p_move (v := .int .i64 (Shd.owner ([(⟨(ByteArray.mk #[97]), 1⟩ : DShard), (⟨(ByteArray.mk #[98]), 2⟩ : DShard), (⟨(ByteArray.mk #[99]), 1⟩ : DShard)]) (ByteArray.mk #[107]))) rfl) rfl rfl rfl ?_
    refine o_unguard 38 rfl rfl ?_
    refine o_pure (p_eq (p := (Shd.owners ([(⟨(ByteArray.mk #[97]), 1⟩ : DShard), (⟨(ByteArray.mk #[98]), 2⟩ : DShard), (⟨(ByteArray.mk #[99]), 1⟩ : DShard)]) (ByteArray.mk #[107]) (3 : Int))[0]) (q := (Shd.owner ([(⟨(ByteArray.mk #[97]), 1⟩ : DShard), (⟨(ByteArray.mk #[98]), 2⟩ : DShard), (⟨(ByteArray.mk #[99]), 1⟩ : DShard)]) (ByteArray.mk #[107]))) rfl rfl) rfl rfl rfl ?_
    refine o_pure (p_pick_true (u := .bool ((Shd.owners ([(⟨(ByteArray.mk #[97]), 1⟩ : DShard), (⟨(ByteArray.mk #[98]), 2⟩ : DShard), (⟨(ByteArray.mk #[99]), 1⟩ : DShard)]) (ByteArray.mk #[107]) (3 : Int))[0] == (Shd.owner ([(⟨(ByteArray.mk #[97]), 1⟩ : DShard), (⟨(ByteArray.mk #[98]), 2⟩ : DShard), (⟨(ByteArray.mk #[99]), 1⟩ : DShard)]) (ByteArray.mk #[107])))) rfl rfl) rfl rfl rfl ?_
    exact o_sub (Sub.cons rfl (Sub.skip rfl (Sub.skip rfl (Sub.skip rfl (Sub.skip rfl (Sub.skip rfl (Sub.skip rfl (Sub.skip rfl (Sub.refl _))))))))) hk
  · intro hb35 hk
    refine o_guard_no rfl 38 rfl rfl rfl rfl rfl ?_
    refine o_guard_no rfl 38 rfl rfl rfl rfl rfl ?_
    refine o_guard_no rfl 38 rfl rfl rfl rfl rfl ?_
    refine o_guard_no rfl 38 rfl rfl rfl rfl rfl ?_
    refine o_guard_no rfl 38 rfl rfl rfl rfl rfl ?_
    refine o_pure (p_pick_false (v := .bool false) rfl rfl) rfl rfl rfl ?_
    exact o_sub (Sub.cons rfl (Sub.skip rfl (Sub.skip rfl (Sub.skip rfl (Sub.skip rfl (Sub.skip rfl (Sub.skip rfl (Sub.skip rfl (Sub.refl _))))))))) hk
  refine o_pure (p_move (v := .bool ((((Shd.ownsErr ([(⟨(ByteArray.mk #[97]), 1⟩ : DShard), (⟨(ByteArray.mk #[98]), 2⟩ : DShard), (⟨(ByteArray.mk #[99]), 1⟩ : DShard)]) (ByteArray.mk #[107]) (3 : Int)) == 0) && (((Shd.owners ([(⟨(ByteArray.mk #[97]), 1⟩ : DShard), (⟨(ByteArray.mk #[98]), 2⟩ : DShard), (⟨(ByteArray.mk #[99]), 1⟩ : DShard)]) (ByteArray.mk #[107]) (3 : Int)).length : Int) == 3)) && ((Shd.owners ([(⟨(ByteArray.mk #[97]), 1⟩ : DShard), (⟨(ByteArray.mk #[98]), 2⟩ : DShard), (⟨(ByteArray.mk #[99]), 1⟩ : DShard)]) (ByteArray.mk #[107]) (3 : Int))[0] == (Shd.owner ([(⟨(ByteArray.mk #[97]), 1⟩ : DShard), (⟨(ByteArray.mk #[98]), 2⟩ : DShard), (⟨(ByteArray.mk #[99]), 1⟩ : DShard)]) (ByteArray.mk #[107]))))) rfl) rfl rfl rfl ?_
  refine o_and (p := 48) 3 ((Shd.ownErr ([(⟨(ByteArray.mk #[97]), 1⟩ : DShard), (⟨(ByteArray.mk #[98]), 2⟩ : DShard), (⟨(ByteArray.mk #[99]), 1⟩ : DShard)]) (ByteArray.mk #[107])) == 0) ?_ ?_ ?_
  · intro hb36 hk
    simp only [Bool.and_eq_true, beq_iff_eq] at hb36
    refine o_unguard 45 rfl rfl ?_
    refine o_pure (p_move (v := .int .i64 (Shd.ownErr ([(⟨(ByteArray.mk #[97]), 1⟩ : DShard), (⟨(ByteArray.mk #[98]), 2⟩ : DShard), (⟨(ByteArray.mk #[99]), 1⟩ : DShard)]) (ByteArray.mk #[107]))) rfl) rfl rfl rfl ?_
    refine o_unguard 45 rfl rfl ?_
    refine o_pure (p_eq (p := (Shd.ownErr ([(⟨(ByteArray.mk #[97]), 1⟩ : DShard), (⟨(ByteArray.mk #[98]), 2⟩ : DShard), (⟨(ByteArray.mk #[99]), 1⟩ : DShard)]) (ByteArray.mk #[107]))) (q := 0) rfl rfl) rfl rfl rfl ?_
    refine o_pure (p_pick_true (u := .bool ((Shd.ownErr ([(⟨(ByteArray.mk #[97]), 1⟩ : DShard), (⟨(ByteArray.mk #[98]), 2⟩ : DShard), (⟨(ByteArray.mk #[99]), 1⟩ : DShard)]) (ByteArray.mk #[107])) == 0)) rfl rfl) rfl rfl rfl ?_
    exact o_sub (Sub.cons rfl (Sub.skip rfl (Sub.skip rfl (Sub.skip rfl (Sub.skip rfl (Sub.refl _)))))) hk
  · intro hb36 hk
    refine o_guard_no rfl 45 rfl rfl rfl rfl rfl ?_
    refine o_guard_no rfl 45 rfl rfl rfl rfl rfl ?_
    refine o_pure (p_pick_false (v := .bool false) rfl rfl) rfl rfl rfl ?_
    exact o_sub (Sub.cons rfl (Sub.skip rfl (Sub.skip rfl (Sub.skip rfl (Sub.skip rfl (Sub.refl _)))))) hk
  refine o_pure (p_move (v := .bool (((((Shd.ownsErr ([(⟨(ByteArray.mk #[97]), 1⟩ : DShard), (⟨(ByteArray.mk #[98]), 2⟩ : DShard), (⟨(ByteArray.mk #[99]), 1⟩ : DShard)]) (ByteArray.mk #[107]) (3 : Int)) == 0) && (((Shd.owners ([(⟨(ByteArray.mk #[97]), 1⟩ : DShard), (⟨(ByteArray.mk #[98]), 2⟩ : DShard), (⟨(ByteArray.mk #[99]), 1⟩ : DShard)]) (ByteArray.mk #[107]) (3 : Int)).length : Int) == 3)) && ((Shd.owners ([(⟨(ByteArray.mk #[97]), 1⟩ : DShard), (⟨(ByteArray.mk #[98]), 2⟩ : DShard), (⟨(ByteArray.mk #[99]), 1⟩ : DShard)]) (ByteArray.mk #[107]) (3 : Int))[0] == (Shd.owner ([(⟨(ByteArray.mk #[97]), 1⟩ : DShard), (⟨(ByteArray.mk #[98]), 2⟩ : DShard), (⟨(ByteArray.mk #[99]), 1⟩ : DShard)]) (ByteArray.mk #[107])))) && ((Shd.ownErr ([(⟨(ByteArray.mk #[97]), 1⟩ : DShard), (⟨(ByteArray.mk #[98]), 2⟩ : DShard), (⟨(ByteArray.mk #[99]), 1⟩ : DShard)]) (ByteArray.mk #[107])) == 0))) rfl) rfl rfl rfl ?_
  refine o_and (p := 52) 3 ((Shd.movErr ([(⟨(ByteArray.mk #[97]), 1⟩ : DShard), (⟨(ByteArray.mk #[98]), 2⟩ : DShard), (⟨(ByteArray.mk #[99]), 1⟩ : DShard)]) (([(⟨(ByteArray.mk #[97]), 1⟩ : DShard), (⟨(ByteArray.mk #[98]), 2⟩ : DShard), (⟨(ByteArray.mk #[99]), 1⟩ : DShard)]).take 2) ([(ByteArray.mk #[107]), (ByteArray.mk #[108])])) == 0) ?_ ?_ ?_
  · intro hb37 hk
    simp only [Bool.and_eq_true, beq_iff_eq] at hb37
    refine o_unguard 49 rfl rfl ?_
    refine o_pure (p_move (v := .int .i64 (Shd.movErr ([(⟨(ByteArray.mk #[97]), 1⟩ : DShard), (⟨(ByteArray.mk #[98]), 2⟩ : DShard), (⟨(ByteArray.mk #[99]), 1⟩ : DShard)]) (([(⟨(ByteArray.mk #[97]), 1⟩ : DShard), (⟨(ByteArray.mk #[98]), 2⟩ : DShard), (⟨(ByteArray.mk #[99]), 1⟩ : DShard)]).take 2) ([(ByteArray.mk #[107]), (ByteArray.mk #[108])]))) rfl) rfl rfl rfl ?_
    refine o_unguard 49 rfl rfl ?_
    refine o_pure (p_eq (p := (Shd.movErr ([(⟨(ByteArray.mk #[97]), 1⟩ : DShard), (⟨(ByteArray.mk #[98]), 2⟩ : DShard), (⟨(ByteArray.mk #[99]), 1⟩ : DShard)]) (([(⟨(ByteArray.mk #[97]), 1⟩ : DShard), (⟨(ByteArray.mk #[98]), 2⟩ : DShard), (⟨(ByteArray.mk #[99]), 1⟩ : DShard)]).take 2) ([(ByteArray.mk #[107]), (ByteArray.mk #[108])]))) (q := 0) rfl rfl) rfl rfl rfl ?_
    refine o_pure (p_pick_true (u := .bool ((Shd.movErr ([(⟨(ByteArray.mk #[97]), 1⟩ : DShard), (⟨(ByteArray.mk #[98]), 2⟩ : DShard), (⟨(ByteArray.mk #[99]), 1⟩ : DShard)]) (([(⟨(ByteArray.mk #[97]), 1⟩ : DShard), (⟨(ByteArray.mk #[98]), 2⟩ : DShard), (⟨(ByteArray.mk #[99]), 1⟩ : DShard)]).take 2) ([(ByteArray.mk #[107]), (ByteArray.mk #[108])])) == 0)) rfl rfl) rfl rfl rfl ?_
    exact o_sub (Sub.cons rfl (Sub.skip rfl (Sub.skip rfl (Sub.skip rfl (Sub.skip rfl (Sub.refl _)))))) hk
  · intro hb37 hk
    refine o_guard_no rfl 49 rfl rfl rfl rfl rfl ?_
    refine o_guard_no rfl 49 rfl rfl rfl rfl rfl ?_
    refine o_pure (p_pick_false (v := .bool false) rfl rfl) rfl rfl rfl ?_
    exact o_sub (Sub.cons rfl (Sub.skip rfl (Sub.skip rfl (Sub.skip rfl (Sub.skip rfl (Sub.refl _)))))) hk
  refine o_pure (p_move (v := .bool ((((((Shd.ownsErr ([(⟨(ByteArray.mk #[97]), 1⟩ : DShard), (⟨(ByteArray.mk #[98]), 2⟩ : DShard), (⟨(ByteArray.mk #[99]), 1⟩ : DShard)]) (ByteArray.mk #[107]) (3 : Int)) == 0) && (((Shd.owners ([(⟨(ByteArray.mk #[97]), 1⟩ : DShard), (⟨(ByteArray.mk #[98]), 2⟩ : DShard), (⟨(ByteArray.mk #[99]), 1⟩ : DShard)]) (ByteArray.mk #[107]) (3 : Int)).length : Int) == 3)) && ((Shd.owners ([(⟨(ByteArray.mk #[97]), 1⟩ : DShard), (⟨(ByteArray.mk #[98]), 2⟩ : DShard), (⟨(ByteArray.mk #[99]), 1⟩ : DShard)]) (ByteArray.mk #[107]) (3 : Int))[0] == (Shd.owner ([(⟨(ByteArray.mk #[97]), 1⟩ : DShard), (⟨(ByteArray.mk #[98]), 2⟩ : DShard), (⟨(ByteArray.mk #[99]), 1⟩ : DShard)]) (ByteArray.mk #[107])))) && ((Shd.ownErr ([(⟨(ByteArray.mk #[97]), 1⟩ : DShard), (⟨(ByteArray.mk #[98]), 2⟩ : DShard), (⟨(ByteArray.mk #[99]), 1⟩ : DShard)]) (ByteArray.mk #[107])) == 0)) && ((Shd.movErr ([(⟨(ByteArray.mk #[97]), 1⟩ : DShard), (⟨(ByteArray.mk #[98]), 2⟩ : DShard), (⟨(ByteArray.mk #[99]), 1⟩ : DShard)]) (([(⟨(ByteArray.mk #[97]), 1⟩ : DShard), (⟨(ByteArray.mk #[98]), 2⟩ : DShard), (⟨(ByteArray.mk #[99]), 1⟩ : DShard)]).take 2) ([(ByteArray.mk #[107]), (ByteArray.mk #[108])])) == 0))) rfl) rfl rfl rfl ?_
  refine o_and (p := 57) 4 (decide (((Shd.moved ([(⟨(ByteArray.mk #[97]), 1⟩ : DShard), (⟨(ByteArray.mk #[98]), 2⟩ : DShard), (⟨(ByteArray.mk #[99]), 1⟩ : DShard)]) (([(⟨(ByteArray.mk #[97]), 1⟩ : DShard), (⟨(ByteArray.mk #[98]), 2⟩ : DShard), (⟨(ByteArray.mk #[99]), 1⟩ : DShard)]).take 2) ([(ByteArray.mk #[107]), (ByteArray.mk #[108])])).length : Int) ≤ 2)) ?_ ?_ ?_
  · intro hb38 hk
    simp only [Bool.and_eq_true, beq_iff_eq] at hb38
    refine o_unguard 53 rfl rfl ?_
    refine o_pure (p_move (v := .slice a31 (Shd.moved ([(⟨(ByteArray.mk #[97]), 1⟩ : DShard), (⟨(ByteArray.mk #[98]), 2⟩ : DShard), (⟨(ByteArray.mk #[99]), 1⟩ : DShard)]) (([(⟨(ByteArray.mk #[97]), 1⟩ : DShard), (⟨(ByteArray.mk #[98]), 2⟩ : DShard), (⟨(ByteArray.mk #[99]), 1⟩ : DShard)]).take 2) ([(ByteArray.mk #[107]), (ByteArray.mk #[108])])).length c32) rfl) rfl rfl rfl ?_
    refine o_unguard 53 rfl rfl ?_
    refine o_pure (p_len_slice (len := (Shd.moved ([(⟨(ByteArray.mk #[97]), 1⟩ : DShard), (⟨(ByteArray.mk #[98]), 2⟩ : DShard), (⟨(ByteArray.mk #[99]), 1⟩ : DShard)]) (([(⟨(ByteArray.mk #[97]), 1⟩ : DShard), (⟨(ByteArray.mk #[98]), 2⟩ : DShard), (⟨(ByteArray.mk #[99]), 1⟩ : DShard)]).take 2) ([(ByteArray.mk #[107]), (ByteArray.mk #[108])])).length) rfl rfl Try.underlying45) rfl rfl rfl ?_
    refine o_unguard 53 rfl rfl ?_
    refine o_pure (p_le (p := ((Shd.moved ([(⟨(ByteArray.mk #[97]), 1⟩ : DShard), (⟨(ByteArray.mk #[98]), 2⟩ : DShard), (⟨(ByteArray.mk #[99]), 1⟩ : DShard)]) (([(⟨(ByteArray.mk #[97]), 1⟩ : DShard), (⟨(ByteArray.mk #[98]), 2⟩ : DShard), (⟨(ByteArray.mk #[99]), 1⟩ : DShard)]).take 2) ([(ByteArray.mk #[107]), (ByteArray.mk #[108])])).length : Int)) (q := 2) rfl rfl) rfl rfl rfl ?_
    refine o_pure (p_pick_true (u := .bool (decide (((Shd.moved ([(⟨(ByteArray.mk #[97]), 1⟩ : DShard), (⟨(ByteArray.mk #[98]), 2⟩ : DShard), (⟨(ByteArray.mk #[99]), 1⟩ : DShard)]) (([(⟨(ByteArray.mk #[97]), 1⟩ : DShard), (⟨(ByteArray.mk #[98]), 2⟩ : DShard), (⟨(ByteArray.mk #[99]), 1⟩ : DShard)]).take 2) ([(ByteArray.mk #[107]), (ByteArray.mk #[108])])).length : Int) ≤ 2))) rfl rfl) rfl rfl rfl ?_
    exact o_sub (Sub.cons rfl (Sub.skip rfl (Sub.skip rfl (Sub.skip rfl (Sub.skip rfl (Sub.skip rfl (Sub.refl _))))))) hk
  · intro hb38 hk
    refine o_guard_no rfl 53 rfl rfl rfl rfl rfl ?_
    refine o_guard_no rfl 53 rfl rfl rfl rfl rfl ?_
    refine o_guard_no rfl 53 rfl rfl rfl rfl rfl ?_
    refine o_pure (p_pick_false (v := .bool false) rfl rfl) rfl rfl rfl ?_
    exact o_sub (Sub.cons rfl (Sub.skip rfl (Sub.skip rfl (Sub.skip rfl (Sub.skip rfl (Sub.skip rfl (Sub.refl _))))))) hk
  refine o_pure (p_move (v := .bool (((((((Shd.ownsErr ([(⟨(ByteArray.mk #[97]), 1⟩ : DShard), (⟨(ByteArray.mk #[98]), 2⟩ : DShard), (⟨(ByteArray.mk #[99]), 1⟩ : DShard)]) (ByteArray.mk #[107]) (3 : Int)) == 0) && (((Shd.owners ([(⟨(ByteArray.mk #[97]), 1⟩ : DShard), (⟨(ByteArray.mk #[98]), 2⟩ : DShard), (⟨(ByteArray.mk #[99]), 1⟩ : DShard)]) (ByteArray.mk #[107]) (3 : Int)).length : Int) == 3)) && ((Shd.owners ([(⟨(ByteArray.mk #[97]), 1⟩ : DShard), (⟨(ByteArray.mk #[98]), 2⟩ : DShard), (⟨(ByteArray.mk #[99]), 1⟩ : DShard)]) (ByteArray.mk #[107]) (3 : Int))[0] == (Shd.owner ([(⟨(ByteArray.mk #[97]), 1⟩ : DShard), (⟨(ByteArray.mk #[98]), 2⟩ : DShard), (⟨(ByteArray.mk #[99]), 1⟩ : DShard)]) (ByteArray.mk #[107])))) && ((Shd.ownErr ([(⟨(ByteArray.mk #[97]), 1⟩ : DShard), (⟨(ByteArray.mk #[98]), 2⟩ : DShard), (⟨(ByteArray.mk #[99]), 1⟩ : DShard)]) (ByteArray.mk #[107])) == 0)) && ((Shd.movErr ([(⟨(ByteArray.mk #[97]), 1⟩ : DShard), (⟨(ByteArray.mk #[98]), 2⟩ : DShard), (⟨(ByteArray.mk #[99]), 1⟩ : DShard)]) (([(⟨(ByteArray.mk #[97]), 1⟩ : DShard), (⟨(ByteArray.mk #[98]), 2⟩ : DShard), (⟨(ByteArray.mk #[99]), 1⟩ : DShard)]).take 2) ([(ByteArray.mk #[107]), (ByteArray.mk #[108])])) == 0)) && decide (((Shd.moved ([(⟨(ByteArray.mk #[97]), 1⟩ : DShard), (⟨(ByteArray.mk #[98]), 2⟩ : DShard), (⟨(ByteArray.mk #[99]), 1⟩ : DShard)]) (([(⟨(ByteArray.mk #[97]), 1⟩ : DShard), (⟨(ByteArray.mk #[98]), 2⟩ : DShard), (⟨(ByteArray.mk #[99]), 1⟩ : DShard)]).take 2) ([(ByteArray.mk #[107]), (ByteArray.mk #[108])])).length : Int) ≤ 2))) rfl) rfl rfl rfl ?_
  refine o_and (p := 61) 3 ((Shd.ownErr [] (ByteArray.mk #[107])) == 5) ?_ ?_ ?_
  · intro hb39 hk
    simp only [Bool.and_eq_true, beq_iff_eq, decide_eq_true_eq] at hb39
    refine o_unguard 58 rfl rfl ?_
    refine o_pure (p_move (v := .int .i64 (Shd.ownErr [] (ByteArray.mk #[107]))) rfl) rfl rfl rfl ?_
    refine o_unguard 58 rfl rfl ?_
    refine o_pure (p_eq (p := (Shd.ownErr [] (ByteArray.mk #[107]))) (q := 5) rfl rfl) rfl rfl rfl ?_
    refine o_pure (p_pick_true (u := .bool ((Shd.ownErr [] (ByteArray.mk #[107])) == 5)) rfl rfl) rfl rfl rfl ?_
    exact o_sub (Sub.cons rfl (Sub.skip rfl (Sub.skip rfl (Sub.skip rfl (Sub.skip rfl (Sub.refl _)))))) hk
  · intro hb39 hk
    refine o_guard_no rfl 58 rfl rfl rfl rfl rfl ?_
    refine o_guard_no rfl 58 rfl rfl rfl rfl rfl ?_
    refine o_pure (p_pick_false (v := .bool false) rfl rfl) rfl rfl rfl ?_
    exact o_sub (Sub.cons rfl (Sub.skip rfl (Sub.skip rfl (Sub.skip rfl (Sub.skip rfl (Sub.refl _)))))) hk
  refine o_pure (p_move (v := .bool ((((((((Shd.ownsErr ([(⟨(ByteArray.mk #[97]), 1⟩ : DShard), (⟨(ByteArray.mk #[98]), 2⟩ : DShard), (⟨(ByteArray.mk #[99]), 1⟩ : DShard)]) (ByteArray.mk #[107]) (3 : Int)) == 0) && (((Shd.owners ([(⟨(ByteArray.mk #[97]), 1⟩ : DShard), (⟨(ByteArray.mk #[98]), 2⟩ : DShard), (⟨(ByteArray.mk #[99]), 1⟩ : DShard)]) (ByteArray.mk #[107]) (3 : Int)).length : Int) == 3)) && ((Shd.owners ([(⟨(ByteArray.mk #[97]), 1⟩ : DShard), (⟨(ByteArray.mk #[98]), 2⟩ : DShard), (⟨(ByteArray.mk #[99]), 1⟩ : DShard)]) (ByteArray.mk #[107]) (3 : Int))[0] == (Shd.owner ([(⟨(ByteArray.mk #[97]), 1⟩ : DShard), (⟨(ByteArray.mk #[98]), 2⟩ : DShard), (⟨(ByteArray.mk #[99]), 1⟩ : DShard)]) (ByteArray.mk #[107])))) && ((Shd.ownErr ([(⟨(ByteArray.mk #[97]), 1⟩ : DShard), (⟨(ByteArray.mk #[98]), 2⟩ : DShard), (⟨(ByteArray.mk #[99]), 1⟩ : DShard)]) (ByteArray.mk #[107])) == 0)) && ((Shd.movErr ([(⟨(ByteArray.mk #[97]), 1⟩ : DShard), (⟨(ByteArray.mk #[98]), 2⟩ : DShard), (⟨(ByteArray.mk #[99]), 1⟩ : DShard)]) (([(⟨(ByteArray.mk #[97]), 1⟩ : DShard), (⟨(ByteArray.mk #[98]), 2⟩ : DShard), (⟨(ByteArray.mk #[99]), 1⟩ : DShard)]).take 2) ([(ByteArray.mk #[107]), (ByteArray.mk #[108])])) == 0)) && decide (((Shd.moved ([(⟨(ByteArray.mk #[97]), 1⟩ : DShard), (⟨(ByteArray.mk #[98]), 2⟩ : DShard), (⟨(ByteArray.mk #[99]), 1⟩ : DShard)]) (([(⟨(ByteArray.mk #[97]), 1⟩ : DShard), (⟨(ByteArray.mk #[98]), 2⟩ : DShard), (⟨(ByteArray.mk #[99]), 1⟩ : DShard)]).take 2) ([(ByteArray.mk #[107]), (ByteArray.mk #[108])])).length : Int) ≤ 2)) && ((Shd.ownErr [] (ByteArray.mk #[107])) == 5))) rfl) rfl rfl rfl ?_
  refine o_and (p := 68) 6 ((Shd.check ([(⟨ByteArray.empty, 1⟩ : DShard), (⟨ByteArray.empty, 2⟩ : DShard)])) == 6) ?_ ?_ ?_
  · intro hb40 hk
    simp only [Bool.and_eq_true, beq_iff_eq, decide_eq_true_eq] at hb40
    refine o_unguard 62 rfl rfl ?_
    refine o_pure (p_build (cells := [.string ByteArray.empty, .int .i64 1]) fp50 ze50 rfl rfl) rfl rfl rfl ?_
    refine o_unguard 62 rfl rfl ?_
    refine o_pure (p_build (cells := [.string ByteArray.empty, .int .i64 2]) fp50 ze50 rfl rfl) rfl rfl rfl ?_
    refine o_unguard 62 rfl rfl ?_
    refine o_buildSlice (m := 2) (T := tShard) (L := [(⟨ByteArray.empty, 1⟩ : DShard), (⟨ByteArray.empty, 2⟩ : DShard)]) (vs := [.agg #[.string ByteArray.empty, .int .i64 1], .agg #[.string ByteArray.empty, .int .i64 2]]) rfl rfl rfl rfl Try.underlying43 sz50 (by decide) ze50 rfl (by decide) rfl (fun S41 a42 => ?_)
    refine o_unguard 62 rfl rfl ?_
    refine o_call0 (v := .int .i64 (Shd.check ([(⟨ByteArray.empty, 1⟩ : DShard), (⟨ByteArray.empty, 2⟩ : DShard)]))) rfl (scheck_ok ([(⟨ByteArray.empty, 1⟩ : DShard), (⟨ByteArray.empty, 2⟩ : DShard)]) a42 ([(⟨ByteArray.empty, 1⟩ : DShard), (⟨ByteArray.empty, 2⟩ : DShard)].length)) hf38 (fun w hw => (rd_own (i := 0) rfl) w hw) rfl ?_
    refine o_unguard 62 rfl rfl ?_
    refine o_pure (p_eq (p := (Shd.check ([(⟨ByteArray.empty, 1⟩ : DShard), (⟨ByteArray.empty, 2⟩ : DShard)]))) (q := 6) rfl rfl) rfl rfl rfl ?_
    refine o_pure (p_pick_true (u := .bool ((Shd.check ([(⟨ByteArray.empty, 1⟩ : DShard), (⟨ByteArray.empty, 2⟩ : DShard)])) == 6)) rfl rfl) rfl rfl rfl ?_
    exact o_sub (Sub.cons rfl (Sub.skip rfl (Sub.skip rfl (Sub.skip rfl (Sub.skip rfl (Sub.skip rfl (Sub.skip rfl (Sub.skip rfl (Sub.refl _))))))))) (o_drop (List.Sublist.cons _ (List.Sublist.cons_cons _ (List.Sublist.cons_cons _ (List.Sublist.cons_cons _ (List.Sublist.cons_cons _ (List.Sublist.cons_cons _ (List.Sublist.cons_cons _ (List.Sublist.cons_cons _ (List.Sublist.cons_cons _ (List.Sublist.slnil)))))))))) hk)
  · intro hb40 hk
    refine o_guard_no rfl 62 rfl rfl rfl rfl rfl ?_
    refine o_guard_no rfl 62 rfl rfl rfl rfl rfl ?_
    refine o_guard_no rfl 62 rfl rfl rfl rfl rfl ?_
    refine o_guard_no rfl 62 rfl rfl rfl rfl rfl ?_
    refine o_guard_no rfl 62 rfl rfl rfl rfl rfl ?_
    refine o_pure (p_pick_false (v := .bool false) rfl rfl) rfl rfl rfl ?_
    exact o_sub (Sub.cons rfl (Sub.skip rfl (Sub.skip rfl (Sub.skip rfl (Sub.skip rfl (Sub.skip rfl (Sub.skip rfl (Sub.skip rfl (Sub.refl _))))))))) hk
  refine o_pure (p_assign (v := .bool (((((((((Shd.ownsErr ([(⟨(ByteArray.mk #[97]), 1⟩ : DShard), (⟨(ByteArray.mk #[98]), 2⟩ : DShard), (⟨(ByteArray.mk #[99]), 1⟩ : DShard)]) (ByteArray.mk #[107]) (3 : Int)) == 0) && (((Shd.owners ([(⟨(ByteArray.mk #[97]), 1⟩ : DShard), (⟨(ByteArray.mk #[98]), 2⟩ : DShard), (⟨(ByteArray.mk #[99]), 1⟩ : DShard)]) (ByteArray.mk #[107]) (3 : Int)).length : Int) == 3)) && ((Shd.owners ([(⟨(ByteArray.mk #[97]), 1⟩ : DShard), (⟨(ByteArray.mk #[98]), 2⟩ : DShard), (⟨(ByteArray.mk #[99]), 1⟩ : DShard)]) (ByteArray.mk #[107]) (3 : Int))[0] == (Shd.owner ([(⟨(ByteArray.mk #[97]), 1⟩ : DShard), (⟨(ByteArray.mk #[98]), 2⟩ : DShard), (⟨(ByteArray.mk #[99]), 1⟩ : DShard)]) (ByteArray.mk #[107])))) && ((Shd.ownErr ([(⟨(ByteArray.mk #[97]), 1⟩ : DShard), (⟨(ByteArray.mk #[98]), 2⟩ : DShard), (⟨(ByteArray.mk #[99]), 1⟩ : DShard)]) (ByteArray.mk #[107])) == 0)) && ((Shd.movErr ([(⟨(ByteArray.mk #[97]), 1⟩ : DShard), (⟨(ByteArray.mk #[98]), 2⟩ : DShard), (⟨(ByteArray.mk #[99]), 1⟩ : DShard)]) (([(⟨(ByteArray.mk #[97]), 1⟩ : DShard), (⟨(ByteArray.mk #[98]), 2⟩ : DShard), (⟨(ByteArray.mk #[99]), 1⟩ : DShard)]).take 2) ([(ByteArray.mk #[107]), (ByteArray.mk #[108])])) == 0)) && decide (((Shd.moved ([(⟨(ByteArray.mk #[97]), 1⟩ : DShard), (⟨(ByteArray.mk #[98]), 2⟩ : DShard), (⟨(ByteArray.mk #[99]), 1⟩ : DShard)]) (([(⟨(ByteArray.mk #[97]), 1⟩ : DShard), (⟨(ByteArray.mk #[98]), 2⟩ : DShard), (⟨(ByteArray.mk #[99]), 1⟩ : DShard)]).take 2) ([(ByteArray.mk #[107]), (ByteArray.mk #[108])])).length : Int) ≤ 2)) && ((Shd.ownErr [] (ByteArray.mk #[107])) == 5)) && ((Shd.check ([(⟨ByteArray.empty, 1⟩ : DShard), (⟨ByteArray.empty, 2⟩ : DShard)])) == 6))) rfl) rfl rfl rfl ?_
  refine o_nil ?_
  refine q_then ?_
  refine c_ret ?_
  have hr0 : ((((((((((Shd.ownsErr ([(⟨(ByteArray.mk #[97]), 1⟩ : DShard), (⟨(ByteArray.mk #[98]), 2⟩ : DShard), (⟨(ByteArray.mk #[99]), 1⟩ : DShard)]) (ByteArray.mk #[107]) (3 : Int)) == 0) && (((Shd.owners ([(⟨(ByteArray.mk #[97]), 1⟩ : DShard), (⟨(ByteArray.mk #[98]), 2⟩ : DShard), (⟨(ByteArray.mk #[99]), 1⟩ : DShard)]) (ByteArray.mk #[107]) (3 : Int)).length : Int) == 3)) && ((Shd.owners ([(⟨(ByteArray.mk #[97]), 1⟩ : DShard), (⟨(ByteArray.mk #[98]), 2⟩ : DShard), (⟨(ByteArray.mk #[99]), 1⟩ : DShard)]) (ByteArray.mk #[107]) (3 : Int))[0] == (Shd.owner ([(⟨(ByteArray.mk #[97]), 1⟩ : DShard), (⟨(ByteArray.mk #[98]), 2⟩ : DShard), (⟨(ByteArray.mk #[99]), 1⟩ : DShard)]) (ByteArray.mk #[107])))) && ((Shd.ownErr ([(⟨(ByteArray.mk #[97]), 1⟩ : DShard), (⟨(ByteArray.mk #[98]), 2⟩ : DShard), (⟨(ByteArray.mk #[99]), 1⟩ : DShard)]) (ByteArray.mk #[107])) == 0)) && ((Shd.movErr ([(⟨(ByteArray.mk #[97]), 1⟩ : DShard), (⟨(ByteArray.mk #[98]), 2⟩ : DShard), (⟨(ByteArray.mk #[99]), 1⟩ : DShard)]) (([(⟨(ByteArray.mk #[97]), 1⟩ : DShard), (⟨(ByteArray.mk #[98]), 2⟩ : DShard), (⟨(ByteArray.mk #[99]), 1⟩ : DShard)]).take 2) ([(ByteArray.mk #[107]), (ByteArray.mk #[108])])) == 0)) && decide (((Shd.moved ([(⟨(ByteArray.mk #[97]), 1⟩ : DShard), (⟨(ByteArray.mk #[98]), 2⟩ : DShard), (⟨(ByteArray.mk #[99]), 1⟩ : DShard)]) (([(⟨(ByteArray.mk #[97]), 1⟩ : DShard), (⟨(ByteArray.mk #[98]), 2⟩ : DShard), (⟨(ByteArray.mk #[99]), 1⟩ : DShard)]).take 2) ([(ByteArray.mk #[107]), (ByteArray.mk #[108])])).length : Int) ≤ 2)) && ((Shd.ownErr [] (ByteArray.mk #[107])) == 5)) && ((Shd.check ([(⟨ByteArray.empty, 1⟩ : DShard), (⟨ByteArray.empty, 2⟩ : DShard)])) == 6)) : Bool) = true := by
    first | rfl | decide +kernel
  refine q_end0 (v := .bool (((((((((Shd.ownsErr ([(⟨(ByteArray.mk #[97]), 1⟩ : DShard), (⟨(ByteArray.mk #[98]), 2⟩ : DShard), (⟨(ByteArray.mk #[99]), 1⟩ : DShard)]) (ByteArray.mk #[107]) (3 : Int)) == 0) && (((Shd.owners ([(⟨(ByteArray.mk #[97]), 1⟩ : DShard), (⟨(ByteArray.mk #[98]), 2⟩ : DShard), (⟨(ByteArray.mk #[99]), 1⟩ : DShard)]) (ByteArray.mk #[107]) (3 : Int)).length : Int) == 3)) && ((Shd.owners ([(⟨(ByteArray.mk #[97]), 1⟩ : DShard), (⟨(ByteArray.mk #[98]), 2⟩ : DShard), (⟨(ByteArray.mk #[99]), 1⟩ : DShard)]) (ByteArray.mk #[107]) (3 : Int))[0] == (Shd.owner ([(⟨(ByteArray.mk #[97]), 1⟩ : DShard), (⟨(ByteArray.mk #[98]), 2⟩ : DShard), (⟨(ByteArray.mk #[99]), 1⟩ : DShard)]) (ByteArray.mk #[107])))) && ((Shd.ownErr ([(⟨(ByteArray.mk #[97]), 1⟩ : DShard), (⟨(ByteArray.mk #[98]), 2⟩ : DShard), (⟨(ByteArray.mk #[99]), 1⟩ : DShard)]) (ByteArray.mk #[107])) == 0)) && ((Shd.movErr ([(⟨(ByteArray.mk #[97]), 1⟩ : DShard), (⟨(ByteArray.mk #[98]), 2⟩ : DShard), (⟨(ByteArray.mk #[99]), 1⟩ : DShard)]) (([(⟨(ByteArray.mk #[97]), 1⟩ : DShard), (⟨(ByteArray.mk #[98]), 2⟩ : DShard), (⟨(ByteArray.mk #[99]), 1⟩ : DShard)]).take 2) ([(ByteArray.mk #[107]), (ByteArray.mk #[108])])) == 0)) && decide (((Shd.moved ([(⟨(ByteArray.mk #[97]), 1⟩ : DShard), (⟨(ByteArray.mk #[98]), 2⟩ : DShard), (⟨(ByteArray.mk #[99]), 1⟩ : DShard)]) (([(⟨(ByteArray.mk #[97]), 1⟩ : DShard), (⟨(ByteArray.mk #[98]), 2⟩ : DShard), (⟨(ByteArray.mk #[99]), 1⟩ : DShard)]).take 2) ([(ByteArray.mk #[107]), (ByteArray.mk #[108])])).length : Int) ≤ 2)) && ((Shd.ownErr [] (ByteArray.mk #[107])) == 5)) && ((Shd.check ([(⟨ByteArray.empty, 1⟩ : DShard), (⟨ByteArray.empty, 2⟩ : DShard)])) == 6))) (rt1 rfl (r_tmp rfl)) (i := 7) rfl ?_
  exact (by have hcc := congrArg (fun (y0 : Bool) => (.bool y0 : Value)) hr0; exact hcc)
end Go.Proofs.Ythecfjipaepcgaa
