/- The walks, printed by a program from the translation and a specification. -/
import Derived.Test.YtnmbkopnopaigaaWhF
import Derived.Test.YtnmbkopnopaigaaWhPureM3
import Derived.Test.YtnmbkopnopaigaaSx24M4
namespace Go.Proofs.Ytnmbkopnopaigaa
open Go.Sx Go.RowKit
set_option maxHeartbeats 8000000 in
set_option maxRecDepth 100000 in
theorem wtime_ok (n : Int) : Fn0 Try.prog 65 [Vi n] (fun _ => True) (.bool (Wh.okTime n)) := by
 refine fn0 (nt := 9) (F0 := [(0, Vi n)]) Try.func65 rfl Try.ntmps65 rfl rfl (fun w0 hpre => ?_)
 refine c_seq (c_region ?_)
 refine o_as rfl rfl ?_
 refine o_nil (q_then (c_seq (c_region ?_)))
 refine o_mv rfl rfl ?_
 refine o_p (p_ge rfl rfl) ?_
 refine o_mv rfl rfl ?_
 refine o_and (p := 8) 3 (decide (n ≤ 262143)) ?_ ?_ ?_
 ·intro hb1 hk
  simp only [decide_eq_true_eq] at hb1
  refine o_unguard 5 rfl rfl ?_
  refine o_mv rfl rfl ?_
  refine o_unguard 5 rfl rfl ?_
  refine o_p (p_le rfl rfl) ?_
  refine o_pt rfl rfl rfl ?_
  exact o_sub (sr (Sub.skip rfl (Sub.skip rfl (Sub.skip rfl (Sub.skip rfl (Sub.refl _)))))) hk
 ·intro hb1 hk
  refine o_guard_no rfl 5 rfl rfl rfl rfl rfl ?_
  refine o_guard_no rfl 5 rfl rfl rfl rfl rfl ?_
  refine o_pf rfl rfl rfl ?_
  exact o_sub (sr (Sub.skip rfl (Sub.skip rfl (Sub.skip rfl (Sub.skip rfl (Sub.refl _)))))) hk
 refine o_as rfl rfl ?_
 refine o_nil (q_then (c_ret ?_))
 have hr0 : ((decide (0 ≤ n) && decide (n ≤ 262143)) : Bool) = (Wh.okTime n) := by
  rfl
 refine q_end0 (v := .bool (decide (0 ≤ n) && decide (n ≤ 262143))) (rt1 rfl (r_tmp rfl)) (i := 0) rfl ?_
 exact (by have hcc := congrArg (fun (y0 : Bool) => (.bool y0 : Value)) hr0; exact hcc)

set_option maxHeartbeats 8000000 in
set_option maxRecDepth 100000 in
theorem len64_ok (x : UInt64) (hy1 : x.toNat < 262144) : Fn0 Try.prog 151 [.int .u64 (x.toNat : Int)] (fun _ => True) (Vi (Wh.bl x.toNat : Int)) := by
 refine fn0 (nt := 25) (F0 := [(0, .int .u64 (x.toNat : Int))]) Try.func151 rfl Try.ntmps151 rfl rfl (fun w0 hpre => ?_)
 have hts : (ByteArray.mk #[0, 1, 2, 2, 3, 3, 3, 3, 4, 4, 4, 4, 4, 4, 4, 4, 5, 5, 5, 5, 5, 5, 5, 5, 5, 5, 5, 5, 5, 5, 5, 5, 6, 6, 6, 6, 6, 6, 6, 6, 6, 6, 6, 6, 6, 6, 6, 6, 6, 6, 6, 6, 6, 6, 6, 6, 6, 6, 6, 6, 6, 6, 6, 6, 7, 7, 7, 7, 7, 7, 7, 7, 7, 7, 7, 7, 7, 7, 7, 7, 7, 7, 7, 7, 7, 7, 7, 7, 7, 7, 7, 7, 7, 7, 7, 7, 7, 7, 7, 7, 7, 7, 7, 7, 7, 7, 7, 7, 7, 7, 7, 7, 7, 7, 7, 7, 7, 7, 7, 7, 7, 7, 7, 7, 7, 7, 7, 7, 8, 8, 8, 8, 8, 8, 8, 8, 8, 8, 8, 8, 8, 8, 8, 8, 8, 8, 8, 8, 8, 8, 8, 8, 8, 8, 8, 8, 8, 8, 8, 8, 8, 8, 8, 8, 8, 8, 8, 8, 8, 8, 8, 8, 8, 8, 8, 8, 8, 8, 8, 8, 8, 8, 8, 8, 8, 8, 8, 8, 8, 8, 8, 8, 8, 8, 8, 8, 8, 8, 8, 8, 8, 8, 8, 8, 8, 8, 8, 8, 8, 8, 8, 8, 8, 8, 8, 8, 8, 8, 8, 8, 8, 8, 8, 8, 8, 8, 8, 8, 8, 8, 8, 8, 8, 8, 8, 8, 8, 8, 8, 8, 8, 8, 8, 8, 8, 8, 8, 8, 8, 8, 8, 8, 8, 8, 8, 8]).size = 256 := rfl
 refine c_seq (c_region ?_)
 refine o_as rfl rfl ?_
 refine o_nil (q_then (c_seq (c_seq (c_region ?_))))
 refine o_mv rfl rfl ?_
 refine o_p (pu_ge (p := x) (q := (4294967296 : UInt64)) rfl rfl) ?_
 refine o_nil (q_then ?_)
 refine c_cond rfl (fun hc1 => ?_) (fun hc1 => ?_)
 ·simp only [decide_eq_true_eq] at hc1
  exfalso; exact Wh.u_no hy1 hc1
 ·simp only [decide_eq_false_iff_not, Int.not_le] at hc1
  refine c_skip (q_then (c_seq (c_seq (c_region ?_))))
  refine o_mv rfl rfl ?_
  refine o_p (pu_ge (p := x) (q := (65536 : UInt64)) rfl rfl) ?_
  refine o_nil (q_then ?_)
  refine c_cond rfl (fun hc2 => ?_) (fun hc2 => ?_)
  ·simp only [decide_eq_true_eq] at hc2
   have h16 := hc2
   refine c_seq (c_region ?_)
   refine o_mv rfl rfl ?_
   refine o_p (pu_shr (p := x) (m := 16) rfl rfl (by decide)) ?_
   refine o_as rfl rfl ?_
   refine o_nil (q_then (c_region ?_))
   refine o_mv rfl rfl ?_
   refine o_p (p_addb rfl rfl (by omega)) ?_
   refine o_as rfl rfl ?_
   refine o_nil (q_then (c_seq (c_seq (c_region ?_))))
   refine o_mv rfl rfl ?_
   refine o_p (pu_ge (p := (shrU x 16)) (q := (256 : UInt64)) rfl rfl) ?_
   refine o_nil (q_then ?_)
   refine c_cond rfl (fun hc3 => ?_) (fun hc3 => ?_)
   ·simp only [decide_eq_true_eq] at hc3
    exfalso; exact Wh.u_no2 hy1 hc3
   ·simp only [decide_eq_false_iff_not, Int.not_le] at hc3
    have h8 := hc3
    refine c_skip (q_then (c_seq (c_region ?_)))
    refine o_mv rfl rfl ?_
    refine o_mv rfl rfl ?_
    refine o_p (p_conv (z := ((shrU x 16).toNat : Int)) rfl Try.underlying100 Try.underlying5) ?_
    refine o_p (p_indexStr (z := (IntKind.u8.wrap ((shrU x 16).toNat : Int))) (i := (IntKind.u8.wrap ((shrU x 16).toNat : Int)).toNat) rfl rfl Try.underlying9 (by first | omega | exact (Int.toNat_of_nonneg (Wh.u8_bd _).1).symm | exact Wh.u8_lt _) (by first | omega | exact (Int.toNat_of_nonneg (Wh.u8_bd _).1).symm | exact Wh.u8_lt _)) ?_
    refine o_p (p_conv (z := ((byteAt (ByteArray.mk #[0, 1, 2, 2, 3, 3, 3, 3, 4, 4, 4, 4, 4, 4, 4, 4, 5, 5, 5, 5, 5, 5, 5, 5, 5, 5, 5, 5, 5, 5, 5, 5, 6, 6, 6, 6, 6, 6, 6, 6, 6, 6, 6, 6, 6, 6, 6, 6, 6, 6, 6, 6, 6, 6, 6, 6, 6, 6, 6, 6, 6, 6, 6, 6, 7, 7, 7, 7, 7, 7, 7, 7, 7, 7, 7, 7, 7, 7, 7, 7, 7, 7, 7, 7, 7, 7, 7, 7, 7, 7, 7, 7, 7, 7, 7, 7, 7, 7, 7, 7, 7, 7, 7, 7, 7, 7, 7, 7, 7, 7, 7, 7, 7, 7, 7, 7, 7, 7, 7, 7, 7, 7, 7, 7, 7, 7, 7, 7, 8, 8, 8, 8, 8, 8, 8, 8, 8, 8, 8, 8, 8, 8, 8, 8, 8, 8, 8, 8, 8, 8, 8, 8, 8, 8, 8, 8, 8, 8, 8, 8, 8, 8, 8, 8, 8, 8, 8, 8, 8, 8, 8, 8, 8, 8, 8, 8, 8, 8, 8, 8, 8, 8, 8, 8, 8, 8, 8, 8, 8, 8, 8, 8, 8, 8, 8, 8, 8, 8, 8, 8, 8, 8, 8, 8, 8, 8, 8, 8, 8, 8, 8, 8, 8, 8, 8, 8, 8, 8, 8, 8, 8, 8, 8, 8, 8, 8, 8, 8, 8, 8, 8, 8, 8, 8, 8, 8, 8, 8, 8, 8, 8, 8, 8, 8, 8, 8, 8, 8, 8, 8, 8, 8, 8, 8, 8, 8]) ((IntKind.u8.wrap ((shrU x 16).toNat : Int)).toNat)).toNat : Int)) rfl Try.underlying5 Try.underlying3) ?_
    refine o_p (p_add rfl rfl) ?_
    refine o_as rfl rfl ?_
    refine o_nil (q_then (c_ret ?_))
    have hr0 : ((IntKind.i64.wrap ((0 + 16) + (IntKind.i64.wrap ((byteAt (ByteArray.mk #[0, 1, 2, 2, 3, 3, 3, 3, 4, 4, 4, 4, 4, 4, 4, 4, 5, 5, 5, 5, 5, 5, 5, 5, 5, 5, 5, 5, 5, 5, 5, 5, 6, 6, 6, 6, 6, 6, 6, 6, 6, 6, 6, 6, 6, 6, 6, 6, 6, 6, 6, 6, 6, 6, 6, 6, 6, 6, 6, 6, 6, 6, 6, 6, 7, 7, 7, 7, 7, 7, 7, 7, 7, 7, 7, 7, 7, 7, 7, 7, 7, 7, 7, 7, 7, 7, 7, 7, 7, 7, 7, 7, 7, 7, 7, 7, 7, 7, 7, 7, 7, 7, 7, 7, 7, 7, 7, 7, 7, 7, 7, 7, 7, 7, 7, 7, 7, 7, 7, 7, 7, 7, 7, 7, 7, 7, 7, 7, 8, 8, 8, 8, 8, 8, 8, 8, 8, 8, 8, 8, 8, 8, 8, 8, 8, 8, 8, 8, 8, 8, 8, 8, 8, 8, 8, 8, 8, 8, 8, 8, 8, 8, 8, 8, 8, 8, 8, 8, 8, 8, 8, 8, 8, 8, 8, 8, 8, 8, 8, 8, 8, 8, 8, 8, 8, 8, 8, 8, 8, 8, 8, 8, 8, 8, 8, 8, 8, 8, 8, 8, 8, 8, 8, 8, 8, 8, 8, 8, 8, 8, 8, 8, 8, 8, 8, 8, 8, 8, 8, 8, 8, 8, 8, 8, 8, 8, 8, 8, 8, 8, 8, 8, 8, 8, 8, 8, 8, 8, 8, 8, 8, 8, 8, 8, 8, 8, 8, 8, 8, 8, 8, 8, 8, 8, 8, 8]) ((IntKind.u8.wrap ((shrU x 16).toNat : Int)).toNat)).toNat : Int)))) : Int) = (Wh.bl x.toNat : Int) := by
     first | exact Wh.len_a h8 | exact Wh.len_b hy1 h16 h8 | exact Wh.len_c hy1 h16
    refine q_end0 (v := Vi (IntKind.i64.wrap ((0 + 16) + (IntKind.i64.wrap ((byteAt (ByteArray.mk #[0, 1, 2, 2, 3, 3, 3, 3, 4, 4, 4, 4, 4, 4, 4, 4, 5, 5, 5, 5, 5, 5, 5, 5, 5, 5, 5, 5, 5, 5, 5, 5, 6, 6, 6, 6, 6, 6, 6, 6, 6, 6, 6, 6, 6, 6, 6, 6, 6, 6, 6, 6, 6, 6, 6, 6, 6, 6, 6, 6, 6, 6, 6, 6, 7, 7, 7, 7, 7, 7, 7, 7, 7, 7, 7, 7, 7, 7, 7, 7, 7, 7, 7, 7, 7, 7, 7, 7, 7, 7, 7, 7, 7, 7, 7, 7, 7, 7, 7, 7, 7, 7, 7, 7, 7, 7, 7, 7, 7, 7, 7, 7, 7, 7, 7, 7, 7, 7, 7, 7, 7, 7, 7, 7, 7, 7, 7, 7, 8, 8, 8, 8, 8, 8, 8, 8, 8, 8, 8, 8, 8, 8, 8, 8, 8, 8, 8, 8, 8, 8, 8, 8, 8, 8, 8, 8, 8, 8, 8, 8, 8, 8, 8, 8, 8, 8, 8, 8, 8, 8, 8, 8, 8, 8, 8, 8, 8, 8, 8, 8, 8, 8, 8, 8, 8, 8, 8, 8, 8, 8, 8, 8, 8, 8, 8, 8, 8, 8, 8, 8, 8, 8, 8, 8, 8, 8, 8, 8, 8, 8, 8, 8, 8, 8, 8, 8, 8, 8, 8, 8, 8, 8, 8, 8, 8, 8, 8, 8, 8, 8, 8, 8, 8, 8, 8, 8, 8, 8, 8, 8, 8, 8, 8, 8, 8, 8, 8, 8, 8, 8, 8, 8, 8, 8, 8, 8]) ((IntKind.u8.wrap ((shrU x 16).toNat : Int)).toNat)).toNat : Int))))) (rt1 rfl (r_tmp rfl)) (i := 0) rfl ?_
    exact (by have hcc := congrArg (fun (y0 : Int) => (.int .i64 y0 : Value)) hr0; exact hcc)
  ·simp only [decide_eq_false_iff_not, Int.not_le] at hc2
   have h16 := hc2
   refine c_skip (q_then (c_seq (c_seq (c_region ?_))))
   refine o_mv rfl rfl ?_
   refine o_p (pu_ge (p := x) (q := (256 : UInt64)) rfl rfl) ?_
   refine o_nil (q_then ?_)
   refine c_cond rfl (fun hc4 => ?_) (fun hc4 => ?_)
   ·simp only [decide_eq_true_eq] at hc4
    have h8 := hc4
    have hb8 := Wh.u_b8 h16
    refine c_seq (c_region ?_)
    refine o_mv rfl rfl ?_
    refine o_p (pu_shr (p := x) (m := 8) rfl rfl (by decide)) ?_
    refine o_as rfl rfl ?_
    refine o_nil (q_then (c_region ?_))
    refine o_mv rfl rfl ?_
    refine o_p (p_addb rfl rfl (by omega)) ?_
    refine o_as rfl rfl ?_
    refine o_nil (q_then (c_seq (c_region ?_)))
    refine o_mv rfl rfl ?_
    refine o_mv rfl rfl ?_
    refine o_p (p_conv (z := ((shrU x 8).toNat : Int)) rfl Try.underlying100 Try.underlying5) ?_
    refine o_p (p_indexStr (z := (IntKind.u8.wrap ((shrU x 8).toNat : Int))) (i := (IntKind.u8.wrap ((shrU x 8).toNat : Int)).toNat) rfl rfl Try.underlying9 (by first | omega | exact (Int.toNat_of_nonneg (Wh.u8_bd _).1).symm | exact Wh.u8_lt _) (by first | omega | exact (Int.toNat_of_nonneg (Wh.u8_bd _).1).symm | exact Wh.u8_lt _)) ?_
    refine o_p (p_conv (z := ((byteAt (ByteArray.mk #[0, 1, 2, 2, 3, 3, 3, 3, 4, 4, 4, 4, 4, 4, 4, 4, 5, 5, 5, 5, 5, 5, 5, 5, 5, 5, 5, 5, 5, 5, 5, 5, 6, 6, 6, 6, 6, 6, 6, 6, 6, 6, 6, 6, 6, 6, 6, 6, 6, 6, 6, 6, 6, 6, 6, 6, 6, 6, 6, 6, 6, 6, 6, 6, 7, 7, 7, 7, 7, 7, 7, 7, 7, 7, 7, 7, 7, 7, 7, 7, 7, 7, 7, 7, 7, 7, 7, 7, 7, 7, 7, 7, 7, 7, 7, 7, 7, 7, 7, 7, 7, 7, 7, 7, 7, 7, 7, 7, 7, 7, 7, 7, 7, 7, 7, 7, 7, 7, 7, 7, 7, 7, 7, 7, 7, 7, 7, 7, 8, 8, 8, 8, 8, 8, 8, 8, 8, 8, 8, 8, 8, 8, 8, 8, 8, 8, 8, 8, 8, 8, 8, 8, 8, 8, 8, 8, 8, 8, 8, 8, 8, 8, 8, 8, 8, 8, 8, 8, 8, 8, 8, 8, 8, 8, 8, 8, 8, 8, 8, 8, 8, 8, 8, 8, 8, 8, 8, 8, 8, 8, 8, 8, 8, 8, 8, 8, 8, 8, 8, 8, 8, 8, 8, 8, 8, 8, 8, 8, 8, 8, 8, 8, 8, 8, 8, 8, 8, 8, 8, 8, 8, 8, 8, 8, 8, 8, 8, 8, 8, 8, 8, 8, 8, 8, 8, 8, 8, 8, 8, 8, 8, 8, 8, 8, 8, 8, 8, 8, 8, 8, 8, 8, 8, 8, 8, 8]) ((IntKind.u8.wrap ((shrU x 8).toNat : Int)).toNat)).toNat : Int)) rfl Try.underlying5 Try.underlying3) ?_
    refine o_p (p_add rfl rfl) ?_
    refine o_as rfl rfl ?_
    refine o_nil (q_then (c_ret ?_))
    have hr0 : ((IntKind.i64.wrap ((0 + 8) + (IntKind.i64.wrap ((byteAt (ByteArray.mk #[0, 1, 2, 2, 3, 3, 3, 3, 4, 4, 4, 4, 4, 4, 4, 4, 5, 5, 5, 5, 5, 5, 5, 5, 5, 5, 5, 5, 5, 5, 5, 5, 6, 6, 6, 6, 6, 6, 6, 6, 6, 6, 6, 6, 6, 6, 6, 6, 6, 6, 6, 6, 6, 6, 6, 6, 6, 6, 6, 6, 6, 6, 6, 6, 7, 7, 7, 7, 7, 7, 7, 7, 7, 7, 7, 7, 7, 7, 7, 7, 7, 7, 7, 7, 7, 7, 7, 7, 7, 7, 7, 7, 7, 7, 7, 7, 7, 7, 7, 7, 7, 7, 7, 7, 7, 7, 7, 7, 7, 7, 7, 7, 7, 7, 7, 7, 7, 7, 7, 7, 7, 7, 7, 7, 7, 7, 7, 7, 8, 8, 8, 8, 8, 8, 8, 8, 8, 8, 8, 8, 8, 8, 8, 8, 8, 8, 8, 8, 8, 8, 8, 8, 8, 8, 8, 8, 8, 8, 8, 8, 8, 8, 8, 8, 8, 8, 8, 8, 8, 8, 8, 8, 8, 8, 8, 8, 8, 8, 8, 8, 8, 8, 8, 8, 8, 8, 8, 8, 8, 8, 8, 8, 8, 8, 8, 8, 8, 8, 8, 8, 8, 8, 8, 8, 8, 8, 8, 8, 8, 8, 8, 8, 8, 8, 8, 8, 8, 8, 8, 8, 8, 8, 8, 8, 8, 8, 8, 8, 8, 8, 8, 8, 8, 8, 8, 8, 8, 8, 8, 8, 8, 8, 8, 8, 8, 8, 8, 8, 8, 8, 8, 8, 8, 8, 8, 8]) ((IntKind.u8.wrap ((shrU x 8).toNat : Int)).toNat)).toNat : Int)))) : Int) = (Wh.bl x.toNat : Int) := by
     first | exact Wh.len_a h8 | exact Wh.len_b hy1 h16 h8 | exact Wh.len_c hy1 h16
    refine q_end0 (v := Vi (IntKind.i64.wrap ((0 + 8) + (IntKind.i64.wrap ((byteAt (ByteArray.mk #[0, 1, 2, 2, 3, 3, 3, 3, 4, 4, 4, 4, 4, 4, 4, 4, 5, 5, 5, 5, 5, 5, 5, 5, 5, 5, 5, 5, 5, 5, 5, 5, 6, 6, 6, 6, 6, 6, 6, 6, 6, 6, 6, 6, 6, 6, 6, 6, 6, 6, 6, 6, 6, 6, 6, 6, 6, 6, 6, 6, 6, 6, 6, 6, 7, 7, 7, 7, 7, 7, 7, 7, 7, 7, 7, 7, 7, 7, 7, 7, 7, 7, 7, 7, 7, 7, 7, 7, 7, 7, 7, 7, 7, 7, 7, 7, 7, 7, 7, 7, 7, 7, 7, 7, 7, 7, 7, 7, 7, 7, 7, 7, 7, 7, 7, 7, 7, 7, 7, 7, 7, 7, 7, 7, 7, 7, 7, 7, 8, 8, 8, 8, 8, 8, 8, 8, 8, 8, 8, 8, 8, 8, 8, 8, 8, 8, 8, 8, 8, 8, 8, 8, 8, 8, 8, 8, 8, 8, 8, 8, 8, 8, 8, 8, 8, 8, 8, 8, 8, 8, 8, 8, 8, 8, 8, 8, 8, 8, 8, 8, 8, 8, 8, 8, 8, 8, 8, 8, 8, 8, 8, 8, 8, 8, 8, 8, 8, 8, 8, 8, 8, 8, 8, 8, 8, 8, 8, 8, 8, 8, 8, 8, 8, 8, 8, 8, 8, 8, 8, 8, 8, 8, 8, 8, 8, 8, 8, 8, 8, 8, 8, 8, 8, 8, 8, 8, 8, 8, 8, 8, 8, 8, 8, 8, 8, 8, 8, 8, 8, 8, 8, 8, 8, 8, 8, 8]) ((IntKind.u8.wrap ((shrU x 8).toNat : Int)).toNat)).toNat : Int))))) (rt1 rfl (r_tmp rfl)) (i := 0) rfl ?_
    exact (by have hcc := congrArg (fun (y0 : Int) => (.int .i64 y0 : Value)) hr0; exact hcc)
   ·simp only [decide_eq_false_iff_not, Int.not_le] at hc4
    have h8 := hc4
    refine c_skip (q_then (c_seq (c_region ?_)))
    refine o_mv rfl rfl ?_
    refine o_mv rfl rfl ?_
    refine o_p (p_conv (z := (x.toNat : Int)) rfl Try.underlying100 Try.underlying5) ?_
    refine o_p (p_indexStr (z := (IntKind.u8.wrap (x.toNat : Int))) (i := (IntKind.u8.wrap (x.toNat : Int)).toNat) rfl rfl Try.underlying9 (by first | omega | exact (Int.toNat_of_nonneg (Wh.u8_bd _).1).symm | exact Wh.u8_lt _) (by first | omega | exact (Int.toNat_of_nonneg (Wh.u8_bd _).1).symm | exact Wh.u8_lt _)) ?_
    refine o_p (p_conv (z := ((byteAt (ByteArray.mk #[0, 1, 2, 2, 3, 3, 3, 3, 4, 4, 4, 4, 4, 4, 4, 4, 5, 5, 5, 5, 5, 5, 5, 5, 5, 5, 5, 5, 5, 5, 5, 5, 6, 6, 6, 6, 6, 6, 6, 6, 6, 6, 6, 6, 6, 6, 6, 6, 6, 6, 6, 6, 6, 6, 6, 6, 6, 6, 6, 6, 6, 6, 6, 6, 7, 7, 7, 7, 7, 7, 7, 7, 7, 7, 7, 7, 7, 7, 7, 7, 7, 7, 7, 7, 7, 7, 7, 7, 7, 7, 7, 7, 7, 7, 7, 7, 7, 7, 7, 7, 7, 7, 7, 7, 7, 7, 7, 7, 7, 7, 7, 7, 7, 7, 7, 7, 7, 7, 7, 7, 7, 7, 7, 7, 7, 7, 7, 7, 8, 8, 8, 8, 8, 8, 8, 8, 8, 8, 8, 8, 8, 8, 8, 8, 8, 8, 8, 8, 8, 8, 8, 8, 8, 8, 8, 8, 8, 8, 8, 8, 8, 8, 8, 8, 8, 8, 8, 8, 8, 8, 8, 8, 8, 8, 8, 8, 8, 8, 8, 8, 8, 8, 8, 8, 8, 8, 8, 8, 8, 8, 8, 8, 8, 8, 8, 8, 8, 8, 8, 8, 8, 8, 8, 8, 8, 8, 8, 8, 8, 8, 8, 8, 8, 8, 8, 8, 8, 8, 8, 8, 8, 8, 8, 8, 8, 8, 8, 8, 8, 8, 8, 8, 8, 8, 8, 8, 8, 8, 8, 8, 8, 8, 8, 8, 8, 8, 8, 8, 8, 8, 8, 8, 8, 8, 8, 8]) ((IntKind.u8.wrap (x.toNat : Int)).toNat)).toNat : Int)) rfl Try.underlying5 Try.underlying3) ?_
    refine o_p (p_add rfl rfl) ?_
    refine o_as rfl rfl ?_
    refine o_nil (q_then (c_ret ?_))
    have hr0 : ((IntKind.i64.wrap (0 + (IntKind.i64.wrap ((byteAt (ByteArray.mk #[0, 1, 2, 2, 3, 3, 3, 3, 4, 4, 4, 4, 4, 4, 4, 4, 5, 5, 5, 5, 5, 5, 5, 5, 5, 5, 5, 5, 5, 5, 5, 5, 6, 6, 6, 6, 6, 6, 6, 6, 6, 6, 6, 6, 6, 6, 6, 6, 6, 6, 6, 6, 6, 6, 6, 6, 6, 6, 6, 6, 6, 6, 6, 6, 7, 7, 7, 7, 7, 7, 7, 7, 7, 7, 7, 7, 7, 7, 7, 7, 7, 7, 7, 7, 7, 7, 7, 7, 7, 7, 7, 7, 7, 7, 7, 7, 7, 7, 7, 7, 7, 7, 7, 7, 7, 7, 7, 7, 7, 7, 7, 7, 7, 7, 7, 7, 7, 7, 7, 7, 7, 7, 7, 7, 7, 7, 7, 7, 8, 8, 8, 8, 8, 8, 8, 8, 8, 8, 8, 8, 8, 8, 8, 8, 8, 8, 8, 8, 8, 8, 8, 8, 8, 8, 8, 8, 8, 8, 8, 8, 8, 8, 8, 8, 8, 8, 8, 8, 8, 8, 8, 8, 8, 8, 8, 8, 8, 8, 8, 8, 8, 8, 8, 8, 8, 8, 8, 8, 8, 8, 8, 8, 8, 8, 8, 8, 8, 8, 8, 8, 8, 8, 8, 8, 8, 8, 8, 8, 8, 8, 8, 8, 8, 8, 8, 8, 8, 8, 8, 8, 8, 8, 8, 8, 8, 8, 8, 8, 8, 8, 8, 8, 8, 8, 8, 8, 8, 8, 8, 8, 8, 8, 8, 8, 8, 8, 8, 8, 8, 8, 8, 8, 8, 8, 8, 8]) ((IntKind.u8.wrap (x.toNat : Int)).toNat)).toNat : Int)))) : Int) = (Wh.bl x.toNat : Int) := by
     first | exact Wh.len_a h8 | exact Wh.len_b hy1 h16 h8 | exact Wh.len_c hy1 h16
    refine q_end0 (v := Vi (IntKind.i64.wrap (0 + (IntKind.i64.wrap ((byteAt (ByteArray.mk #[0, 1, 2, 2, 3, 3, 3, 3, 4, 4, 4, 4, 4, 4, 4, 4, 5, 5, 5, 5, 5, 5, 5, 5, 5, 5, 5, 5, 5, 5, 5, 5, 6, 6, 6, 6, 6, 6, 6, 6, 6, 6, 6, 6, 6, 6, 6, 6, 6, 6, 6, 6, 6, 6, 6, 6, 6, 6, 6, 6, 6, 6, 6, 6, 7, 7, 7, 7, 7, 7, 7, 7, 7, 7, 7, 7, 7, 7, 7, 7, 7, 7, 7, 7, 7, 7, 7, 7, 7, 7, 7, 7, 7, 7, 7, 7, 7, 7, 7, 7, 7, 7, 7, 7, 7, 7, 7, 7, 7, 7, 7, 7, 7, 7, 7, 7, 7, 7, 7, 7, 7, 7, 7, 7, 7, 7, 7, 7, 8, 8, 8, 8, 8, 8, 8, 8, 8, 8, 8, 8, 8, 8, 8, 8, 8, 8, 8, 8, 8, 8, 8, 8, 8, 8, 8, 8, 8, 8, 8, 8, 8, 8, 8, 8, 8, 8, 8, 8, 8, 8, 8, 8, 8, 8, 8, 8, 8, 8, 8, 8, 8, 8, 8, 8, 8, 8, 8, 8, 8, 8, 8, 8, 8, 8, 8, 8, 8, 8, 8, 8, 8, 8, 8, 8, 8, 8, 8, 8, 8, 8, 8, 8, 8, 8, 8, 8, 8, 8, 8, 8, 8, 8, 8, 8, 8, 8, 8, 8, 8, 8, 8, 8, 8, 8, 8, 8, 8, 8, 8, 8, 8, 8, 8, 8, 8, 8, 8, 8, 8, 8, 8, 8, 8, 8, 8, 8]) ((IntKind.u8.wrap (x.toNat : Int)).toNat)).toNat : Int))))) (rt1 rfl (r_tmp rfl)) (i := 0) rfl ?_
    exact (by have hcc := congrArg (fun (y0 : Int) => (.int .i64 y0 : Value)) hr0; exact hcc)

set_option maxHeartbeats 8000000 in
set_option maxRecDepth 100000 in
theorem blen_ok (x : UInt64) (hy1 : x.toNat < 262144) : Fn0 Try.prog 112 [.int .u64 (x.toNat : Int)] (fun _ => True) (Vi (Wh.bl x.toNat : Int)) := by
 refine fn0 (nt := 8) (F0 := [(0, .int .u64 (x.toNat : Int))]) Try.func112 rfl Try.ntmps112 rfl rfl (fun w0 hpre => ?_)
 refine c_seq (c_region ?_)
 refine o_as rfl rfl ?_
 refine o_nil (q_then (c_seq ?_))
 refine c_false rfl ?_
 refine c_skip (q_then (c_seq (c_region ?_)))
 refine o_mv rfl rfl ?_
 refine o_call0 (v := Vi (Wh.bl x.toNat : Int)) rfl (len64_ok x (by first | assumption | exact hlv.2.2)) hf151 (fun _ _ => trivial) rfl ?_
 refine o_as rfl rfl ?_
 refine o_nil (q_then (c_ret ?_))
 refine q_end0 (v := Vi (Wh.bl x.toNat : Int)) (rt1 rfl (r_tmp rfl)) (i := 0) rfl ?_
 exact rfl

set_option maxHeartbeats 8000000 in
set_option maxRecDepth 100000 in
theorem wplace_ok (at_ : Int) (now : Int) (hy1 : 0 ≤ at_ ∧ at_ ≤ 262143) (hy2 : 0 ≤ now ∧ now ≤ 262143) : Fn0 Try.prog 77 [Vi at_, Vi now] (fun _ => True) (Vi (Wh.place at_ now)) := by
 refine fn0 (nt := 22) (F0 := [(0, Vi at_), (1, Vi now)]) Try.func77 rfl Try.ntmps77 rfl rfl (fun w0 hpre => ?_)
 have hlv := Wh.level_of hy1 hy2
 have hlb := Wh.level_bd at_ now
 have hbl := hlv.2.1
 refine c_seq (c_region ?_)
 refine o_as rfl rfl ?_
 refine o_nil (q_then (c_seq (c_region ?_)))
 refine o_mv rfl rfl ?_
 refine o_mv rfl rfl ?_
 refine o_p (p_xorI (p := at_) (q := now) rfl rfl) ?_
 refine o_p (pu_conv (z := (xorI at_ now)) rfl Try.underlying3 Try.underlying73) ?_
 refine o_call0 (v := Vi (Wh.bl (toU (xorI at_ now)).toNat : Int)) rfl (blen_ok (toU (xorI at_ now)) (by first | assumption | exact hlv.2.2)) hf112 (fun _ _ => trivial) rfl ?_
 refine o_p (p_subb rfl rfl (by omega)) ?_
 refine o_p (p_quob (p := ((Wh.bl (toU (xorI at_ now)).toNat : Int) - 1)) (q := 3) rfl rfl (by decide) (by have h9 := Wh.td_bd (Wh.bl (toU (xorI at_ now)).toNat); omega)) ?_
 refine o_p (p_max (p := 0) (q := (((Wh.bl (toU (xorI at_ now)).toNat : Int) - 1).tdiv 3)) rfl rfl) ?_
 refine o_as rfl rfl ?_
 refine o_nil (q_then (c_seq (c_region ?_)))
 refine o_mv rfl rfl ?_
 refine o_p (p_mulb (p := 8) (q := (max 0 (((Wh.bl (toU (xorI at_ now)).toNat : Int) - 1).tdiv 3))) rfl rfl (by have h9 := hlv.1; omega)) ?_
 refine o_mv rfl rfl ?_
 refine o_mv rfl rfl ?_
 refine o_p (p_mulb (p := 3) (q := (max 0 (((Wh.bl (toU (xorI at_ now)).toNat : Int) - 1).tdiv 3))) rfl rfl (by have h9 := hlv.1; omega)) ?_
 refine o_p (p_shrI (p := at_) (m := (3 * (max 0 (((Wh.bl (toU (xorI at_ now)).toNat : Int) - 1).tdiv 3))).toNat) rfl rfl (by omega) (by omega)) ?_
 refine o_p (p_andI (p := (at_ / 2 ^ ((3 * (max 0 (((Wh.bl (toU (xorI at_ now)).toNat : Int) - 1).tdiv 3))).toNat))) (q := 7) rfl rfl) ?_
 refine o_p (p_addb rfl rfl (by have h8 := Wh.place_code hy1 hlv.1; have h9 := Wh.place_bd at_ now; omega)) ?_
 refine o_as rfl rfl ?_
 refine o_nil (q_then (c_ret ?_))
 have hr0 : (((8 * (max 0 (((Wh.bl (toU (xorI at_ now)).toNat : Int) - 1).tdiv 3))) + (andI (at_ / 2 ^ ((3 * (max 0 (((Wh.bl (toU (xorI at_ now)).toNat : Int) - 1).tdiv 3))).toNat)) 7)) : Int) = (Wh.place at_ now) := by
  exact Wh.place_code hy1 hlv.1
 refine q_end0 (v := Vi ((8 * (max 0 (((Wh.bl (toU (xorI at_ now)).toNat : Int) - 1).tdiv 3))) + (andI (at_ / 2 ^ ((3 * (max 0 (((Wh.bl (toU (xorI at_ now)).toNat : Int) - 1).tdiv 3))).toNat)) 7))) (rt1 rfl (r_tmp rfl)) (i := 0) rfl ?_
 exact (by have hcc := congrArg (fun (y0 : Int) => (.int .i64 y0 : Value)) hr0; exact hcc)

set_option maxHeartbeats 8000000 in
set_option maxRecDepth 100000 in
theorem isNaN_ok (x : Int) : Fn0 Try.prog 135 [Vi x] (fun _ => True) (.bool false) := by
 refine fn0 (nt := 6) (F0 := [(0, Vi x)]) Try.func135 rfl Try.ntmps135 rfl rfl (fun w0 hpre => ?_)
 refine c_seq (c_region ?_)
 refine o_as rfl rfl ?_
 refine o_nil (q_then (c_seq (c_region ?_)))
 refine o_mv rfl rfl ?_
 refine o_mv rfl rfl ?_
 refine o_p (p_ne rfl rfl) ?_
 refine o_as rfl rfl ?_
 refine o_nil (q_then (c_ret ?_))
 have hr0 : ((x != x) : Bool) = false := by
  simp
 refine q_end0 (v := .bool (x != x)) (rt1 rfl (r_tmp rfl)) (i := 0) rfl ?_
 exact (by have hcc := congrArg (fun (y0 : Bool) => (.bool y0 : Value)) hr0; exact hcc)

set_option maxHeartbeats 8000000 in
set_option maxRecDepth 100000 in
theorem compare_ok (x : Int) (y : Int) : Fn0 Try.prog 93 [Vi x, Vi y] (fun _ => True) (Vi (cmpI x y)) := by
 refine fn0 (nt := 20) (F0 := [(0, Vi x), (1, Vi y)]) Try.func93 rfl Try.ntmps93 rfl rfl (fun w0 hpre => ?_)
 refine c_seq (c_region ?_)
 refine o_as rfl rfl ?_
 refine o_nil (q_then (c_seq (c_region ?_)))
 refine o_mv rfl rfl ?_
 refine o_call0 (v := .bool false) rfl (isNaN_ok x) hf135 (fun _ _ => trivial) rfl ?_
 refine o_as rfl rfl ?_
 refine o_nil (q_then (c_seq (c_region ?_)))
 refine o_mv rfl rfl ?_
 refine o_call0 (v := .bool false) rfl (isNaN_ok y) hf135 (fun _ _ => trivial) rfl ?_
 refine o_as rfl rfl ?_
 refine o_nil (q_then (c_seq (c_seq (c_region ?_))))
 refine o_mv rfl rfl ?_
 refine o_nil (q_then ?_)
 refine c_false rfl ?_
 refine c_skip (q_then (c_seq (c_seq (c_region ?_))))
 refine o_mv rfl rfl ?_
 refine o_nil (q_then ?_)
 refine c_false rfl ?_
 refine c_skip (q_then (c_seq (c_seq (c_region ?_))))
 refine o_mv rfl rfl ?_
 refine o_mv rfl rfl ?_
 refine o_p (p_lt rfl rfl) ?_
 refine o_nil (q_then ?_)
 refine c_cond rfl (fun hc1 => ?_) (fun hc1 => ?_)
 ·simp only [decide_eq_true_eq] at hc1
  refine c_seq (c_region ?_)
  refine o_as rfl rfl ?_
  refine o_nil (q_then (c_ret ?_))
  refine q_then_ret ?_
  have hr0 : ((-1) : Int) = (cmpI x y) := by
   first | exact cmp_lt (by assumption) | exact cmp_gt (by assumption) (by assumption) | exact cmp_eq (by assumption) (by assumption)
  refine q_end0 (v := Vi (-1)) (rt1 rfl (r_tmp rfl)) (i := 0) rfl ?_
  exact (by have hcc := congrArg (fun (y0 : Int) => (.int .i64 y0 : Value)) hr0; exact hcc)
 ·simp only [decide_eq_false_iff_not, Int.not_lt] at hc1
  refine c_skip (q_then (c_seq (c_seq (c_region ?_))))
  refine o_mv rfl rfl ?_
  refine o_mv rfl rfl ?_
  refine o_p (p_gt rfl rfl) ?_
  refine o_nil (q_then ?_)
  refine c_cond rfl (fun hc2 => ?_) (fun hc2 => ?_)
  ·simp only [decide_eq_true_eq] at hc2
   refine c_seq (c_region ?_)
   refine o_as rfl rfl ?_
   refine o_nil (q_then (c_ret ?_))
   refine q_then_ret ?_
   have hr0 : (1 : Int) = (cmpI x y) := by
    first | exact cmp_lt (by assumption) | exact cmp_gt (by assumption) (by assumption) | exact cmp_eq (by assumption) (by assumption)
   refine q_end0 (v := Vi 1) (rt1 rfl (r_tmp rfl)) (i := 0) rfl ?_
   exact (by have hcc := congrArg (fun (y0 : Int) => (.int .i64 y0 : Value)) hr0; exact hcc)
  ·simp only [decide_eq_false_iff_not, Int.not_lt] at hc2
   refine c_skip (q_then (c_seq (c_region ?_)))
   refine o_as rfl rfl ?_
   refine o_nil (q_then (c_ret ?_))
   have hr0 : (0 : Int) = (cmpI x y) := by
    first | exact cmp_lt (by assumption) | exact cmp_gt (by assumption) (by assumption) | exact cmp_eq (by assumption) (by assumption)
   refine q_end0 (v := Vi 0) (rt1 rfl (r_tmp rfl)) (i := 0) rfl ?_
   exact (by have hcc := congrArg (fun (y0 : Int) => (.int .i64 y0 : Value)) hr0; exact hcc)

set_option maxHeartbeats 8000000 in
set_option maxRecDepth 100000 in
theorem cmpOr_ok (l : List Int) (al : Option Addr) (cl : Nat) : Fn0 Try.prog 113 [.slice al l.length cl] (fun w => Rd tInt w al cl l) (Vi (Wh.orI l)) := by
 refine fn0 (nt := 18) (F0 := [(0, .slice al l.length cl)]) Try.func113 rfl Try.ntmps113 rfl rfl (fun w0 hpre => ?_)
 have hl := hpre
 have hlhl := hl.2.1
 refine c_seq (c_region ?_)
 refine o_as rfl rfl ?_
 refine o_nil (q_then (c_seq (c_region ?_)))
 refine o_as rfl rfl ?_
 refine o_nil (q_then (c_seq (c_seq (c_region ?_))))
 refine o_mv rfl rfl ?_
 refine o_p (p_len_slice rfl rfl Try.underlying37) ?_
 refine o_mv rfl rfl ?_
 refine o_nil (q_then (c_block ?_))
 refine c_loop (St := Nat)
  (fun k => [(3, Vi 0), (6, .slice al l.length cl), (7, Vi (l.length : Int)), (8, Vi (k : Int))])
  (fun k => [base w0])
  (fun k => k ≤ l.length ∧ ∀ j, j < k → l.getD j default = 0)
  (fun k => l.length - k)
  0 ?_ (sr (sr (sr (sr (Sub.nil _))))) (fun _ hw => hw) ?_
 ·exact ⟨Nat.zero_le _, fun j h => absurd h (Nat.not_lt_zero j)⟩
 rintro k hI K hK1
 show SC _ _ Try.prog 18 w0 _ _ [(3, Vi 0), (6, .slice al l.length cl), (7, Vi (l.length : Int)), (8, Vi (k : Int))] [base w0]
 refine c_seq (c_region ?_)
 refine o_p (p_lt rfl rfl) ?_
 refine o_nil (q_then (c_seq ?_))
 refine c_cond rfl (fun hc2 => ?_) (fun hc2 => ?_)
 ·simp only [decide_eq_true_eq] at hc2
  refine c_skip (q_then (c_seq (c_block (c_seq (c_region ?_)))))
  refine o_p (p_indexAddr (L := l) (T := tInt) (i := (k : Int)) rfl rfl (rd_base (i := 0) rfl hl) Try.underlying37 sz3 (by omega) (by omega)) ?_
  refine o_p (p_loadE1 (i := k) (T := tInt) (L := l) (v := Vi (l.getD k default)) rfl (rd_base (i := 0) rfl hl) (by first | assumption | omega) sh3 (congrArg tInt.enc (getd_at (by first | assumption | omega) default))) ?_
  refine o_as rfl rfl ?_
  refine o_nil (q_then (c_seq (c_region ?_)))
  refine o_mv rfl rfl ?_
  refine o_mv rfl rfl ?_
  refine o_p (p_ne rfl rfl) ?_
  refine o_nil (q_then ?_)
  refine c_cond rfl (fun hc3 => ?_) (fun hc3 => ?_)
  ·simp only [bne_iff_ne, ne_eq] at hc3
   refine c_seq (c_region ?_)
   refine o_mv rfl rfl ?_
   refine o_as rfl rfl ?_
   refine o_nil (q_then (c_ret ?_))
   refine q_block_ret (q_then_ret (q_then_ret (q_block_ret (q_then_ret ?_))))
   have hr0 : ((l.getD k default) : Int) = (Wh.orI l) := by
    first | exact Wh.or_found (by omega) hI.2 (by assumption) | exact Wh.or_none hI.2 (by omega)
   refine q_end0 (v := Vi (l.getD k default)) (rt1 rfl (r_tmp rfl)) (i := 0) rfl ?_
   exact (by have hcc := congrArg (fun (y0 : Int) => (.int .i64 y0 : Value)) hr0; exact hcc)
  ·simp only [bne_eq_false_iff_eq] at hc3
   refine c_skip ?_
   refine q_block_normal (q_then ?_)
   refine c_region ?_
   refine o_p (p_addb rfl rfl (by omega)) ?_
   refine o_mv rfl rfl ?_
   refine o_nil ?_
   refine q_round hK1 (k + 1) ?_ ?_ ?_ ?_
   ·clear hK1
    exact ⟨by omega, Wh.or_step hI.2 (by assumption)⟩
   ·(try dsimp only); omega
   ·exact sr (sr (sr (sr (Sub.nil _))))
   ·exact pk [0]
 ·simp only [decide_eq_false_iff_not, Int.not_lt] at hc2
  refine c_exit ?_
  refine q_then_exit (q_then_exit (q_block_exit (q_then ?_)))
  refine c_seq (c_region ?_)
  refine o_mv rfl rfl ?_
  refine o_as rfl rfl ?_
  refine o_nil (q_then (c_ret ?_))
  have hr0 : (0 : Int) = (Wh.orI l) := by
   first | exact Wh.or_found (by omega) hI.2 (by assumption) | exact Wh.or_none hI.2 (by omega)
  refine q_end0 (v := Vi 0) (rt1 rfl (r_tmp rfl)) (i := 0) rfl ?_
  exact (by have hcc := congrArg (fun (y0 : Int) => (.int .i64 y0 : Value)) hr0; exact hcc)

set_option maxHeartbeats 8000000 in
set_option maxRecDepth 100000 in
theorem worder_ok (a : DTimer) (b : DTimer) : Fn0 Try.prog 74 [.agg #[Vi a.id, Vi a.due], .agg #[Vi b.id, Vi b.due]] (fun _ => True) (Vi (Wh.order a b)) := by
 refine fn0 (nt := 17) (F0 := [(0, .agg #[Vi a.id, Vi a.due]), (1, .agg #[Vi b.id, Vi b.due])]) Try.func74 rfl Try.ntmps74 rfl rfl (fun w0 hpre => ?_)
 refine c_seq (c_region ?_)
 refine o_box (v := .agg #[Vi a.id, Vi a.due]) rfl rfl (fun B1 => ?_)
 refine o_box (v := .agg #[Vi b.id, Vi b.due]) rfl rfl (fun B2 => ?_)
 refine o_as rfl rfl ?_
 refine o_nil (q_then (c_seq ?_))
 refine c_held hmix [box B2 [Vi b.id, Vi b.due] 52, box B1 [Vi a.id, Vi a.due] 52, base w0] rfl rfl ?_
 refine h_t0 (i := 0) (ls := #[T1,F0,F0,F0,F0,F0,F0,F0,F0,F0,F0,F0,F0]) rfl (p_fieldAddr (j' := 1) rfl fo52_1 rfl) ?_
 refine h_t0 (i := 1) (ls := #[T1,T1,F0,F0,F0,F0,F0,F0,F0,F0,F0,F0,F0]) rfl (p_load (i := 1) (v := Vi a.due) rfl rfl sh3 rfl) ?_
 refine h_t0 (i := 2) (ls := #[T1,T1,T1,F0,F0,F0,F0,F0,F0,F0,F0,F0,F0]) rfl (p_fieldAddr (j' := 1) rfl fo52_1 rfl) ?_
 refine h_t0 (i := 3) (ls := #[T1,T1,T1,T1,F0,F0,F0,F0,F0,F0,F0,F0,F0]) rfl (p_load (i := 0) (v := Vi b.due) rfl rfl sh3 rfl) ?_
 refine h_t0 (i := 5) (ls := #[T1,T1,T1,T1,F0,T1,F0,F0,F0,F0,F0,F0,F0]) rfl (p_fieldAddr (j' := 0) rfl fo52_0 rfl) ?_
 refine h_t0 (i := 6) (ls := #[T1,T1,T1,T1,F0,T1,T1,F0,F0,F0,F0,F0,F0]) rfl (p_load (i := 1) (v := Vi a.id) rfl rfl sh3 rfl) ?_
 refine h_t0 (i := 7) (ls := #[T1,T1,T1,T1,F0,T1,T1,T1,F0,F0,F0,F0,F0]) rfl (p_fieldAddr (j' := 0) rfl fo52_0 rfl) ?_
 refine h_t0 (i := 8) (ls := #[T1,T1,T1,T1,F0,T1,T1,T1,T1,F0,F0,F0,F0]) rfl (p_load (i := 0) (v := Vi b.id) rfl rfl sh3 rfl) ?_
 refine h_one (i := 4) (ls := #[T1,T1,T1,T1,T1,T1,T1,T1,T1,F0,F0,F0,F0]) (by kernel_rfl) rfl rfl ?_
 refine o_call0 (v := Vi (cmpI a.due b.due)) rfl (compare_ok a.due b.due) hf93 (fun _ _ => trivial) rfl ?_
 refine o_nil ?_
 refine h_next (dp (lr)) ?_
 refine h_one (i := 9) (ls := #[T1,T1,T1,T1,T1,T1,T1,T1,T1,T1,F0,F0,F0]) (by kernel_rfl) rfl rfl ?_
 refine o_call0 (v := Vi (cmpI a.id b.id)) rfl (compare_ok a.id b.id) hf93 (fun _ _ => trivial) rfl ?_
 refine o_nil ?_
 refine h_next (dp (lr)) ?_
 refine h_one (i := 10) (ls := #[T1,T1,T1,T1,T1,T1,T1,T1,T1,T1,T1,F0,F0]) (by kernel_rfl) rfl rfl ?_
 refine o_buildSlice (m := 2) (T := tInt) (L := [(cmpI a.due b.due), (cmpI a.id b.id)]) (vs := [Vi (cmpI a.due b.due), Vi (cmpI a.id b.id)]) rfl rfl rfl rfl Try.underlying37 sz3 (by decide) ze3 rfl (by decide) rfl (fun S3_10 a3_10 => ?_)
 refine o_nil ?_
 refine h_next (dp (lz (lj (lj (lj (ln)))))) ?_
 refine h_one (i := 11) (ls := #[T1,T1,T1,T1,T1,T1,T1,T1,T1,T1,T1,T1,F0]) (by kernel_rfl) rfl rfl ?_
 refine o_call0 (v := Vi (Wh.orI ([(cmpI a.due b.due), (cmpI a.id b.id)]))) rfl (cmpOr_ok ([(cmpI a.due b.due), (cmpI a.id b.id)]) a3_10 ([(cmpI a.due b.due), (cmpI a.id b.id)].length)) hf113 (fun w hw => (rd_own (i := 0) rfl) w hw) rfl ?_
 refine o_nil ?_
 refine h_next (dp (lz (lj (lj (lj (ln)))))) ?_
 refine h_tk (i := 12) (ls := #[T1,T1,T1,T1,T1,T1,T1,T1,T1,T1,T1,T1,T1]) rfl (p_assign rfl) (dp (lz (lj (lj (lj (ln)))))) ?_
 refine h_done (by kernel_rfl) ?_
 refine q_then (c_ret ?_)
 have hr0 : ((Wh.orI ([(cmpI a.due b.due), (cmpI a.id b.id)])) : Int) = (Wh.order a b) := by
  exact Wh.or_order a b
 refine q_end0 (v := Vi (Wh.orI ([(cmpI a.due b.due), (cmpI a.id b.id)]))) (rt1 rfl (r_tmp rfl)) (i := 3) rfl ?_
 exact (by have hcc := congrArg (fun (y0 : Int) => (.int .i64 y0 : Value)) hr0; exact hcc)

set_option maxHeartbeats 8000000 in
set_option maxRecDepth 100000 in
theorem wright_ok (t : DTimer) (now : Int) : Fn0 Try.prog 66 [.agg #[Vi t.id, Vi t.due], Vi now] (fun _ => True) (.bool (Wh.right t now)) := by
 refine fn0 (nt := 24) (F0 := [(0, .agg #[Vi t.id, Vi t.due]), (1, Vi now)]) Try.func66 rfl Try.ntmps66 rfl rfl (fun w0 hpre => ?_)
 refine c_seq (c_region ?_)
 refine o_box (v := .agg #[Vi t.id, Vi t.due]) rfl rfl (fun B1 => ?_)
 refine o_as rfl rfl ?_
 refine o_nil (q_then (c_seq (c_region ?_)))
 refine o_p (p_fieldAddr (j' := 0) rfl fo52_0 rfl) ?_
 refine o_p (p_load (i := 0) (v := Vi t.id) rfl rfl sh3 rfl) ?_
 refine o_p (p_ge rfl rfl) ?_
 refine o_mv rfl rfl ?_
 refine o_and (p := 12) 4 (decide (t.id ≤ 1048576)) ?_ ?_ ?_
 ·intro hb2 hk
  simp only [decide_eq_true_eq] at hb2
  refine o_unguard 8 rfl rfl ?_
  refine o_p (p_fieldAddr (j' := 0) rfl fo52_0 rfl) ?_
  refine o_unguard 8 rfl rfl ?_
  refine o_p (p_load (i := 0) (v := Vi t.id) rfl rfl sh3 rfl) ?_
  refine o_unguard 8 rfl rfl ?_
  refine o_p (p_le rfl rfl) ?_
  refine o_pt rfl rfl rfl ?_
  exact o_sub (sr (Sub.skip rfl (Sub.skip rfl (Sub.skip rfl (Sub.skip rfl (Sub.skip rfl (Sub.refl _))))))) hk
 ·intro hb2 hk
  refine o_guard_no rfl 8 rfl rfl rfl rfl rfl ?_
  refine o_guard_no rfl 8 rfl rfl rfl rfl rfl ?_
  refine o_guard_no rfl 8 rfl rfl rfl rfl rfl ?_
  refine o_pf rfl rfl rfl ?_
  exact o_sub (sr (Sub.skip rfl (Sub.skip rfl (Sub.skip rfl (Sub.skip rfl (Sub.skip rfl (Sub.refl _))))))) hk
 refine o_mv rfl rfl ?_
 refine o_and (p := 17) 4 (Wh.okTime t.due) ?_ ?_ ?_
 ·intro hb3 hk
  simp only [Bool.and_eq_true, decide_eq_true_eq] at hb3
  refine o_unguard 13 rfl rfl ?_
  refine o_p (p_fieldAddr (j' := 1) rfl fo52_1 rfl) ?_
  refine o_unguard 13 rfl rfl ?_
  refine o_p (p_load (i := 0) (v := Vi t.due) rfl rfl sh3 rfl) ?_
  refine o_unguard 13 rfl rfl ?_
  refine o_call0 (v := .bool (Wh.okTime t.due)) rfl (wtime_ok t.due) hf65 (fun _ _ => trivial) rfl ?_
  refine o_pt rfl rfl rfl ?_
  exact o_sub (sr (Sub.skip rfl (Sub.skip rfl (Sub.skip rfl (Sub.skip rfl (Sub.skip rfl (Sub.refl _))))))) hk
 ·intro hb3 hk
  refine o_guard_no rfl 13 rfl rfl rfl rfl rfl ?_
  refine o_guard_no rfl 13 rfl rfl rfl rfl rfl ?_
  refine o_guard_no rfl 13 rfl rfl rfl rfl rfl ?_
  refine o_pf rfl rfl rfl ?_
  exact o_sub (sr (Sub.skip rfl (Sub.skip rfl (Sub.skip rfl (Sub.skip rfl (Sub.skip rfl (Sub.refl _))))))) hk
 refine o_mv rfl rfl ?_
 refine o_and (p := 23) 5 (decide (now < t.due)) ?_ ?_ ?_
 ·intro hb4 hk
  simp only [Bool.and_eq_true, decide_eq_true_eq] at hb4
  refine o_unguard 18 rfl rfl ?_
  refine o_p (p_fieldAddr (j' := 1) rfl fo52_1 rfl) ?_
  refine o_unguard 18 rfl rfl ?_
  refine o_p (p_load (i := 0) (v := Vi t.due) rfl rfl sh3 rfl) ?_
  refine o_unguard 18 rfl rfl ?_
  refine o_mv rfl rfl ?_
  refine o_unguard 18 rfl rfl ?_
  refine o_p (p_gt rfl rfl) ?_
  refine o_pt rfl rfl rfl ?_
  exact o_sub (sr (Sub.skip rfl (Sub.skip rfl (Sub.skip rfl (Sub.skip rfl (Sub.skip rfl (Sub.skip rfl (Sub.refl _)))))))) hk
 ·intro hb4 hk
  refine o_guard_no rfl 18 rfl rfl rfl rfl rfl ?_
  refine o_guard_no rfl 18 rfl rfl rfl rfl rfl ?_
  refine o_guard_no rfl 18 rfl rfl rfl rfl rfl ?_
  refine o_guard_no rfl 18 rfl rfl rfl rfl rfl ?_
  refine o_pf rfl rfl rfl ?_
  exact o_sub (sr (Sub.skip rfl (Sub.skip rfl (Sub.skip rfl (Sub.skip rfl (Sub.skip rfl (Sub.skip rfl (Sub.refl _)))))))) hk
 refine o_as rfl rfl ?_
 refine o_nil (q_then (c_ret ?_))
 have hr0 : ((((decide (0 ≤ t.id) && decide (t.id ≤ 1048576)) && (Wh.okTime t.due)) && decide (now < t.due)) : Bool) = (Wh.right t now) := by
  rfl
 refine q_end0 (v := .bool (((decide (0 ≤ t.id) && decide (t.id ≤ 1048576)) && (Wh.okTime t.due)) && decide (now < t.due))) (rt1 rfl (r_tmp rfl)) (i := 1) rfl ?_
 exact (by have hcc := congrArg (fun (y0 : Bool) => (.bool y0 : Value)) hr0; exact hcc)

set_option maxHeartbeats 8000000 in
set_option maxRecDepth 100000 in
theorem wall1_ok (wh : DWheel) (awh_0 : Option Addr) (cwh_0 : NC) (Bwh : Nat) : ItOk Try.prog 110 [.pointer (some ⟨Bwh, 0, none⟩)] (fun e w => ((box Bwh [Vi wh.now, .slice awh_0 wh.slots.length cwh_0.n] 50).A w ∧ (outer w [e]).S Bwh) ∧ SlRN tTimer (outer w [e]).S w awh_0 cwh_0 wh.slots) Unit (fun x k => [Vi (Wh.slotAt wh.slots k), .agg #[Vi ((Wh.timAt wh.slots k).id), Vi ((Wh.timAt wh.slots k).due)]]) (fun x k => []) ((Wh.timers wh.slots).length) := by
 refine fnIt (nt := 28) (F1 := [(1, .pointer (some ⟨Bwh, 0, none⟩))]) Try.func110 rfl Try.ntmps110 rfl rfl ?_
 intro l_ φ ψ e0 w0 hpre hφ Y
 obtain ⟨hb_Bwh, hwh_0⟩ := hpre
 have hlhwh_0 := hwh_0.2.1
 refine c_seq (c_region ?_)
 refine o_p (p_fieldAddr (j' := 1) rfl fo50_1 rfl) ?_
 refine o_p (p_loadR (v := .slice awh_0 wh.slots.length cwh_0.n) rfl (rbox_outer (i := 0) rfl hb_Bwh) sh48 rfl) ?_
 refine o_p (p_len_slice rfl rfl Try.underlying48) ?_
 refine o_mv rfl rfl ?_
 refine o_nil (q_then (c_block ?_))
 refine c_loop (St := Nat × Ent)
  (fun ⟨k, e⟩ => [(0, .func (.yield l_) #[] #[]), (8, .slice awh_0 wh.slots.length cwh_0.n), (9, Vi (wh.slots.length : Int)), (10, Vi (k : Int))])
  (fun ⟨k, e⟩ => [outer w0 [e0], e])
  (fun ⟨k, e⟩ => k ≤ wh.slots.length ∧ φ (Wh.pre wh.slots k) e)
  (fun ⟨k, e⟩ => wh.slots.length - k)
  (0, e0) ?_ (sr (sr (sr (sr (Sub.nil _))))) (fun _ hw => hw) ?_
 ·exact ⟨Nat.zero_le _, hφ⟩
 rintro ⟨k, e⟩ hI K hK1
 show SC _ _ Try.prog 28 w0 _ _ [(0, .func (.yield l_) #[] #[]), (8, .slice awh_0 wh.slots.length cwh_0.n), (9, Vi (wh.slots.length : Int)), (10, Vi (k : Int))] [outer w0 [e0], e]
 refine c_seq (c_region ?_)
 refine o_p (p_lt rfl rfl) ?_
 refine o_nil (q_then (c_seq ?_))
 refine c_cond rfl (fun hc2 => ?_) (fun hc2 => ?_)
 ·simp only [decide_eq_true_eq] at hc2
  refine c_skip (q_then (c_seq (c_block (c_seq (c_region ?_)))))
  refine o_mv rfl rfl ?_
  refine o_p (p_indexAddrN (T := tTimer) (c := cwh_0) (LL := wh.slots) (i := (k : Int)) rfl rfl (rd_outerN (i := 0) rfl hwh_0) Try.underlying48 sz57 (by first | omega | decide) (by first | omega | decide)) ?_
  refine o_p (p_loadN (T := tTimer) (c := cwh_0) (LL := wh.slots) (i := k) rfl (rd_outerN (i := 0) rfl hwh_0) (by first | assumption | omega | decide) sh57) ?_
  refine o_as rfl rfl ?_
  refine o_as rfl rfl ?_
  refine o_nil (q_then (c_seq (c_region ?_)))
  refine o_mv rfl rfl ?_
  refine o_p (p_len_slice rfl rfl Try.underlying57) ?_
  refine o_mv rfl rfl ?_
  refine o_nil (q_then (c_block ?_))
  refine c_loop (St := Nat × Ent)
   (fun ⟨k2, e⟩ => [(0, .func (.yield l_) #[] #[]), (3, Vi (k : Int)), (8, .slice awh_0 wh.slots.length cwh_0.n), (9, Vi (wh.slots.length : Int)), (10, Vi (k : Int)), (15, .slice (cwh_0.ra k) (wh.slots.getD k []).length (cwh_0.rc k)), (16, Vi ((wh.slots.getD k []).length : Int)), (17, Vi (k2 : Int))])
   (fun ⟨k2, e⟩ => [outer w0 [e0], e])
   (fun ⟨k2, e⟩ => k2 ≤ (wh.slots.getD k []).length ∧ φ (Wh.pre wh.slots k + k2) e)
   (fun ⟨k2, e⟩ => (wh.slots.getD k []).length - k2)
   (0, e) ?_ (sr (sr (sr (sr (sr (sr (sr (sr (Sub.nil _))))))))) (fun _ hw => hw) ?_
  ·exact ⟨Nat.zero_le _, hI.2⟩
  rintro ⟨k2, e⟩ hI K hK3
  show SC _ _ Try.prog 28 w0 _ _ [(0, .func (.yield l_) #[] #[]), (3, Vi (k : Int)), (8, .slice awh_0 wh.slots.length cwh_0.n), (9, Vi (wh.slots.length : Int)), (10, Vi (k : Int)), (15, .slice (cwh_0.ra k) (wh.slots.getD k []).length (cwh_0.rc k)), (16, Vi ((wh.slots.getD k []).length : Int)), (17, Vi (k2 : Int))] [outer w0 [e0], e]
  refine c_seq (c_region ?_)
  refine o_p (p_lt rfl rfl) ?_
  refine o_nil (q_then (c_seq ?_))
  refine c_cond rfl (fun hc4 => ?_) (fun hc4 => ?_)
  ·simp only [decide_eq_true_eq] at hc4
   have hrq := (hwh_0.2.2.2 k (by omega)).2.1
   refine c_skip (q_then (c_seq (c_block (c_seq (c_region ?_)))))
   refine o_p (p_indexAddr (L := (wh.slots.getD k [])) (T := tTimer) (i := (k2 : Int)) rfl rfl (rd_rowN (i := k) (rd_outerN (i := 0) rfl hwh_0) (by first | assumption | omega)) Try.underlying57 sz52 (by omega) (by omega)) ?_
   refine o_p (p_loadEn (i := k2) (T := tTimer) (L := (wh.slots.getD k [])) (vs := [Vi (((wh.slots.getD k []).getD k2 default).id), Vi (((wh.slots.getD k []).getD k2 default).due)]) rfl (rd_rowN (i := k) (rd_outerN (i := 0) rfl hwh_0) (by first | assumption | omega)) (by first | assumption | omega) sh52 (congrArg tTimer.enc (getd_at (by first | assumption | omega) default))) ?_
   refine o_alloc ze52 rfl (fun B5 => ?_)
   refine o_storeN (i := 0) (vs := [Vi (((wh.slots.getD k []).getD k2 default).id), Vi (((wh.slots.getD k []).getD k2 default).due)]) (cs' := [Vi (((wh.slots.getD k []).getD k2 default).id), Vi (((wh.slots.getD k []).getD k2 default).due)]) rfl rfl rfl sz52 rfl rfl rfl rfl ?_
   refine o_nil (q_then (c_seq ?_))
   refine c_regionY ?_
   refine o_mv rfl rfl ?_
   refine o_mv rfl rfl ?_
   refine o_p (p_load_agg (i := 0) (vs := [Vi (((wh.slots.getD k []).getD k2 default).id), Vi (((wh.slots.getD k []).getD k2 default).due)]) rfl rfl sh52 rfl rfl) ?_
   refine o_pick (H' := [outer w0 [e0], e]) [1, 2] (by decide) rfl ?_
   obtain ⟨hp1, hp2, hp3⟩ := Wh.at_pre (LL := wh.slots) (i := k) (j := k2) (by omega) (by omega)
   refine o_yield (l := l_) (vs := [Vi (k : Int), .agg #[Vi (((wh.slots.getD k []).getD k2 default).id), Vi (((wh.slots.getD k []).getD k2 default).due)]]) (φ := φ (Wh.pre wh.slots k + k2 + 1)) (ψ := ψ) rfl rfl (fun W hW => (by have h9 := Y () (Wh.pre wh.slots k + k2) e W hp3 hI.2 hW; simp only [hp1, hp2] at h9; exact h9)) rfl (fun e_6 he7 => ?_) (fun e_6 he7 => ?_)
   ·have hend := he7
    refine o_p (p_not (b := true) rfl) ?_
    refine o_nil (q_then ?_)
    refine c_false rfl ?_
    refine c_skip ?_
    refine q_block_normal (q_then ?_)
    refine c_region ?_
    refine o_p (p_addb rfl rfl (by omega)) ?_
    refine o_mv rfl rfl ?_
    refine o_nil ?_
    refine q_round hK3 (k2 + 1, e_6) ?_ ?_ ?_ ?_
    ·clear hK3
     exact ⟨by omega, hend⟩
    ·(try dsimp only); omega
    ·exact sr (sr (sr (sr (sr (sr (sr (sr (Sub.nil _))))))))
    ·exact pk [0, 1]
   ·have hend := he7
    refine o_p (p_not (b := false) rfl) ?_
    refine o_nil (q_then ?_)
    refine c_true rfl ?_
    refine c_ret ?_
    refine q_block_ret (q_then_ret (q_then_ret (q_block_ret (q_block_ret (q_then_ret (q_then_ret (q_block_ret ?_)))))))
    refine q_endI (e := e_6) (rt0 rfl) ?_ (fun w hw => hw.pick (H' := [outer w0 [e0], e_6]) [0, 1] (by decide) rfl)
    first | exact .inr hend | exact .inl (by have h9 := hI.2; rwa [Wh.pre_all (by omega)] at h9)
  ·simp only [decide_eq_false_iff_not, Int.not_lt] at hc4
   refine c_exit ?_
   refine q_then_exit (q_then_exit (q_block_exit (q_block_normal (q_then ?_))))
   refine c_region ?_
   refine o_p (p_addb rfl rfl (by omega)) ?_
   refine o_mv rfl rfl ?_
   refine o_nil ?_
   refine q_round hK1 (k + 1, e) ?_ ?_ ?_ ?_
   ·clear hK1
    exact ⟨by omega, by have h9 := hI.2; rw [Wh.pre_next (by omega)]; rwa [show k2 = (wh.slots.getD k []).length by have h8 := hI.1; omega] at h9⟩
   ·(try dsimp only); omega
   ·exact sr (sr (sr (sr (Sub.nil _))))
   ·exact pk [0, 1]
 ·simp only [decide_eq_false_iff_not, Int.not_lt] at hc2
  refine c_exit ?_
  refine q_then_exit (q_then_exit (q_block_exit ?_))
  refine q_endI (e := e) (rt0 rfl) ?_ (fun w hw => hw.pick (H' := [outer w0 [e0], e]) [0, 1] (by decide) rfl)
  first | exact .inr hend | exact .inl (by have h9 := hI.2; rwa [Wh.pre_all (by omega)] at h9)

set_option maxHeartbeats 8000000 in
set_option maxRecDepth 100000 in
theorem wall_ok (wh : DWheel) (awh_0 : Option Addr) (cwh_0 : NC) : FnX Try.prog 72 [.agg #[Vi wh.now, .slice awh_0 wh.slots.length cwh_0.n]] [] (fun _ => True) (Nat) (fun p => .func (.func 110) #[] #[.pointer (some ⟨p, 0, none⟩)]) (fun p => [box p [Vi wh.now, .slice awh_0 wh.slots.length cwh_0.n] 50]) := by
 refine fnX (nt := 4) (F0 := [(0, .agg #[Vi wh.now, .slice awh_0 wh.slots.length cwh_0.n])]) Try.func72 rfl Try.ntmps72 rfl rfl (fun w0 hpre => ?_)
 refine c_seq (c_region ?_)
 refine o_box (v := .agg #[Vi wh.now, .slice awh_0 wh.slots.length cwh_0.n]) rfl rfl (fun B1 => ?_)
 refine o_as rfl rfl ?_
 refine o_nil (q_then (c_seq (c_region ?_)))
 refine o_p (p_makeFunc (vs := [.pointer (some ⟨B1, 0, none⟩)]) rfl) ?_
 refine o_as rfl rfl ?_
 refine o_nil (q_then (c_ret ?_))
 refine q_endX (p := (B1)) (rt1 rfl (r_tmp rfl)) rfl (fun w hw => ?_)
 exact hw.pick (H' := [outer w0 [], box B1 [Vi wh.now, .slice awh_0 wh.slots.length cwh_0.n] 50]) [1, 0] (by decide) rfl
end Go.Proofs.Ytnmbkopnopaigaa

/- Timing wheels: what the functions answer; a wheel as the list of its timers. -/
namespace Go.Sx.Wh
def new (now : Int) : DWheel := if okTime now then ⟨now, List.replicate 48 []⟩ else zero
def newErr (now : Int) : Int := if okTime now then 0 else 3
def checkGo (now : Int) : List Int → Int → DTimer → List (Nat × DTimer) → Int
  | seen, _, _, [] => if 60 < seen.length then 2 else 0
  | seen, slot, last, p :: r => if right p.2 now = false then 3 else if place p.2.due now ≠ p.1 ∨ ((p.1 : Int) = slot ∧ 0 ≤ order last p.2) then 4 else if p.2.id ∈ seen then 6 else checkGo now (p.2.id :: seen) p.1 p.2 r
def check (w : DWheel) : Int := if okTime w.now = false then 3 else if w.slots.length ≠ 48 then 1 else checkGo w.now [] (-1) ⟨0, 0⟩ (flat w.slots)
def findGo (id : Int) : Nat → List (List DTimer) → Int × Int × Bool
  | _, [] => (0, 0, false)
  | i, l :: r => if 0 ≤ idxF (fun x : DTimer => (x.id == id)) l then ((i : Int), idxF (fun x : DTimer => (x.id == id)) l, true) else findGo id (i + 1) r
def find (w : DWheel) (id : Int) : Int × Int × Bool := findGo id 0 w.slots
def addErr (w : DWheel) (t : DTimer) : Int := if check w ≠ 0 then check w else if right t w.now = false then 3 else if (find w t.id).2.2 = true then 6 else if (timers w.slots).length = 60 then 8 else 0
def add (w : DWheel) (t : DTimer) : DWheel := if addErr w t = 0 then put w t else zero
def cancelErr (w : DWheel) (id : Int) : Int := if check w ≠ 0 then check w else if (find w id).2.2 = false then 5 else 0
def cut (w : DWheel) (i k : Int) : DWheel := ⟨w.now, w.slots.set i.toNat ((w.slots.getD i.toNat []).take k.toNat ++ (w.slots.getD i.toNat []).drop (k + 1).toNat)⟩
def cancel (w : DWheel) (id : Int) : DWheel := if cancelErr w id = 0 then cut w (find w id).1 (find w id).2.1 else zero
def advErr (w : DWheel) (to : Int) : Int := if check w ≠ 0 then check w else if okTime to = false then 3 else if to < w.now then 4 else 0
def advStep (to : Int) (o : DWheel × List DTimer) (t : DTimer) : DWheel × List DTimer := if t.due ≤ to then (o.1, o.2 ++ [t]) else (put o.1 t, o.2)
def advGo (w : DWheel) (to : Int) (k : Nat) : DWheel × List DTimer := ((timers w.slots).take k).foldl (advStep to) (⟨to, List.replicate 48 []⟩, [])
def insI (t : DTimer) : List DTimer → List DTimer
  | [] => [t]
  | x :: l => if ahead x t then x :: insI t l else t :: x :: l
def isort : List DTimer → List DTimer
  | [] => []
  | t :: l => insI t (isort l)
def adv (w : DWheel) (to : Int) : DWheel := if advErr w to = 0 then (advGo w to (timers w.slots).length).1 else zero
def gone (w : DWheel) (to : Int) : List DTimer := if advErr w to = 0 then isort (advGo w to (timers w.slots).length).2 else []
def nextErr (w : DWheel) : Int := if check w ≠ 0 then check w else if (timers w.slots).length = 0 then 5 else 0
def next (w : DWheel) : Int := if nextErr w = 0 then ((timers w.slots).getD 0 default).due else 0
/-! ### the order -/
theorem ahead_iff {a b : DTimer} : ahead a b = true ↔ a.due < b.due ∨ (a.due = b.due ∧ a.id < b.id) := by simp [ahead]
theorem ahead_trans {a b c : DTimer} (h : ahead a b = true) (h2 : ahead b c = true) : ahead a c = true := by
  rw [ahead_iff] at *; omega
theorem ahead_irrefl (a : DTimer) : ahead a a = false := by
  cases h : ahead a a with
  | false => rfl
  | true => rw [ahead_iff] at h; omega
theorem ahead_total {a b : DTimer} (h : ahead a b = false) : a = b ∨ ahead b a = true := by
  by_cases h2 : ahead b a = true
  · exact .inr h2
  · left
    have h1 : ¬ (a.due < b.due ∨ (a.due = b.due ∧ a.id < b.id)) := fun h3 => by rw [ahead_iff.2 h3] at h; cases h
    have h3 : ¬ (b.due < a.due ∨ (b.due = a.due ∧ b.id < a.id)) := fun h4 => h2 (ahead_iff.2 h4)
    obtain ⟨i, d⟩ := a
    obtain ⟨j, e⟩ := b
    simp only at h1 h3
    have e1 : i = j := by omega
    have e2 : d = e := by omega
    rw [e1, e2]
def Sd (l : List DTimer) : Prop := l.Pairwise fun a b => ahead a b = true
theorem sd_ext : ∀ {l m : List DTimer}, Sd l → Sd m → (∀ t, t ∈ l ↔ t ∈ m) → l = m
  | [], [], _, _, _ => rfl
  | [], y :: m, _, _, h => absurd ((h y).2 (by simp)) (by simp)
  | x :: l, [], _, _, h => absurd ((h x).1 (by simp)) (by simp)
  | x :: l, y :: m, h1, h2, h => by
    obtain ⟨a1, a2⟩ := List.pairwise_cons.1 h1
    obtain ⟨b1, b2⟩ := List.pairwise_cons.1 h2
    have e : x = y := by
      rcases List.mem_cons.1 ((h x).1 (by simp)) with e | e
      · exact e
      · rcases List.mem_cons.1 ((h y).2 (by simp)) with e2 | e2
        · exact e2.symm
        · have h3 := ahead_trans (a1 y e2) (b1 x e)
          rw [ahead_irrefl] at h3; cases h3
    subst e
    rw [sd_ext a2 b2 fun t => ⟨fun ht => by
      rcases List.mem_cons.1 ((h t).1 (by simp [ht])) with e | e
      · have := a1 t ht; rw [e, ahead_irrefl] at this; cases this
      · exact e, fun ht => by
      rcases List.mem_cons.1 ((h t).2 (by simp [ht])) with e | e
      · have := b1 t ht; rw [e, ahead_irrefl] at this; cases this
      · exact e⟩]
theorem mem_insI {t x : DTimer} {l : List DTimer} : x ∈ insI t l ↔ x = t ∨ x ∈ l := by
  induction l with
  | nil => simp [insI]
  | cons y l ih =>
    unfold insI
    split
    · simp only [List.mem_cons, ih]
      constructor <;> intro h
      · rcases h with h | h | h <;> simp [h]
      · rcases h with h | h | h <;> simp [h]
    · simp
theorem mem_isort {x : DTimer} {l : List DTimer} : x ∈ isort l ↔ x ∈ l := by
  induction l with
  | nil => simp [isort]
  | cons y l ih => simp only [isort, mem_insI, ih, List.mem_cons]
theorem sd_insI {t : DTimer} {l : List DTimer} (h : Sd l) (hn : t ∉ l) : Sd (insI t l) := by
  induction l with
  | nil => exact List.pairwise_singleton _ _
  | cons y l ih =>
    obtain ⟨a1, a2⟩ := List.pairwise_cons.1 h
    unfold insI
    split
    · rename_i hy
      refine List.pairwise_cons.2 ⟨fun z hz => ?_, ih a2 (fun h => hn (by simp [h]))⟩
      rcases mem_insI.1 hz with rfl | hz
      · exact hy
      · exact a1 z hz
    · rename_i hy
      have hty : ahead t y = true := by
        rcases ahead_total (a := y) (b := t) (by simpa using hy) with e | e
        · exact absurd (by simp [e]) hn
        · exact e
      refine List.pairwise_cons.2 ⟨fun z hz => ?_, h⟩
      rcases List.mem_cons.1 hz with rfl | hz
      · exact hty
      · exact ahead_trans hty (a1 z hz)
theorem sd_isort {l : List DTimer} (h : l.Nodup) : Sd (isort l) := by
  induction l with
  | nil => exact List.Pairwise.nil
  | cons y l ih =>
    obtain ⟨h1, h2⟩ := List.nodup_cons.1 h
    exact sd_insI (ih h2) (fun h3 => h1 (mem_isort.1 h3))
theorem sd_nodup {l : List DTimer} (h : Sd l) : l.Nodup := h.imp fun {a b} hab e => by rw [e, ahead_irrefl] at hab; cases hab
theorem sd_filter {l : List DTimer} (h : Sd l) (p : DTimer → Bool) : Sd (l.filter p) := h.sublist List.filter_sublist
theorem isort_sd {l : List DTimer} (h : Sd l) : isort l = l := sd_ext (sd_isort (sd_nodup h)) h fun t => mem_isort
/-! ### places grow with the time -/
theorem level_mono {a b n : Int} (hn : 0 ≤ n) (h1 : n < a) (h2 : a ≤ b) (hb : b ≤ 262143) : level a n < level b n ∨ (level a n = level b n ∧ a / pow8 (level a n) % 8 ≤ b / pow8 (level b n) % 8) := by
  unfold level
  by_cases c1 : b / 8 = n / 8
  · have d1 : a / 8 = n / 8 := by omega
    rw [if_pos c1, if_pos d1]; right; refine ⟨rfl, ?_⟩
    show a / 1 % 8 ≤ b / 1 % 8
    omega
  · rw [if_neg c1]
    by_cases c2 : b / 64 = n / 64
    · rw [if_pos c2]
      by_cases d1 : a / 8 = n / 8
      · rw [if_pos d1]; left; omega
      · have d2 : a / 64 = n / 64 := by omega
        rw [if_neg d1, if_pos d2]; right; refine ⟨rfl, ?_⟩
        show a / 8 % 8 ≤ b / 8 % 8
        omega
    · rw [if_neg c2]
      by_cases c3 : b / 512 = n / 512
      · rw [if_pos c3]
        by_cases d1 : a / 8 = n / 8
        · rw [if_pos d1]; left; omega
        · rw [if_neg d1]
          by_cases d2 : a / 64 = n / 64
          · rw [if_pos d2]; left; omega
          · have d3 : a / 512 = n / 512 := by omega
            rw [if_neg d2, if_pos d3]; right; refine ⟨rfl, ?_⟩
            show a / 64 % 8 ≤ b / 64 % 8
            omega
      · rw [if_neg c3]
        by_cases c4 : b / 4096 = n / 4096
        · rw [if_pos c4]
          by_cases d1 : a / 8 = n / 8
          · rw [if_pos d1]; left; omega
          · rw [if_neg d1]
            by_cases d2 : a / 64 = n / 64
            · rw [if_pos d2]; left; omega
            · rw [if_neg d2]
              by_cases d3 : a / 512 = n / 512
              · rw [if_pos d3]; left; omega
              · have d4 : a / 4096 = n / 4096 := by omega
                rw [if_neg d3, if_pos d4]; right; refine ⟨rfl, ?_⟩
                show a / 512 % 8 ≤ b / 512 % 8
                omega
        · rw [if_neg c4]
          by_cases c5 : b / 32768 = n / 32768
          · rw [if_pos c5]
            by_cases d1 : a / 8 = n / 8
            · rw [if_pos d1]; left; omega
            · rw [if_neg d1]
              by_cases d2 : a / 64 = n / 64
              · rw [if_pos d2]; left; omega
              · rw [if_neg d2]
                by_cases d3 : a / 512 = n / 512
                · rw [if_pos d3]; left; omega
                · rw [if_neg d3]
                  by_cases d4 : a / 4096 = n / 4096
                  · rw [if_pos d4]; left; omega
                  · have d5 : a / 32768 = n / 32768 := by omega
                    rw [if_neg d4, if_pos d5]; right; refine ⟨rfl, ?_⟩
                    show a / 4096 % 8 ≤ b / 4096 % 8
                    omega
          · rw [if_neg c5]
            by_cases d1 : a / 8 = n / 8
            · rw [if_pos d1]; left; omega
            · rw [if_neg d1]
              by_cases d2 : a / 64 = n / 64
              · rw [if_pos d2]; left; omega
              · rw [if_neg d2]
                by_cases d3 : a / 512 = n / 512
                · rw [if_pos d3]; left; omega
                · rw [if_neg d3]
                  by_cases d4 : a / 4096 = n / 4096
                  · rw [if_pos d4]; left; omega
                  · rw [if_neg d4]
                    by_cases d5 : a / 32768 = n / 32768
                    · rw [if_pos d5]; left; omega
                    · rw [if_neg d5]; right; refine ⟨rfl, ?_⟩
                      show a / 32768 % 8 ≤ b / 32768 % 8
                      omega
theorem place_mono {a b n : Int} (hn : 0 ≤ n) (h1 : n < a) (h2 : a ≤ b) (hb : b ≤ 262143) : place a n ≤ place b n := by
  have h := level_mono hn h1 h2 hb
  unfold place
  generalize level a n = l at *
  generalize level b n = m at *
  generalize a / pow8 l = z at *
  generalize b / pow8 m = y at *
  omega
end Go.Sx.Wh

/- Timing wheels: a wheel that Check finds right is the list of its timers. -/
namespace Go.Sx.Wh
theorem getD_of {α : Type} {l : List α} {i : Nat} {d : α} (h : i < l.length) : l.getD i d = l[i] := by rw [List.getD_eq_getElem?_getD, List.getElem?_eq_getElem h]; rfl
theorem mem_flatGo {LL : List (List DTimer)} {p : Nat × DTimer} : ∀ {s : Nat}, p ∈ flatGo s LL ↔ ∃ i, i < LL.length ∧ p.1 = s + i ∧ p.2 ∈ LL.getD i [] := by
  induction LL with
  | nil => intro s; simp [flatGo]
  | cons l r ih =>
    intro s
    simp only [flatGo, List.mem_append, List.mem_map, ih]
    constructor
    · rintro (⟨t, ht, rfl⟩ | ⟨i, hi, h1, h2⟩)
      · exact ⟨0, by simp, rfl, by simpa using ht⟩
      · exact ⟨i + 1, by simpa using hi, by omega, by simpa using h2⟩
    · rintro ⟨i, hi, h1, h2⟩
      cases i with
      | zero => left; exact ⟨p.2, by simpa using h2, by rw [Nat.add_zero] at h1; rw [← h1]⟩
      | succ i => right; exact ⟨i, by simpa using hi, by omega, by simpa using h2⟩
theorem mem_flat {LL : List (List DTimer)} {p : Nat × DTimer} : p ∈ flat LL ↔ p.1 < LL.length ∧ p.2 ∈ LL.getD p.1 [] := by
  unfold flat
  rw [mem_flatGo]
  constructor
  · rintro ⟨i, hi, h1, h2⟩
    rw [Nat.zero_add] at h1
    rw [h1]; exact ⟨hi, h2⟩
  · rintro ⟨h1, h2⟩; exact ⟨p.1, h1, by omega, h2⟩
theorem mem_timers {LL : List (List DTimer)} {t : DTimer} : t ∈ timers LL ↔ ∃ i, i < LL.length ∧ t ∈ LL.getD i [] := by
  unfold timers
  rw [List.mem_flatten]
  constructor
  · rintro ⟨l, hl, ht⟩
    obtain ⟨i, hi, rfl⟩ := List.getElem_of_mem hl
    exact ⟨i, hi, by rwa [getD_of hi]⟩
  · rintro ⟨i, hi, ht⟩
    exact ⟨_, List.getElem_mem hi, by rwa [getD_of hi] at ht⟩
theorem flatGo_snd (LL : List (List DTimer)) : ∀ s, (flatGo s LL).map (·.2) = LL.flatten := by
  induction LL with
  | nil => intro s; rfl
  | cons l r ih =>
    intro s
    simp only [flatGo, List.map_append, List.map_map, ih, List.flatten_cons]
    congr 1
    exact (List.map_congr_left (fun _ _ => rfl)).trans (List.map_id _)
theorem flat_snd (LL : List (List DTimer)) : (flat LL).map (·.2) = timers LL := flatGo_snd LL 0
structure Ok (w : DWheel) : Prop where
  now : 0 ≤ w.now ∧ w.now ≤ 262143
  len : w.slots.length = 48
  ent : ∀ i, i < 48 → ∀ t ∈ w.slots.getD i [], right t w.now = true ∧ place t.due w.now = (i : Int)
  srt : ∀ i, i < 48 → Sd (w.slots.getD i [])
  ids : ((timers w.slots).map (·.id)).Nodup
  few : (timers w.slots).length ≤ 60
/-! ### Check -/
def RR (p q : Nat × DTimer) : Prop := p.1 < q.1 ∨ (p.1 = q.1 ∧ ahead p.2 q.2 = true)
theorem rr_flatGo {LL : List (List DTimer)} : ∀ {s : Nat}, (flatGo s LL).Pairwise RR ↔ ∀ i, i < LL.length → Sd (LL.getD i []) := by
  induction LL with
  | nil => intro s; simp [flatGo]
  | cons l r ih =>
    intro s
    simp only [flatGo, List.pairwise_append, ih, List.pairwise_map]
    constructor
    · rintro ⟨h1, h2, _⟩ i hi
      cases i with
      | zero => exact h1.imp fun {a b} h => by rcases h with h | h; exact absurd h (Nat.lt_irrefl _); exact h.2
      | succ i => simpa using h2 i (by simpa using hi)
    · intro h
      refine ⟨(h 0 (by simp)).imp fun {a b} h => .inr ⟨rfl, h⟩, fun i hi => by simpa using h (i + 1) (by simpa using hi), fun p hp q hq => ?_⟩
      obtain ⟨t, _, rfl⟩ := List.mem_map.1 hp
      obtain ⟨i, _, h1, _⟩ := mem_flatGo.1 hq
      left; show s < q.1; omega
theorem le_flatGo {LL : List (List DTimer)} : ∀ {s : Nat}, (flatGo s LL).Pairwise fun p q => p.1 ≤ q.1 := by
  induction LL with
  | nil => intro s; exact List.Pairwise.nil
  | cons l r ih =>
    intro s
    simp only [flatGo, List.pairwise_append, List.pairwise_map]
    refine ⟨List.pairwise_of_forall (fun _ _ => Nat.le_refl _), ih, fun p hp q hq => ?_⟩
    obtain ⟨t, _, rfl⟩ := List.mem_map.1 hp
    obtain ⟨i, _, h1, _⟩ := mem_flatGo.1 hq
    show s ≤ q.1; omega
/-- what checkGo asks -/
structure GG (now : Int) (seen : List Int) (slot : Int) (last : DTimer) (L : List (Nat × DTimer)) : Prop where
  ent : ∀ p ∈ L, right p.2 now = true ∧ place p.2.due now = (p.1 : Int)
  fst : ∀ p ∈ L, slot < (p.1 : Int) ∨ (slot = (p.1 : Int) ∧ ahead last p.2 = true)
  rr : L.Pairwise RR
  ids : (L.map (·.2.id)).Nodup
  new : ∀ p ∈ L, p.2.id ∉ seen
  few : seen.length + L.length ≤ 60
theorem not_ge {a b : DTimer} : ¬ 0 ≤ order a b ↔ ahead a b = true := by rw [← order_neg]; omega
theorem go_ok {now : Int} : ∀ {L : List (Nat × DTimer)} {seen : List Int} {slot : Int} {last : DTimer}, L.Pairwise (fun p q => p.1 ≤ q.1) → (∀ p ∈ L, slot ≤ (p.1 : Int)) → (checkGo now seen slot last L = 0 ↔ GG now seen slot last L)
  | [], seen, slot, last, _, _ => by
    unfold checkGo
    constructor
    · intro h
      exact ⟨fun _ h => (by cases h), fun _ h => (by cases h), List.Pairwise.nil, List.nodup_nil, fun _ h => (by cases h), by split at h; cases h; simp; omega⟩
    · intro h; have := h.few; simp at this; rw [if_neg (by omega)]
  | p :: r, seen, slot, last, hs, hb => by
    obtain ⟨s1, s2⟩ := List.pairwise_cons.1 hs
    unfold checkGo
    have hp := hb p (by simp)
    have ih := go_ok (now := now) (L := r) (seen := p.2.id :: seen) (slot := p.1) (last := p.2) s2 (fun q hq => by have := s1 q hq; omega)
    constructor
    · intro h
      split at h; · cases h
      split at h; · cases h
      split at h; · cases h
      rename_i h1 h2 h3
      have g := ih.1 h
      have h4 : place p.2.due now = (p.1 : Int) := by
        rcases Classical.em (place p.2.due now = (p.1 : Int)) with e | e
        · exact e
        · exact absurd (.inl e) h2
      have h5 : slot < (p.1 : Int) ∨ (slot = (p.1 : Int) ∧ ahead last p.2 = true) := by
        by_cases e : (p.1 : Int) = slot
        · right; exact ⟨e.symm, not_ge.1 fun h9 => h2 (.inr ⟨e, h9⟩)⟩
        · left; omega
      refine ⟨fun q hq => ?_, fun q hq => ?_, List.pairwise_cons.2 ⟨fun q hq => ?_, g.rr⟩, ?_, fun q hq => ?_, by have := g.few; simp at this ⊢; omega⟩
      · rcases List.mem_cons.1 hq with rfl | hq
        · exact ⟨by simpa using h1, h4⟩
        · exact g.ent q hq
      · rcases List.mem_cons.1 hq with rfl | hq
        · exact h5
        · rcases g.fst q hq with h6 | ⟨h6, h7⟩
          · left; omega
          · rcases h5 with h5 | ⟨h5, h8⟩
            · left; omega
            · right; exact ⟨by omega, ahead_trans h8 h7⟩
      · rcases g.fst q hq with h6 | ⟨h6, h7⟩
        · left; omega
        · right; exact ⟨by omega, h7⟩
      · rw [List.map_cons, List.nodup_cons]
        refine ⟨fun h9 => ?_, g.ids⟩
        obtain ⟨q, hq, e⟩ := List.mem_map.1 h9
        exact g.new q hq (by rw [e]; simp)
      · rcases List.mem_cons.1 hq with rfl | hq
        · exact h3
        · exact fun h9 => g.new q hq (by simp [h9])
    · intro g
      have e1 := g.ent p (by simp)
      rw [if_neg (by simp [e1.1]), if_neg, if_neg (g.new p (by simp))]
      · refine ih.2 ⟨fun q hq => g.ent q (by simp [hq]), fun q hq => ?_, (List.pairwise_cons.1 g.rr).2, ?_, fun q hq h9 => ?_, by have := g.few; simp at this ⊢; omega⟩
        · rcases (List.pairwise_cons.1 g.rr).1 q hq with h | ⟨h, h2⟩
          · left; omega
          · right; exact ⟨by omega, h2⟩
        · have := g.ids; rw [List.map_cons, List.nodup_cons] at this; exact this.2
        · have h8 := g.ids
          rw [List.map_cons, List.nodup_cons] at h8
          rcases List.mem_cons.1 h9 with h9 | h9
          · exact h8.1 (by rw [← h9]; exact List.mem_map.2 ⟨q, hq, rfl⟩)
          · exact g.new q (by simp [hq]) h9
      · rintro (h9 | ⟨h9, h8⟩)
        · exact h9 e1.2
        · rcases g.fst p (by simp) with h7 | ⟨_, h7⟩
          · omega
          · exact not_ge.2 h7 h8
theorem okTime_iff {n : Int} : okTime n = true ↔ 0 ≤ n ∧ n ≤ 262143 := by simp [okTime]
theorem check_ok {w : DWheel} : check w = 0 ↔ Ok w := by
  have hgo := go_ok (now := w.now) (L := flat w.slots) (seen := []) (slot := -1) (last := ⟨0, 0⟩) le_flatGo (fun p _ => by omega)
  have hids : (flat w.slots).map (·.2.id) = (timers w.slots).map (·.id) := by rw [← flat_snd, List.map_map]; rfl
  unfold check
  constructor
  · intro h
    split at h; · cases h
    split at h; · cases h
    rename_i h1 h2
    have g := hgo.1 h
    have hl : w.slots.length = 48 := by omega
    refine ⟨okTime_iff.1 (by simpa using h1), hl, fun i hi t ht => g.ent (i, t) (mem_flat.2 ⟨by omega, ht⟩), fun i hi => rr_flatGo.1 g.rr i (by omega), by rw [← hids]; exact g.ids, ?_⟩
    have := g.few; rw [flat_len] at this; simpa using this
  · intro h
    rw [if_neg (by simp [okTime_iff.2 h.now]), if_neg (by simp [h.len])]
    refine hgo.2 ⟨fun p hp => ?_, fun p _ => by left; omega, rr_flatGo.2 fun i hi => h.srt i (by rw [← h.len]; exact hi), by rw [hids]; exact h.ids, fun p _ => by simp, by rw [flat_len]; simpa using h.few⟩
    obtain ⟨h1, h2⟩ := mem_flat.1 hp
    exact h.ent p.1 (by rw [← h.len]; exact h1) p.2 h2
theorem right_iff {t : DTimer} {now : Int} : right t now = true ↔ (0 ≤ t.id ∧ t.id ≤ 1048576) ∧ (0 ≤ t.due ∧ t.due ≤ 262143) ∧ now < t.due := by
  simp [right, okTime]; omega
theorem Ok.right {w : DWheel} (h : Ok w) {t : DTimer} (ht : t ∈ timers w.slots) : Wh.right t w.now = true := by
  obtain ⟨i, hi, ht⟩ := mem_timers.1 ht
  exact (h.ent i (by rw [← h.len]; exact hi) t ht).1
/-- rows by place, each sorted, make a sorted list -/
theorem sd_rows {LL : List (List DTimer)} {now : Int} (hn : 0 ≤ now) (h1 : ∀ i, i < LL.length → Sd (LL.getD i [])) (h2 : ∀ i, i < LL.length → ∀ t ∈ LL.getD i [], Wh.right t now = true ∧ place t.due now = (i : Int)) : Sd (timers LL) := by
  unfold Sd timers
  rw [List.pairwise_flatten]
  refine ⟨fun l hl => ?_, List.pairwise_iff_getElem.2 fun i j hi hj hij a ha b hb => ?_⟩
  · obtain ⟨i, hi, rfl⟩ := List.getElem_of_mem hl
    have := h1 i hi
    rwa [getD_of hi] at this
  · have ha' := h2 i hi a (by rwa [getD_of hi])
    have hb' := h2 j hj b (by rwa [getD_of hj])
    have ra := right_iff.1 ha'.1
    have rb := right_iff.1 hb'.1
    rw [ahead_iff]; left
    rcases Int.lt_or_le a.due b.due with h | h
    · exact h
    · have := place_mono hn (show now < b.due by omega) h (by omega)
      omega
theorem Ok.sd {w : DWheel} (h : Ok w) : Sd (timers w.slots) :=
  sd_rows h.now.1 (fun i hi => h.srt i (by rw [← h.len]; exact hi)) (fun i hi => h.ent i (by rw [← h.len]; exact hi))
def mkW (now : Int) (S : List DTimer) : DWheel := ⟨now, (List.range 48).map fun i : Nat => S.filter fun t => decide (place t.due now = (i : Int))⟩
theorem mkW_len (now : Int) (S : List DTimer) : (mkW now S).slots.length = 48 := by simp [mkW]
theorem mkW_row {now : Int} {S : List DTimer} {i : Nat} (h : i < 48) : (mkW now S).slots.getD i [] = S.filter fun t => decide (place t.due now = (i : Int)) := by
  rw [getD_of (by rw [mkW_len]; exact h)]; simp [mkW]
theorem wh_ext {a b : DWheel} (h : a.now = b.now) (h1 : a.slots.length = b.slots.length) (h2 : ∀ i, i < a.slots.length → a.slots.getD i [] = b.slots.getD i []) : a = b := by
  obtain ⟨an, asl⟩ := a
  obtain ⟨bn, bs⟩ := b
  simp only at *
  subst h
  congr 1
  refine List.ext_getElem h1 fun i g1 g2 => ?_
  have := h2 i g1
  rwa [getD_of g1, getD_of g2] at this
theorem Ok.canon {w : DWheel} (h : Ok w) : w = mkW w.now (timers w.slots) := by
  refine wh_ext rfl (by rw [mkW_len, h.len]) fun i hi => ?_
  have hi' : i < 48 := by rw [← h.len]; exact hi
  rw [mkW_row hi']
  refine sd_ext (h.srt i hi') (sd_filter h.sd _) fun t => ?_
  rw [List.mem_filter, decide_eq_true_eq]
  constructor
  · intro ht
    exact ⟨mem_timers.2 ⟨i, hi, ht⟩, (h.ent i hi' t ht).2⟩
  · rintro ⟨ht, hp⟩
    obtain ⟨j, hj, ht⟩ := mem_timers.1 ht
    have := (h.ent j (by rw [← h.len]; exact hj) t ht).2
    have e : j = i := by omega
    rwa [e] at ht
structure Good (now : Int) (S : List DTimer) : Prop where
  nw : 0 ≤ now ∧ now ≤ 262143
  sd : Sd S
  right : ∀ t ∈ S, Wh.right t now = true
  ids : (S.map (·.id)).Nodup
  few : S.length ≤ 60
theorem mkW_timers {now : Int} {S : List DTimer} (hn : 0 ≤ now) (h1 : Sd S) (h2 : ∀ t ∈ S, Wh.right t now = true) : timers (mkW now S).slots = S := by
  refine sd_ext (sd_rows (now := now) hn (fun i hi => ?_) (fun i hi t ht => ?_)) h1 fun t => ?_
  · rw [mkW_row (by rw [← mkW_len now S]; exact hi)]; exact sd_filter h1 _
  · rw [mkW_row (by rw [← mkW_len now S]; exact hi), List.mem_filter, decide_eq_true_eq] at ht
    exact ⟨h2 t ht.1, ht.2⟩
  · rw [mem_timers]
    constructor
    · rintro ⟨i, hi, ht⟩
      rw [mkW_row (by rw [← mkW_len now S]; exact hi), List.mem_filter] at ht
      exact ht.1
    · intro ht
      have hp := place_bd t.due now
      refine ⟨(place t.due now).toNat, by rw [mkW_len]; omega, ?_⟩
      rw [mkW_row (by omega), List.mem_filter, decide_eq_true_eq]
      exact ⟨ht, by omega⟩
theorem Good.ok {now : Int} {S : List DTimer} (h : Good now S) : Ok (mkW now S) := by
  have ht := mkW_timers h.nw.1 h.sd h.right
  refine ⟨h.nw, mkW_len _ _, fun i hi t hm => ?_, fun i hi => by rw [mkW_row hi]; exact sd_filter h.sd _, by rw [ht]; exact h.ids, by rw [ht]; exact h.few⟩
  rw [mkW_row hi, List.mem_filter, decide_eq_true_eq] at hm
  exact ⟨h.right t hm.1, hm.2⟩
theorem Good.timers {now : Int} {S : List DTimer} (h : Good now S) : Wh.timers (mkW now S).slots = S := mkW_timers h.nw.1 h.sd h.right
theorem Ok.good {w : DWheel} (h : Ok w) : Good w.now (Wh.timers w.slots) := ⟨h.now, h.sd, fun _ ht => h.right ht, h.ids, h.few⟩
end Go.Sx.Wh
