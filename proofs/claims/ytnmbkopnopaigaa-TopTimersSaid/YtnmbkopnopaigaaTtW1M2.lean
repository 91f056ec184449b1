/- The walks, printed by a program from the translation and a specification. -/
import Derived.Test.YtnmbkopnopaigaaTtF
import Derived.Test.YtnmbkopnopaigaaExPureM20
import Derived.Test.YtnmbkopnopaigaaLrLawM2
namespace Go.Proofs.Ytnmbkopnopaigaa
open Go.Sx Go.RowKit
set_option maxHeartbeats 8000000 in
set_option maxRecDepth 100000 in
theorem wtime_ok (n : Int) : Fn0 Try.prog 65 [Vi n] (fun _ => True) (.bool (Wh.okTime n)) := by
 refine fn0 (nt := 9) (F0 := [(0, Vi n)]) Try.func65 rfl Try.ntmps65 rfl rfl (fun w0 hpre => ?_)
 refine c_seq (c_region ?_)
 refine o_as rfl rfl ?_
 refine o_nil (q_then (c_seq (c_region ?_)))
 refine o_mv rfl rfl ?_
 refine o_p (p_ge rfl rfl) ?_
 refine o_mv rfl rfl ?_
 refine o_and (p := 8) 3 (decide (n ≤ 262143)) ?_ ?_ ?_
 ·intro hb1 hk
  simp only [decide_eq_true_eq] at hb1
  refine o_unguard 5 rfl rfl ?_
  refine o_mv rfl rfl ?_
  refine o_unguard 5 rfl rfl ?_
  refine o_p (p_le rfl rfl) ?_
  refine o_pt rfl rfl rfl ?_
  exact o_sub (sr (Sub.skip rfl (Sub.skip rfl (Sub.skip rfl (Sub.skip rfl (Sub.refl _)))))) hk
 ·intro hb1 hk
  refine o_guard_no rfl 5 rfl rfl rfl rfl rfl ?_
  refine o_guard_no rfl 5 rfl rfl rfl rfl rfl ?_
  refine o_pf rfl rfl rfl ?_
  exact o_sub (sr (Sub.skip rfl (Sub.skip rfl (Sub.skip rfl (Sub.skip rfl (Sub.refl _)))))) hk
 refine o_as rfl rfl ?_
 refine o_nil (q_then (c_ret ?_))
 have hr0 : ((decide (0 ≤ n) && decide (n ≤ 262143)) : Bool) = (Wh.okTime n) := by
  rfl
 refine q_end0 (v := .bool (decide (0 ≤ n) && decide (n ≤ 262143))) (rt1 rfl (r_tmp rfl)) (i := 0) rfl ?_
 exact (by have hcc := congrArg (fun (y0 : Bool) => (.bool y0 : Value)) hr0; exact hcc)

set_option maxHeartbeats 8000000 in
set_option maxRecDepth 100000 in
theorem len64_ok (x : UInt64) (hy1 : x.toNat < 262144) : Fn0 Try.prog 151 [.int .u64 (x.toNat : Int)] (fun _ => True) (Vi (Wh.bl x.toNat : Int)) := by
 refine fn0 (nt := 25) (F0 := [(0, .int .u64 (x.toNat : Int))]) Try.func151 rfl Try.ntmps151 rfl rfl (fun w0 hpre => ?_)
 have hts : (ByteArray.mk #[0, 1, 2, 2, 3, 3, 3, 3, 4, 4, 4, 4, 4, 4, 4, 4, 5, 5, 5, 5, 5, 5, 5, 5, 5, 5, 5, 5, 5, 5, 5, 5, 6, 6, 6, 6, 6, 6, 6, 6, 6, 6, 6, 6, 6, 6, 6, 6, 6, 6, 6, 6, 6, 6, 6, 6, 6, 6, 6, 6, 6, 6, 6, 6, 7, 7, 7, 7, 7, 7, 7, 7, 7, 7, 7, 7, 7, 7, 7, 7, 7, 7, 7, 7, 7, 7, 7, 7, 7, 7, 7, 7, 7, 7, 7, 7, 7, 7, 7, 7, 7, 7, 7, 7, 7, 7, 7, 7, 7, 7, 7, 7, 7, 7, 7, 7, 7, 7, 7, 7, 7, 7, 7, 7, 7, 7, 7, 7, 8, 8, 8, 8, 8, 8, 8, 8, 8, 8, 8, 8, 8, 8, 8, 8, 8, 8, 8, 8, 8, 8, 8, 8, 8, 8, 8, 8, 8, 8, 8, 8, 8, 8, 8, 8, 8, 8, 8, 8, 8, 8, 8, 8, 8, 8, 8, 8, 8, 8, 8, 8, 8, 8, 8, 8, 8, 8, 8, 8, 8, 8, 8, 8, 8, 8, 8, 8, 8, 8, 8, 8, 8, 8, 8, 8, 8, 8, 8, 8, 8, 8, 8, 8, 8, 8, 8, 8, 8, 8, 8, 8, 8, 8, 8, 8, 8, 8, 8, 8, 8, 8, 8, 8, 8, 8, 8, 8, 8, 8, 8, 8, 8, 8, 8, 8, 8, 8, 8, 8, 8, 8, 8, 8, 8, 8, 8, 8]).size = 256 := rfl
 refine c_seq (c_region ?_)
 refine o_as rfl rfl ?_
 refine o_nil (q_then (c_seq (c_seq (c_region ?_))))
 refine o_mv rfl rfl ?_
 refine o_p (pu_ge (p := x) (q := (4294967296 : UInt64)) rfl rfl) ?_
 refine o_nil (q_then ?_)
 refine c_cond rfl (fun hc1 => ?_) (fun hc1 => ?_)
 ·simp only [decide_eq_true_eq] at hc1
  exfalso; exact Wh.u_no hy1 hc1
 ·simp only [decide_eq_false_iff_not, Int.not_le] at hc1
  refine c_skip (q_then (c_seq (c_seq (c_region ?_))))
  refine o_mv rfl rfl ?_
  refine o_p (pu_ge (p := x) (q := (65536 : UInt64)) rfl rfl) ?_
  refine o_nil (q_then ?_)
  refine c_cond rfl (fun hc2 => ?_) (fun hc2 => ?_)
  ·simp only [decide_eq_true_eq] at hc2
   have h16 := hc2
   refine c_seq (c_region ?_)
   refine o_mv rfl rfl ?_
   refine o_p (pu_shr (p := x) (m := 16) rfl rfl (by decide)) ?_
   refine o_as rfl rfl ?_
   refine o_nil (q_then (c_region ?_))
   refine o_mv rfl rfl ?_
   refine o_p (p_addb rfl rfl (by omega)) ?_
   refine o_as rfl rfl ?_
   refine o_nil (q_then (c_seq (c_seq (c_region ?_))))
   refine o_mv rfl rfl ?_
   refine o_p (pu_ge (p := (shrU x 16)) (q := (256 : UInt64)) rfl rfl) ?_
   refine o_nil (q_then ?_)
   refine c_cond rfl (fun hc3 => ?_) (fun hc3 => ?_)
   ·simp only [decide_eq_true_eq] at hc3
    exfalso; exact Wh.u_no2 hy1 hc3
   ·simp only [decide_eq_false_iff_not, Int.not_le] at hc3
    have h8 := hc3
    refine c_skip (q_then (c_seq (c_region ?_)))
    refine o_mv rfl rfl ?_
    refine o_mv rfl rfl ?_
    refine o_p (p_conv (z := ((shrU x 16).toNat : Int)) rfl Try.underlying100 Try.underlying5) ?_
    refine o_p (p_indexStr (z := (IntKind.u8.wrap ((shrU x 16).toNat : Int))) (i := (IntKind.u8.wrap ((shrU x 16).toNat : Int)).toNat) rfl rfl Try.underlying9 (by first | omega | exact (Int.toNat_of_nonneg (Wh.u8_bd _).1).symm | exact Wh.u8_lt _) (by first | omega | exact (Int.toNat_of_nonneg (Wh.u8_bd _).1).symm | exact Wh.u8_lt _)) ?_
    refine o_p (p_conv (z := ((byteAt (ByteArray.mk #[0, 1, 2, 2, 3, 3, 3, 3, 4, 4, 4, 4, 4, 4, 4, 4, 5, 5, 5, 5, 5, 5, 5, 5, 5, 5, 5, 5, 5, 5, 5, 5, 6, 6, 6, 6, 6, 6, 6, 6, 6, 6, 6, 6, 6, 6, 6, 6, 6, 6, 6, 6, 6, 6, 6, 6, 6, 6, 6, 6, 6, 6, 6, 6, 7, 7, 7, 7, 7, 7, 7, 7, 7, 7, 7, 7, 7, 7, 7, 7, 7, 7, 7, 7, 7, 7, 7, 7, 7, 7, 7, 7, 7, 7, 7, 7, 7, 7, 7, 7, 7, 7, 7, 7, 7, 7, 7, 7, 7, 7, 7, 7, 7, 7, 7, 7, 7, 7, 7, 7, 7, 7, 7, 7, 7, 7, 7, 7, 8, 8, 8, 8, 8, 8, 8, 8, 8, 8, 8, 8, 8, 8, 8, 8, 8, 8, 8, 8, 8, 8, 8, 8, 8, 8, 8, 8, 8, 8, 8, 8, 8, 8, 8, 8, 8, 8, 8, 8, 8, 8, 8, 8, 8, 8, 8, 8, 8, 8, 8, 8, 8, 8, 8, 8, 8, 8, 8, 8, 8, 8, 8, 8, 8, 8, 8, 8, 8, 8, 8, 8, 8, 8, 8, 8, 8, 8, 8, 8, 8, 8, 8, 8, 8, 8, 8, 8, 8, 8, 8, 8, 8, 8, 8, 8, 8, 8, 8, 8, 8, 8, 8, 8, 8, 8, 8, 8, 8, 8, 8, 8, 8, 8, 8, 8, 8, 8, 8, 8, 8, 8, 8, 8, 8, 8, 8, 8]) ((IntKind.u8.wrap ((shrU x 16).toNat : Int)).toNat)).toNat : Int)) rfl Try.underlying5 Try.underlying3) ?_
    refine o_p (p_add rfl rfl) ?_
    refine o_as rfl rfl ?_
    refine o_nil (q_then (c_ret ?_))
    have hr0 : ((IntKind.i64.wrap ((0 + 16) + (IntKind.i64.wrap ((byteAt (ByteArray.mk #[0, 1, 2, 2, 3, 3, 3, 3, 4, 4, 4, 4, 4, 4, 4, 4, 5, 5, 5, 5, 5, 5, 5, 5, 5, 5, 5, 5, 5, 5, 5, 5, 6, 6, 6, 6, 6, 6, 6, 6, 6, 6, 6, 6, 6, 6, 6, 6, 6, 6, 6, 6, 6, 6, 6, 6, 6, 6, 6, 6, 6, 6, 6, 6, 7, 7, 7, 7, 7, 7, 7, 7, 7, 7, 7, 7, 7, 7, 7, 7, 7, 7, 7, 7, 7, 7, 7, 7, 7, 7, 7, 7, 7, 7, 7, 7, 7, 7, 7, 7, 7, 7, 7, 7, 7, 7, 7, 7, 7, 7, 7, 7, 7, 7, 7, 7, 7, 7, 7, 7, 7, 7, 7, 7, 7, 7, 7, 7, 8, 8, 8, 8, 8, 8, 8, 8, 8, 8, 8, 8, 8, 8, 8, 8, 8, 8, 8, 8, 8, 8, 8, 8, 8, 8, 8, 8, 8, 8, 8, 8, 8, 8, 8, 8, 8, 8, 8, 8, 8, 8, 8, 8, 8, 8, 8, 8, 8, 8, 8, 8, 8, 8, 8, 8, 8, 8, 8, 8, 8, 8, 8, 8, 8, 8, 8, 8, 8, 8, 8, 8, 8, 8, 8, 8, 8, 8, 8, 8, 8, 8, 8, 8, 8, 8, 8, 8, 8, 8, 8, 8, 8, 8, 8, 8, 8, 8, 8, 8, 8, 8, 8, 8, 8, 8, 8, 8, 8, 8, 8, 8, 8, 8, 8, 8, 8, 8, 8, 8, 8, 8, 8, 8, 8, 8, 8, 8]) ((IntKind.u8.wrap ((shrU x 16).toNat : Int)).toNat)).toNat : Int)))) : Int) = (Wh.bl x.toNat : Int) := by
     first | exact Wh.len_a h8 | exact Wh.len_b hy1 h16 h8 | exact Wh.len_c hy1 h16
    refine q_end0 (v := Vi (IntKind.i64.wrap ((0 + 16) + (IntKind.i64.wrap ((byteAt (ByteArray.mk #[0, 1, 2, 2, 3, 3, 3, 3, 4, 4, 4, 4, 4, 4, 4, 4, 5, 5, 5, 5, 5, 5, 5, 5, 5, 5, 5, 5, 5, 5, 5, 5, 6, 6, 6, 6, 6, 6, 6, 6, 6, 6, 6, 6, 6, 6, 6, 6, 6, 6, 6, 6, 6, 6, 6, 6, 6, 6, 6, 6, 6, 6, 6, 6, 7, 7, 7, 7, 7, 7, 7, 7, 7, 7, 7, 7, 7, 7, 7, 7, 7, 7, 7, 7, 7, 7, 7, 7, 7, 7, 7, 7, 7, 7, 7, 7, 7, 7, 7, 7, 7, 7, 7, 7, 7, 7, 7, 7, 7, 7, 7, 7, 7, 7, 7, 7, 7, 7, 7, 7, 7, 7, 7, 7, 7, 7, 7, 7, 8, 8, 8, 8, 8, 8, 8, 8, 8, 8, 8, 8, 8, 8, 8, 8, 8, 8, 8, 8, 8, 8, 8, 8, 8, 8, 8, 8, 8, 8, 8, 8, 8, 8, 8, 8, 8, 8, 8, 8, 8, 8, 8, 8, 8, 8, 8, 8, 8, 8, 8, 8, 8, 8, 8, 8, 8, 8, 8, 8, 8, 8, 8, 8, 8, 8, 8, 8, 8, 8, 8, 8, 8, 8, 8, 8, 8, 8, 8, 8, 8, 8, 8, 8, 8, 8, 8, 8, 8, 8, 8, 8, 8, 8, 8, 8, 8, 8, 8, 8, 8, 8, 8, 8, 8, 8, 8, 8, 8, 8, 8, 8, 8, 8, 8, 8, 8, 8, 8, 8, 8, 8, 8, 8, 8, 8, 8, 8]) ((IntKind.u8.wrap ((shrU x 16).toNat : Int)).toNat)).toNat : Int))))) (rt1 rfl (r_tmp rfl)) (i := 0) rfl ?_
    exact (by have hcc := congrArg (fun (y0 : Int) => (.int .i64 y0 : Value)) hr0; exact hcc)
  ·simp only [decide_eq_false_iff_not, Int.not_le] at hc2
   have h16 := hc2
   refine c_skip (q_then (c_seq (c_seq (c_region ?_))))
   refine o_mv rfl rfl ?_
   refine o_p (pu_ge (p := x) (q := (256 : UInt64)) rfl rfl) ?_
   refine o_nil (q_then ?_)
   refine c_cond rfl (fun hc4 => ?_) (fun hc4 => ?_)
   ·simp only [decide_eq_true_eq] at hc4
    have h8 := hc4
    have hb8 := Wh.u_b8 h16
    refine c_seq (c_region ?_)
    refine o_mv rfl rfl ?_
    refine o_p (pu_shr (p := x) (m := 8) rfl rfl (by decide)) ?_
    refine o_as rfl rfl ?_
    refine o_nil (q_then (c_region ?_))
    refine o_mv rfl rfl ?_
    refine o_p (p_addb rfl rfl (by omega)) ?_
    refine o_as rfl rfl ?_
    refine o_nil (q_then (c_seq (c_region ?_)))
    refine o_mv rfl rfl ?_
    refine o_mv rfl rfl ?_
    refine o_p (p_conv (z := ((shrU x 8).toNat : Int)) rfl Try.underlying100 Try.underlying5) ?_
    refine o_p (p_indexStr (z := (IntKind.u8.wrap ((shrU x 8).toNat : Int))) (i := (IntKind.u8.wrap ((shrU x 8).toNat : Int)).toNat) rfl rfl Try.underlying9 (by first | omega | exact (Int.toNat_of_nonneg (Wh.u8_bd _).1).symm | exact Wh.u8_lt _) (by first | omega | exact (Int.toNat_of_nonneg (Wh.u8_bd _).1).symm | exact Wh.u8_lt _)) ?_
    refine o_p (p_conv (z := ((byteAt (ByteArray.mk #[0, 1, 2, 2, 3, 3, 3, 3, 4, 4, 4, 4, 4, 4, 4, 4, 5, 5, 5, 5, 5, 5, 5, 5, 5, 5, 5, 5, 5, 5, 5, 5, 6, 6, 6, 6, 6, 6, 6, 6, 6, 6, 6, 6, 6, 6, 6, 6, 6, 6, 6, 6, 6, 6, 6, 6, 6, 6, 6, 6, 6, 6, 6, 6, 7, 7, 7, 7, 7, 7, 7, 7, 7, 7, 7, 7, 7, 7, 7, 7, 7, 7, 7, 7, 7, 7, 7, 7, 7, 7, 7, 7, 7, 7, 7, 7, 7, 7, 7, 7, 7, 7, 7, 7, 7, 7, 7, 7, 7, 7, 7, 7, 7, 7, 7, 7, 7, 7, 7, 7, 7, 7, 7, 7, 7, 7, 7, 7, 8, 8, 8, 8, 8, 8, 8, 8, 8, 8, 8, 8, 8, 8, 8, 8, 8, 8, 8, 8, 8, 8, 8, 8, 8, 8, 8, 8, 8, 8, 8, 8, 8, 8, 8, 8, 8, 8, 8, 8, 8, 8, 8, 8, 8, 8, 8, 8, 8, 8, 8, 8, 8, 8, 8, 8, 8, 8, 8, 8, 8, 8, 8, 8, 8, 8, 8, 8, 8, 8, 8, 8, 8, 8, 8, 8, 8, 8, 8, 8, 8, 8, 8, 8, 8, 8, 8, 8, 8, 8, 8, 8, 8, 8, 8, 8, 8, 8, 8, 8, 8, 8, 8, 8, 8, 8, 8, 8, 8, 8, 8, 8, 8, 8, 8, 8, 8, 8, 8, 8, 8, 8, 8, 8, 8, 8, 8, 8]) ((IntKind.u8.wrap ((shrU x 8).toNat : Int)).toNat)).toNat : Int)) rfl Try.underlying5 Try.underlying3) ?_
    refine o_p (p_add rfl rfl) ?_
    refine o_as rfl rfl ?_
    refine o_nil (q_then (c_ret ?_))
    have hr0 : ((IntKind.i64.wrap ((0 + 8) + (IntKind.i64.wrap ((byteAt (ByteArray.mk #[0, 1, 2, 2, 3, 3, 3, 3, 4, 4, 4, 4, 4, 4, 4, 4, 5, 5, 5, 5, 5, 5, 5, 5, 5, 5, 5, 5, 5, 5, 5, 5, 6, 6, 6, 6, 6, 6, 6, 6, 6, 6, 6, 6, 6, 6, 6, 6, 6, 6, 6, 6, 6, 6, 6, 6, 6, 6, 6, 6, 6, 6, 6, 6, 7, 7, 7, 7, 7, 7, 7, 7, 7, 7, 7, 7, 7, 7, 7, 7, 7, 7, 7, 7, 7, 7, 7, 7, 7, 7, 7, 7, 7, 7, 7, 7, 7, 7, 7, 7, 7, 7, 7, 7, 7, 7, 7, 7, 7, 7, 7, 7, 7, 7, 7, 7, 7, 7, 7, 7, 7, 7, 7, 7, 7, 7, 7, 7, 8, 8, 8, 8, 8, 8, 8, 8, 8, 8, 8, 8, 8, 8, 8, 8, 8, 8, 8, 8, 8, 8, 8, 8, 8, 8, 8, 8, 8, 8, 8, 8, 8, 8, 8, 8, 8, 8, 8, 8, 8, 8, 8, 8, 8, 8, 8, 8, 8, 8, 8, 8, 8, 8, 8, 8, 8, 8, 8, 8, 8, 8, 8, 8, 8, 8, 8, 8, 8, 8, 8, 8, 8, 8, 8, 8, 8, 8, 8, 8, 8, 8, 8, 8, 8, 8, 8, 8, 8, 8, 8, 8, 8, 8, 8, 8, 8, 8, 8, 8, 8, 8, 8, 8, 8, 8, 8, 8, 8, 8, 8, 8, 8, 8, 8, 8, 8, 8, 8, 8, 8, 8, 8, 8, 8, 8, 8, 8]) ((IntKind.u8.wrap ((shrU x 8).toNat : Int)).toNat)).toNat : Int)))) : Int) = (Wh.bl x.toNat : Int) := by
     first | exact Wh.len_a h8 | exact Wh.len_b hy1 h16 h8 | exact Wh.len_c hy1 h16
    refine q_end0 (v := Vi (IntKind.i64.wrap ((0 + 8) + (IntKind.i64.wrap ((byteAt (ByteArray.mk #[0, 1, 2, 2, 3, 3, 3, 3, 4, 4, 4, 4, 4, 4, 4, 4, 5, 5, 5, 5, 5, 5, 5, 5, 5, 5, 5, 5, 5, 5, 5, 5, 6, 6, 6, 6, 6, 6, 6, 6, 6, 6, 6, 6, 6, 6, 6, 6, 6, 6, 6, 6, 6, 6, 6, 6, 6, 6, 6, 6, 6, 6, 6, 6, 7, 7, 7, 7, 7, 7, 7, 7, 7, 7, 7, 7, 7, 7, 7, 7, 7, 7, 7, 7, 7, 7, 7, 7, 7, 7, 7, 7, 7, 7, 7, 7, 7, 7, 7, 7, 7, 7, 7, 7, 7, 7, 7, 7, 7, 7, 7, 7, 7, 7, 7, 7, 7, 7, 7, 7, 7, 7, 7, 7, 7, 7, 7, 7, 8, 8, 8, 8, 8, 8, 8, 8, 8, 8, 8, 8, 8, 8, 8, 8, 8, 8, 8, 8, 8, 8, 8, 8, 8, 8, 8, 8, 8, 8, 8, 8, 8, 8, 8, 8, 8, 8, 8, 8, 8, 8, 8, 8, 8, 8, 8, 8, 8, 8, 8, 8, 8, 8, 8, 8, 8, 8, 8, 8, 8, 8, 8, 8, 8, 8, 8, 8, 8, 8, 8, 8, 8, 8, 8, 8, 8, 8, 8, 8, 8, 8, 8, 8, 8, 8, 8, 8, 8, 8, 8, 8, 8, 8, 8, 8, 8, 8, 8, 8, 8, 8, 8, 8, 8, 8, 8, 8, 8, 8, 8, 8, 8, 8, 8, 8, 8, 8, 8, 8, 8, 8, 8, 8, 8, 8, 8, 8]) ((IntKind.u8.wrap ((shrU x 8).toNat : Int)).toNat)).toNat : Int))))) (rt1 rfl (r_tmp rfl)) (i := 0) rfl ?_
    exact (by have hcc := congrArg (fun (y0 : Int) => (.int .i64 y0 : Value)) hr0; exact hcc)
   ·simp only [decide_eq_false_iff_not, Int.not_le] at hc4
    have h8 := hc4
    refine c_skip (q_then (c_seq (c_region ?_)))
    refine o_mv rfl rfl ?_
    refine o_mv rfl rfl ?_
    refine o_p (p_conv (z := (x.toNat : Int)) rfl Try.underlying100 Try.underlying5) ?_
    refine o_p (p_indexStr (z := (IntKind.u8.wrap (x.toNat : Int))) (i := (IntKind.u8.wrap (x.toNat : Int)).toNat) rfl rfl Try.underlying9 (by first | omega | exact (Int.toNat_of_nonneg (Wh.u8_bd _).1).symm | exact Wh.u8_lt _) (by first | omega | exact (Int.toNat_of_nonneg (Wh.u8_bd _).1).symm | exact Wh.u8_lt _)) ?_
    refine o_p (p_conv (z := ((byteAt (ByteArray.mk #[0, 1, 2, 2, 3, 3, 3, 3, 4, 4, 4, 4, 4, 4, 4, 4, 5, 5, 5, 5, 5, 5, 5, 5, 5, 5, 5, 5, 5, 5, 5, 5, 6, 6, 6, 6, 6, 6, 6, 6, 6, 6, 6, 6, 6, 6, 6, 6, 6, 6, 6, 6, 6, 6, 6, 6, 6, 6, 6, 6, 6, 6, 6, 6, 7, 7, 7, 7, 7, 7, 7, 7, 7, 7, 7, 7, 7, 7, 7, 7, 7, 7, 7, 7, 7, 7, 7, 7, 7, 7, 7, 7, 7, 7, 7, 7, 7, 7, 7, 7, 7, 7, 7, 7, 7, 7, 7, 7, 7, 7, 7, 7, 7, 7, 7, 7, 7, 7, 7, 7, 7, 7, 7, 7, 7, 7, 7, 7, 8, 8, 8, 8, 8, 8, 8, 8, 8, 8, 8, 8, 8, 8, 8, 8, 8, 8, 8, 8, 8, 8, 8, 8, 8, 8, 8, 8, 8, 8, 8, 8, 8, 8, 8, 8, 8, 8, 8, 8, 8, 8, 8, 8, 8, 8, 8, 8, 8, 8, 8, 8, 8, 8, 8, 8, 8, 8, 8, 8, 8, 8, 8, 8, 8, 8, 8, 8, 8, 8, 8, 8, 8, 8, 8, 8, 8, 8, 8, 8, 8, 8, 8, 8, 8, 8, 8, 8, 8, 8, 8, 8, 8, 8, 8, 8, 8, 8, 8, 8, 8, 8, 8, 8, 8, 8, 8, 8, 8, 8, 8, 8, 8, 8, 8, 8, 8, 8, 8, 8, 8, 8, 8, 8, 8, 8, 8, 8]) ((IntKind.u8.wrap (x.toNat : Int)).toNat)).toNat : Int)) rfl Try.underlying5 Try.underlying3) ?_
    refine o_p (p_add rfl rfl) ?_
    refine o_as rfl rfl ?_
    refine o_nil (q_then (c_ret ?_))
    have hr0 : ((IntKind.i64.wrap (0 + (IntKind.i64.wrap ((byteAt (ByteArray.mk #[0, 1, 2, 2, 3, 3, 3, 3, 4, 4, 4, 4, 4, 4, 4, 4, 5, 5, 5, 5, 5, 5, 5, 5, 5, 5, 5, 5, 5, 5, 5, 5, 6, 6, 6, 6, 6, 6, 6, 6, 6, 6, 6, 6, 6, 6, 6, 6, 6, 6, 6, 6, 6, 6, 6, 6, 6, 6, 6, 6, 6, 6, 6, 6, 7, 7, 7, 7, 7, 7, 7, 7, 7, 7, 7, 7, 7, 7, 7, 7, 7, 7, 7, 7, 7, 7, 7, 7, 7, 7, 7, 7, 7, 7, 7, 7, 7, 7, 7, 7, 7, 7, 7, 7, 7, 7, 7, 7, 7, 7, 7, 7, 7, 7, 7, 7, 7, 7, 7, 7, 7, 7, 7, 7, 7, 7, 7, 7, 8, 8, 8, 8, 8, 8, 8, 8, 8, 8, 8, 8, 8, 8, 8, 8, 8, 8, 8, 8, 8, 8, 8, 8, 8, 8, 8, 8, 8, 8, 8, 8, 8, 8, 8, 8, 8, 8, 8, 8, 8, 8, 8, 8, 8, 8, 8, 8, 8, 8, 8, 8, 8, 8, 8, 8, 8, 8, 8, 8, 8, 8, 8, 8, 8, 8, 8, 8, 8, 8, 8, 8, 8, 8, 8, 8, 8, 8, 8, 8, 8, 8, 8, 8, 8, 8, 8, 8, 8, 8, 8, 8, 8, 8, 8, 8, 8, 8, 8, 8, 8, 8, 8, 8, 8, 8, 8, 8, 8, 8, 8, 8, 8, 8, 8, 8, 8, 8, 8, 8, 8, 8, 8, 8, 8, 8, 8, 8]) ((IntKind.u8.wrap (x.toNat : Int)).toNat)).toNat : Int)))) : Int) = (Wh.bl x.toNat : Int) := by
     first | exact Wh.len_a h8 | exact Wh.len_b hy1 h16 h8 | exact Wh.len_c hy1 h16
    refine q_end0 (v := Vi (IntKind.i64.wrap (0 + (IntKind.i64.wrap ((byteAt (ByteArray.mk #[0, 1, 2, 2, 3, 3, 3, 3, 4, 4, 4, 4, 4, 4, 4, 4, 5, 5, 5, 5, 5, 5, 5, 5, 5, 5, 5, 5, 5, 5, 5, 5, 6, 6, 6, 6, 6, 6, 6, 6, 6, 6, 6, 6, 6, 6, 6, 6, 6, 6, 6, 6, 6, 6, 6, 6, 6, 6, 6, 6, 6, 6, 6, 6, 7, 7, 7, 7, 7, 7, 7, 7, 7, 7, 7, 7, 7, 7, 7, 7, 7, 7, 7, 7, 7, 7, 7, 7, 7, 7, 7, 7, 7, 7, 7, 7, 7, 7, 7, 7, 7, 7, 7, 7, 7, 7, 7, 7, 7, 7, 7, 7, 7, 7, 7, 7, 7, 7, 7, 7, 7, 7, 7, 7, 7, 7, 7, 7, 8, 8, 8, 8, 8, 8, 8, 8, 8, 8, 8, 8, 8, 8, 8, 8, 8, 8, 8, 8, 8, 8, 8, 8, 8, 8, 8, 8, 8, 8, 8, 8, 8, 8, 8, 8, 8, 8, 8, 8, 8, 8, 8, 8, 8, 8, 8, 8, 8, 8, 8, 8, 8, 8, 8, 8, 8, 8, 8, 8, 8, 8, 8, 8, 8, 8, 8, 8, 8, 8, 8, 8, 8, 8, 8, 8, 8, 8, 8, 8, 8, 8, 8, 8, 8, 8, 8, 8, 8, 8, 8, 8, 8, 8, 8, 8, 8, 8, 8, 8, 8, 8, 8, 8, 8, 8, 8, 8, 8, 8, 8, 8, 8, 8, 8, 8, 8, 8, 8, 8, 8, 8, 8, 8, 8, 8, 8, 8]) ((IntKind.u8.wrap (x.toNat : Int)).toNat)).toNat : Int))))) (rt1 rfl (r_tmp rfl)) (i := 0) rfl ?_
    exact (by have hcc := congrArg (fun (y0 : Int) => (.int .i64 y0 : Value)) hr0; exact hcc)

set_option maxHeartbeats 8000000 in
set_option maxRecDepth 100000 in
theorem blen_ok (x : UInt64) (hy1 : x.toNat < 262144) : Fn0 Try.prog 112 [.int .u64 (x.toNat : Int)] (fun _ => True) (Vi (Wh.bl x.toNat : Int)) := by
 refine fn0 (nt := 8) (F0 := [(0, .int .u64 (x.toNat : Int))]) Try.func112 rfl Try.ntmps112 rfl rfl (fun w0 hpre => ?_)
 refine c_seq (c_region ?_)
 refine o_as rfl rfl ?_
 refine o_nil (q_then (c_seq ?_))
 refine c_false rfl ?_
 refine c_skip (q_then (c_seq (c_region ?_)))
 refine o_mv rfl rfl ?_
 refine o_call0 (v := Vi (Wh.bl x.toNat : Int)) rfl (len64_ok x (by first | assumption | exact hlv.2.2)) hf151 (fun _ _ => trivial) rfl ?_
 refine o_as rfl rfl ?_
 refine o_nil (q_then (c_ret ?_))
 refine q_end0 (v := Vi (Wh.bl x.toNat : Int)) (rt1 rfl (r_tmp rfl)) (i := 0) rfl ?_
 exact rfl

set_option maxHeartbeats 8000000 in
set_option maxRecDepth 100000 in
theorem wplace_ok (at_ : Int) (now : Int) (hy1 : 0 ≤ at_ ∧ at_ ≤ 262143) (hy2 : 0 ≤ now ∧ now ≤ 262143) : Fn0 Try.prog 77 [Vi at_, Vi now] (fun _ => True) (Vi (Wh.place at_ now)) := by
 refine fn0 (nt := 22) (F0 := [(0, Vi at_), (1, Vi now)]) Try.func77 rfl Try.ntmps77 rfl rfl (fun w0 hpre => ?_)
 have hlv := Wh.level_of hy1 hy2
 have hlb := Wh.level_bd at_ now
 have hbl := hlv.2.1
 refine c_seq (c_region ?_)
 refine o_as rfl rfl ?_
 refine o_nil (q_then (c_seq (c_region ?_)))
 refine o_mv rfl rfl ?_
 refine o_mv rfl rfl ?_
 refine o_p (p_xorI (p := at_) (q := now) rfl rfl) ?_
 refine o_p (pu_conv (z := (xorI at_ now)) rfl Try.underlying3 Try.underlying73) ?_
 refine o_call0 (v := Vi (Wh.bl (toU (xorI at_ now)).toNat : Int)) rfl (blen_ok (toU (xorI at_ now)) (by first | assumption | exact hlv.2.2)) hf112 (fun _ _ => trivial) rfl ?_
 refine o_p (p_subb rfl rfl (by omega)) ?_
 refine o_p (p_quob (p := ((Wh.bl (toU (xorI at_ now)).toNat : Int) - 1)) (q := 3) rfl rfl (by decide) (by have h9 := Wh.td_bd (Wh.bl (toU (xorI at_ now)).toNat); omega)) ?_
 refine o_p (p_max (p := 0) (q := (((Wh.bl (toU (xorI at_ now)).toNat : Int) - 1).tdiv 3)) rfl rfl) ?_
 refine o_as rfl rfl ?_
 refine o_nil (q_then (c_seq (c_region ?_)))
 refine o_mv rfl rfl ?_
 refine o_p (p_mulb (p := 8) (q := (max 0 (((Wh.bl (toU (xorI at_ now)).toNat : Int) - 1).tdiv 3))) rfl rfl (by have h9 := hlv.1; omega)) ?_
 refine o_mv rfl rfl ?_
 refine o_mv rfl rfl ?_
 refine o_p (p_mulb (p := 3) (q := (max 0 (((Wh.bl (toU (xorI at_ now)).toNat : Int) - 1).tdiv 3))) rfl rfl (by have h9 := hlv.1; omega)) ?_
 refine o_p (p_shrI (p := at_) (m := (3 * (max 0 (((Wh.bl (toU (xorI at_ now)).toNat : Int) - 1).tdiv 3))).toNat) rfl rfl (by omega) (by omega)) ?_
 refine o_p (p_andI (p := (at_ / 2 ^ ((3 * (max 0 (((Wh.bl (toU (xorI at_ now)).toNat : Int) - 1).tdiv 3))).toNat))) (q := 7) rfl rfl) ?_
 refine o_p (p_addb rfl rfl (by have h8 := Wh.place_code hy1 hlv.1; have h9 := Wh.place_bd at_ now; omega)) ?_
 refine o_as rfl rfl ?_
 refine o_nil (q_then (c_ret ?_))
 have hr0 : (((8 * (max 0 (((Wh.bl (toU (xorI at_ now)).toNat : Int) - 1).tdiv 3))) + (andI (at_ / 2 ^ ((3 * (max 0 (((Wh.bl (toU (xorI at_ now)).toNat : Int) - 1).tdiv 3))).toNat)) 7)) : Int) = (Wh.place at_ now) := by
  exact Wh.place_code hy1 hlv.1
 refine q_end0 (v := Vi ((8 * (max 0 (((Wh.bl (toU (xorI at_ now)).toNat : Int) - 1).tdiv 3))) + (andI (at_ / 2 ^ ((3 * (max 0 (((Wh.bl (toU (xorI at_ now)).toNat : Int) - 1).tdiv 3))).toNat)) 7))) (rt1 rfl (r_tmp rfl)) (i := 0) rfl ?_
 exact (by have hcc := congrArg (fun (y0 : Int) => (.int .i64 y0 : Value)) hr0; exact hcc)

set_option maxHeartbeats 8000000 in
set_option maxRecDepth 100000 in
theorem isNaN_ok (x : Int) : Fn0 Try.prog 135 [Vi x] (fun _ => True) (.bool false) := by
 refine fn0 (nt := 6) (F0 := [(0, Vi x)]) Try.func135 rfl Try.ntmps135 rfl rfl (fun w0 hpre => ?_)
 refine c_seq (c_region ?_)
 refine o_as rfl rfl ?_
 refine o_nil (q_then (c_seq (c_region ?_)))
 refine o_mv rfl rfl ?_
 refine o_mv rfl rfl ?_
 refine o_p (p_ne rfl rfl) ?_
 refine o_as rfl rfl ?_
 refine o_nil (q_then (c_ret ?_))
 have hr0 : ((x != x) : Bool) = false := by
  simp
 refine q_end0 (v := .bool (x != x)) (rt1 rfl (r_tmp rfl)) (i := 0) rfl ?_
 exact (by have hcc := congrArg (fun (y0 : Bool) => (.bool y0 : Value)) hr0; exact hcc)

set_option maxHeartbeats 8000000 in
set_option maxRecDepth 100000 in
theorem compare_ok (x : Int) (y : Int) : Fn0 Try.prog 93 [Vi x, Vi y] (fun _ => True) (Vi (cmpI x y)) := by
 refine fn0 (nt := 20) (F0 := [(0, Vi x), (1, Vi y)]) Try.func93 rfl Try.ntmps93 rfl rfl (fun w0 hpre => ?_)
 refine c_seq (c_region ?_)
 refine o_as rfl rfl ?_
 refine o_nil (q_then (c_seq (c_region ?_)))
 refine o_mv rfl rfl ?_
 refine o_call0 (v := .bool false) rfl (isNaN_ok x) hf135 (fun _ _ => trivial) rfl ?_
 refine o_as rfl rfl ?_
 refine o_nil (q_then (c_seq (c_region ?_)))
 refine o_mv rfl rfl ?_
 refine o_call0 (v := .bool false) rfl (isNaN_ok y) hf135 (fun _ _ => trivial) rfl ?_
 refine o_as rfl rfl ?_
 refine o_nil (q_then (c_seq (c_seq (c_region ?_))))
 refine o_mv rfl rfl ?_
 refine o_nil (q_then ?_)
 refine c_false rfl ?_
 refine c_skip (q_then (c_seq (c_seq (c_region ?_))))
 refine o_mv rfl rfl ?_
 refine o_nil (q_then ?_)
 refine c_false rfl ?_
 refine c_skip (q_then (c_seq (c_seq (c_region ?_))))
 refine o_mv rfl rfl ?_
 refine o_mv rfl rfl ?_
 refine o_p (p_lt rfl rfl) ?_
 refine o_nil (q_then ?_)
 refine c_cond rfl (fun hc1 => ?_) (fun hc1 => ?_)
 ·simp only [decide_eq_true_eq] at hc1
  refine c_seq (c_region ?_)
  refine o_as rfl rfl ?_
  refine o_nil (q_then (c_ret ?_))
  refine q_then_ret ?_
  have hr0 : ((-1) : Int) = (cmpI x y) := by
   first | exact cmp_lt (by assumption) | exact cmp_gt (by assumption) (by assumption) | exact cmp_eq (by assumption) (by assumption)
  refine q_end0 (v := Vi (-1)) (rt1 rfl (r_tmp rfl)) (i := 0) rfl ?_
  exact (by have hcc := congrArg (fun (y0 : Int) => (.int .i64 y0 : Value)) hr0; exact hcc)
 ·simp only [decide_eq_false_iff_not, Int.not_lt] at hc1
  refine c_skip (q_then (c_seq (c_seq (c_region ?_))))
  refine o_mv rfl rfl ?_
  refine o_mv rfl rfl ?_
  refine o_p (p_gt rfl rfl) ?_
  refine o_nil (q_then ?_)
  refine c_cond rfl (fun hc2 => ?_) (fun hc2 => ?_)
  ·simp only [decide_eq_true_eq] at hc2
   refine c_seq (c_region ?_)
   refine o_as rfl rfl ?_
   refine o_nil (q_then (c_ret ?_))
   refine q_then_ret ?_
   have hr0 : (1 : Int) = (cmpI x y) := by
    first | exact cmp_lt (by assumption) | exact cmp_gt (by assumption) (by assumption) | exact cmp_eq (by assumption) (by assumption)
   refine q_end0 (v := Vi 1) (rt1 rfl (r_tmp rfl)) (i := 0) rfl ?_
   exact (by have hcc := congrArg (fun (y0 : Int) => (.int .i64 y0 : Value)) hr0; exact hcc)
  ·simp only [decide_eq_false_iff_not, Int.not_lt] at hc2
   refine c_skip (q_then (c_seq (c_region ?_)))
   refine o_as rfl rfl ?_
   refine o_nil (q_then (c_ret ?_))
   have hr0 : (0 : Int) = (cmpI x y) := by
    first | exact cmp_lt (by assumption) | exact cmp_gt (by assumption) (by assumption) | exact cmp_eq (by assumption) (by assumption)
   refine q_end0 (v := Vi 0) (rt1 rfl (r_tmp rfl)) (i := 0) rfl ?_
   exact (by have hcc := congrArg (fun (y0 : Int) => (.int .i64 y0 : Value)) hr0; exact hcc)

set_option maxHeartbeats 8000000 in
set_option maxRecDepth 100000 in
theorem cmpOr_ok (l : List Int) (al : Option Addr) (cl : Nat) : Fn0 Try.prog 113 [.slice al l.length cl] (fun w => Rd tInt w al cl l) (Vi (Wh.orI l)) := by
 refine fn0 (nt := 18) (F0 := [(0, .slice al l.length cl)]) Try.func113 rfl Try.ntmps113 rfl rfl (fun w0 hpre => ?_)
 have hl := hpre
 have hlhl := hl.2.1
 refine c_seq (c_region ?_)
 refine o_as rfl rfl ?_
 refine o_nil (q_then (c_seq (c_region ?_)))
 refine o_as rfl rfl ?_
 refine o_nil (q_then (c_seq (c_seq (c_region ?_))))
 refine o_mv rfl rfl ?_
 refine o_p (p_len_slice rfl rfl Try.underlying37) ?_
 refine o_mv rfl rfl ?_
 refine o_nil (q_then (c_block ?_))
 refine c_loop (St := Nat)
  (fun k => [(3, Vi 0), (6, .slice al l.length cl), (7, Vi (l.length : Int)), (8, Vi (k : Int))])
  (fun k => [base w0])
  (fun k => k ≤ l.length ∧ ∀ j, j < k → l.getD j default = 0)
  (fun k => l.length - k)
  0 ?_ (sr (sr (sr (sr (Sub.nil _))))) (fun _ hw => hw) ?_
 ·exact ⟨Nat.zero_le _, fun j h => absurd h (Nat.not_lt_zero j)⟩
 rintro k hI K hK1
 show SC _ _ Try.prog 18 w0 _ _ [(3, Vi 0), (6, .slice al l.length cl), (7, Vi (l.length : Int)), (8, Vi (k : Int))] [base w0]
 refine c_seq (c_region ?_)
 refine o_p (p_lt rfl rfl) ?_
 refine o_nil (q_then (c_seq ?_))
 refine c_cond rfl (fun hc2 => ?_) (fun hc2 => ?_)
 ·simp only [decide_eq_true_eq] at hc2
  refine c_skip (q_then (c_seq (c_block (c_seq (c_region ?_)))))
  refine o_p (p_indexAddr (L := l) (T := tInt) (i := (k : Int)) rfl rfl (rd_base (i := 0) rfl hl) Try.underlying37 sz3 (by omega) (by omega)) ?_
  refine o_p (p_loadE1 (i := k) (T := tInt) (L := l) (v := Vi (l.getD k default)) rfl (rd_base (i := 0) rfl hl) (by first | assumption | omega) sh3 (congrArg tInt.enc (getd_at (by first | assumption | omega) default))) ?_
  refine o_as rfl rfl ?_
  refine o_nil (q_then (c_seq (c_region ?_)))
  refine o_mv rfl rfl ?_
  refine o_mv rfl rfl ?_
  refine o_p (p_ne rfl rfl) ?_
  refine o_nil (q_then ?_)
  refine c_cond rfl (fun hc3 => ?_) (fun hc3 => ?_)
  ·simp only [bne_iff_ne, ne_eq] at hc3
   refine c_seq (c_region ?_)
   refine o_mv rfl rfl ?_
   refine o_as rfl rfl ?_
   refine o_nil (q_then (c_ret ?_))
   refine q_block_ret (q_then_ret (q_then_ret (q_block_ret (q_then_ret ?_))))
   have hr0 : ((l.getD k default) : Int) = (Wh.orI l) := by
    first | exact Wh.or_found (by omega) hI.2 (by assumption) | exact Wh.or_none hI.2 (by omega)
   refine q_end0 (v := Vi (l.getD k default)) (rt1 rfl (r_tmp rfl)) (i := 0) rfl ?_
   exact (by have hcc := congrArg (fun (y0 : Int) => (.int .i64 y0 : Value)) hr0; exact hcc)
  ·simp only [bne_eq_false_iff_eq] at hc3
   refine c_skip ?_
   refine q_block_normal (q_then ?_)
   refine c_region ?_
   refine o_p (p_addb rfl rfl (by omega)) ?_
   refine o_mv rfl rfl ?_
   refine o_nil ?_
   refine q_round hK1 (k + 1) ?_ ?_ ?_ ?_
   ·clear hK1
    exact ⟨by omega, Wh.or_step hI.2 (by assumption)⟩
   ·(try dsimp only); omega
   ·exact sr (sr (sr (sr (Sub.nil _))))
   ·exact pk [0]
 ·simp only [decide_eq_false_iff_not, Int.not_lt] at hc2
  refine c_exit ?_
  refine q_then_exit (q_then_exit (q_block_exit (q_then ?_)))
  refine c_seq (c_region ?_)
  refine o_mv rfl rfl ?_
  refine o_as rfl rfl ?_
  refine o_nil (q_then (c_ret ?_))
  have hr0 : (0 : Int) = (Wh.orI l) := by
   first | exact Wh.or_found (by omega) hI.2 (by assumption) | exact Wh.or_none hI.2 (by omega)
  refine q_end0 (v := Vi 0) (rt1 rfl (r_tmp rfl)) (i := 0) rfl ?_
  exact (by have hcc := congrArg (fun (y0 : Int) => (.int .i64 y0 : Value)) hr0; exact hcc)

set_option maxHeartbeats 8000000 in
set_option maxRecDepth 100000 in
theorem worder_ok (a : DTimer) (b : DTimer) : Fn0 Try.prog 74 [.agg #[Vi a.id, Vi a.due], .agg #[Vi b.id, Vi b.due]] (fun _ => True) (Vi (Wh.order a b)) := by
 refine fn0 (nt := 17) (F0 := [(0, .agg #[Vi a.id, Vi a.due]), (1, .agg #[Vi b.id, Vi b.due])]) Try.func74 rfl Try.ntmps74 rfl rfl (fun w0 hpre => ?_)
 refine c_seq (c_region ?_)
 refine o_box (v := .agg #[Vi a.id, Vi a.due]) rfl rfl (fun B1 => ?_)
 refine o_box (v := .agg #[Vi b.id, Vi b.due]) rfl rfl (fun B2 => ?_)
 refine o_as rfl rfl ?_
 refine o_nil (q_then (c_seq ?_))
 refine c_held hmix [box B2 [Vi b.id, Vi b.due] 52, box B1 [Vi a.id, Vi a.due] 52, base w0] rfl rfl ?_
 refine h_t0 (i := 0) (ls := #[T1,F0,F0,F0,F0,F0,F0,F0,F0,F0,F0,F0,F0]) rfl (p_fieldAddr (j' := 1) rfl fo52_1 rfl) ?_
 refine h_t0 (i := 1) (ls := #[T1,T1,F0,F0,F0,F0,F0,F0,F0,F0,F0,F0,F0]) rfl (p_load (i := 1) (v := Vi a.due) rfl rfl sh3 rfl) ?_
 refine h_t0 (i := 2) (ls := #[T1,T1,T1,F0,F0,F0,F0,F0,F0,F0,F0,F0,F0]) rfl (p_fieldAddr (j' := 1) rfl fo52_1 rfl) ?_
 refine h_t0 (i := 3) (ls := #[T1,T1,T1,T1,F0,F0,F0,F0,F0,F0,F0,F0,F0]) rfl (p_load (i := 0) (v := Vi b.due) rfl rfl sh3 rfl) ?_
 refine h_t0 (i := 5) (ls := #[T1,T1,T1,T1,F0,T1,F0,F0,F0,F0,F0,F0,F0]) rfl (p_fieldAddr (j' := 0) rfl fo52_0 rfl) ?_
 refine h_t0 (i := 6) (ls := #[T1,T1,T1,T1,F0,T1,T1,F0,F0,F0,F0,F0,F0]) rfl (p_load (i := 1) (v := Vi a.id) rfl rfl sh3 rfl) ?_
 refine h_t0 (i := 7) (ls := #[T1,T1,T1,T1,F0,T1,T1,T1,F0,F0,F0,F0,F0]) rfl (p_fieldAddr (j' := 0) rfl fo52_0 rfl) ?_
 refine h_t0 (i := 8) (ls := #[T1,T1,T1,T1,F0,T1,T1,T1,T1,F0,F0,F0,F0]) rfl (p_load (i := 0) (v := Vi b.id) rfl rfl sh3 rfl) ?_
 refine h_one (i := 4) (ls := #[T1,T1,T1,T1,T1,T1,T1,T1,T1,F0,F0,F0,F0]) (by kernel_rfl) rfl rfl ?_
 refine o_call0 (v := Vi (cmpI a.due b.due)) rfl (compare_ok a.due b.due) hf93 (fun _ _ => trivial) rfl ?_
 refine o_nil ?_
 refine h_next (dp (lr)) ?_
 refine h_one (i := 9) (ls := #[T1,T1,T1,T1,T1,T1,T1,T1,T1,T1,F0,F0,F0]) (by kernel_rfl) rfl rfl ?_
 refine o_call0 (v := Vi (cmpI a.id b.id)) rfl (compare_ok a.id b.id) hf93 (fun _ _ => trivial) rfl ?_
 refine o_nil ?_
 refine h_next (dp (lr)) ?_
 refine h_one (i := 10) (ls := #[T1,T1,T1,T1,T1,T1,T1,T1,T1,T1,T1,F0,F0]) (by kernel_rfl) rfl rfl ?_
 refine o_buildSlice (m := 2) (T := tInt) (L := [(cmpI a.due b.due), (cmpI a.id b.id)]) (vs := [Vi (cmpI a.due b.due), Vi (cmpI a.id b.id)]) rfl rfl rfl rfl Try.underlying37 sz3 (by decide) ze3 rfl (by decide) rfl (fun S3_10 a3_10 => ?_)
 refine o_nil ?_
 refine h_next (dp (lz (lj (lj (lj (ln)))))) ?_
 refine h_one (i := 11) (ls := #[T1,T1,T1,T1,T1,T1,T1,T1,T1,T1,T1,T1,F0]) (by kernel_rfl) rfl rfl ?_
 refine o_call0 (v := Vi (Wh.orI ([(cmpI a.due b.due), (cmpI a.id b.id)]))) rfl (cmpOr_ok ([(cmpI a.due b.due), (cmpI a.id b.id)]) a3_10 ([(cmpI a.due b.due), (cmpI a.id b.id)].length)) hf113 (fun w hw => (rd_own (i := 0) rfl) w hw) rfl ?_
 refine o_nil ?_
 refine h_next (dp (lz (lj (lj (lj (ln)))))) ?_
 refine h_tk (i := 12) (ls := #[T1,T1,T1,T1,T1,T1,T1,T1,T1,T1,T1,T1,T1]) rfl (p_assign rfl) (dp (lz (lj (lj (lj (ln)))))) ?_
 refine h_done (by kernel_rfl) ?_
 refine q_then (c_ret ?_)
 have hr0 : ((Wh.orI ([(cmpI a.due b.due), (cmpI a.id b.id)])) : Int) = (Wh.order a b) := by
  exact Wh.or_order a b
 refine q_end0 (v := Vi (Wh.orI ([(cmpI a.due b.due), (cmpI a.id b.id)]))) (rt1 rfl (r_tmp rfl)) (i := 3) rfl ?_
 exact (by have hcc := congrArg (fun (y0 : Int) => (.int .i64 y0 : Value)) hr0; exact hcc)

set_option maxHeartbeats 8000000 in
set_option maxRecDepth 100000 in
theorem wright_ok (t : DTimer) (now : Int) : Fn0 Try.prog 66 [.agg #[Vi t.id, Vi t.due], Vi now] (fun _ => True) (.bool (Wh.right t now)) := by
 refine fn0 (nt := 24) (F0 := [(0, .agg #[Vi t.id, Vi t.due]), (1, Vi now)]) Try.func66 rfl Try.ntmps66 rfl rfl (fun w0 hpre => ?_)
 refine c_seq (c_region ?_)
 refine o_box (v := .agg #[Vi t.id, Vi t.due]) rfl rfl (fun B1 => ?_)
 refine o_as rfl rfl ?_
 refine o_nil (q_then (c_seq (c_region ?_)))
 refine o_p (p_fieldAddr (j' := 0) rfl fo52_0 rfl) ?_
 refine o_p (p_load (i := 0) (v := Vi t.id) rfl rfl sh3 rfl) ?_
 refine o_p (p_ge rfl rfl) ?_
 refine o_mv rfl rfl ?_
 refine o_and (p := 12) 4 (decide (t.id ≤ 1048576)) ?_ ?_ ?_
 ·intro hb2 hk
  simp only [decide_eq_true_eq] at hb2
  refine o_unguard 8 rfl rfl ?_
  refine o_p (p_fieldAddr (j' := 0) rfl fo52_0 rfl) ?_
  refine o_unguard 8 rfl rfl ?_
  refine o_p (p_load (i := 0) (v := Vi t.id) rfl rfl sh3 rfl) ?_
  refine o_unguard 8 rfl rfl ?_
  refine o_p (p_le rfl rfl) ?_
  refine o_pt rfl rfl rfl ?_
  exact o_sub (sr (Sub.skip rfl (Sub.skip rfl (Sub.skip rfl (Sub.skip rfl (Sub.skip rfl (Sub.refl _))))))) hk
 ·intro hb2 hk
  refine o_guard_no rfl 8 rfl rfl rfl rfl rfl ?_
  refine o_guard_no rfl 8 rfl rfl rfl rfl rfl ?_
  refine o_guard_no rfl 8 rfl rfl rfl rfl rfl ?_
  refine o_pf rfl rfl rfl ?_
  exact o_sub (sr (Sub.skip rfl (Sub.skip rfl (Sub.skip rfl (Sub.skip rfl (Sub.skip rfl (Sub.refl _))))))) hk
 refine o_mv rfl rfl ?_
 refine o_and (p := 17) 4 (Wh.okTime t.due) ?_ ?_ ?_
 ·intro hb3 hk
  simp only [Bool.and_eq_true, decide_eq_true_eq] at hb3
  refine o_unguard 13 rfl rfl ?_
  refine o_p (p_fieldAddr (j' := 1) rfl fo52_1 rfl) ?_
  refine o_unguard 13 rfl rfl ?_
  refine o_p (p_load (i := 0) (v := Vi t.due) rfl rfl sh3 rfl) ?_
  refine o_unguard 13 rfl rfl ?_
  refine o_call0 (v := .bool (Wh.okTime t.due)) rfl (wtime_ok t.due) hf65 (fun _ _ => trivial) rfl ?_
  refine o_pt rfl rfl rfl ?_
  exact o_sub (sr (Sub.skip rfl (Sub.skip rfl (Sub.skip rfl (Sub.skip rfl (Sub.skip rfl (Sub.refl _))))))) hk
 ·intro hb3 hk
  refine o_guard_no rfl 13 rfl rfl rfl rfl rfl ?_
  refine o_guard_no rfl 13 rfl rfl rfl rfl rfl ?_
  refine o_guard_no rfl 13 rfl rfl rfl rfl rfl ?_
  refine o_pf rfl rfl rfl ?_
  exact o_sub (sr (Sub.skip rfl (Sub.skip rfl (Sub.skip rfl (Sub.skip rfl (Sub.skip rfl (Sub.refl _))))))) hk
 refine o_mv rfl rfl ?_
 refine o_and (p := 23) 5 (decide (now < t.due)) ?_ ?_ ?_
 ·intro hb4 hk
  simp only [Bool.and_eq_true, decide_eq_true_eq] at hb4
  refine o_unguard 18 rfl rfl ?_
  refine o_p (p_fieldAddr (j' := 1) rfl fo52_1 rfl) ?_
  refine o_unguard 18 rfl rfl ?_
  refine o_p (p_load (i := 0) (v := Vi t.due) rfl rfl sh3 rfl) ?_
  refine o_unguard 18 rfl rfl ?_
  refine o_mv rfl rfl ?_
  refine o_unguard 18 rfl rfl ?_
  refine o_p (p_gt rfl rfl) ?_
  refine o_pt rfl rfl rfl ?_
  exact o_sub (sr (Sub.skip rfl (Sub.skip rfl (Sub.skip rfl (Sub.skip rfl (Sub.skip rfl (Sub.skip rfl (Sub.refl _)))))))) hk
 ·intro hb4 hk
  refine o_guard_no rfl 18 rfl rfl rfl rfl rfl ?_
  refine o_guard_no rfl 18 rfl rfl rfl rfl rfl ?_
  refine o_guard_no rfl 18 rfl rfl rfl rfl rfl ?_
  refine o_guard_no rfl 18 rfl rfl rfl rfl rfl ?_
  refine o_pf rfl rfl rfl ?_
  exact o_sub (sr (Sub.skip rfl (Sub.skip rfl (Sub.skip rfl (Sub.skip rfl (Sub.skip rfl (Sub.skip rfl (Sub.refl _)))))))) hk
 refine o_as rfl rfl ?_
 refine o_nil (q_then (c_ret ?_))
 have hr0 : ((((decide (0 ≤ t.id) && decide (t.id ≤ 1048576)) && (Wh.okTime t.due)) && decide (now < t.due)) : Bool) = (Wh.right t now) := by
  rfl
 refine q_end0 (v := .bool (((decide (0 ≤ t.id) && decide (t.id ≤ 1048576)) && (Wh.okTime t.due)) && decide (now < t.due))) (rt1 rfl (r_tmp rfl)) (i := 1) rfl ?_
 exact (by have hcc := congrArg (fun (y0 : Bool) => (.bool y0 : Value)) hr0; exact hcc)

set_option maxHeartbeats 8000000 in
set_option maxRecDepth 100000 in
theorem wall1_ok (wh : DWheel) (awh_0 : Option Addr) (cwh_0 : NC) (Bwh : Nat) : ItOk Try.prog 110 [.pointer (some ⟨Bwh, 0, none⟩)] (fun e w => ((box Bwh [Vi wh.now, .slice awh_0 wh.slots.length cwh_0.n] 50).A w ∧ (outer w [e]).S Bwh) ∧ SlRN tTimer (outer w [e]).S w awh_0 cwh_0 wh.slots) Unit (fun x k => [Vi (Wh.slotAt wh.slots k), .agg #[Vi ((Wh.timAt wh.slots k).id), Vi ((Wh.timAt wh.slots k).due)]]) (fun x k => []) ((Wh.timers wh.slots).length) := by
 refine fnIt (nt := 28) (F1 := [(1, .pointer (some ⟨Bwh, 0, none⟩))]) Try.func110 rfl Try.ntmps110 rfl rfl ?_
 intro l_ φ ψ e0 w0 hpre hφ Y
 obtain ⟨hb_Bwh, hwh_0⟩ := hpre
 have hlhwh_0 := hwh_0.2.1
 refine c_seq (c_region ?_)
 refine o_p (p_fieldAddr (j' := 1) rfl fo50_1 rfl) ?_
 refine o_p (p_loadR (v := .slice awh_0 wh.slots.length cwh_0.n) rfl (rbox_outer (i := 0) rfl hb_Bwh) sh48 rfl) ?_
 refine o_p (p_len_slice rfl rfl Try.underlying48) ?_
 refine o_mv rfl rfl ?_
 refine o_nil (q_then (c_block ?_))
 refine c_loop (St := Nat × Ent)
  (fun ⟨k, e⟩ => [(0, .func (.yield l_) #[] #[]), (8, .slice awh_0 wh.slots.length cwh_0.n), (9, Vi (wh.slots.length : Int)), (10, Vi (k : Int))])
  (fun ⟨k, e⟩ => [outer w0 [e0], e])
  (fun ⟨k, e⟩ => k ≤ wh.slots.length ∧ φ (Wh.pre wh.slots k) e)
  (fun ⟨k, e⟩ => wh.slots.length - k)
  (0, e0) ?_ (sr (sr (sr (sr (Sub.nil _))))) (fun _ hw => hw) ?_
 ·exact ⟨Nat.zero_le _, hφ⟩
 rintro ⟨k, e⟩ hI K hK1
 show SC _ _ Try.prog 28 w0 _ _ [(0, .func (.yield l_) #[] #[]), (8, .slice awh_0 wh.slots.length cwh_0.n), (9, Vi (wh.slots.length : Int)), (10, Vi (k : Int))] [outer w0 [e0], e]
 refine c_seq (c_region ?_)
 refine o_p (p_lt rfl rfl) ?_
 refine o_nil (q_then (c_seq ?_))
 refine c_cond rfl (fun hc2 => ?_) (fun hc2 => ?_)
 ·simp only [decide_eq_true_eq] at hc2
  refine c_skip (q_then (c_seq (c_block (c_seq (c_region ?_)))))
  refine o_mv rfl rfl ?_
  refine o_p (p_indexAddrN (T := tTimer) (c := cwh_0) (LL := wh.slots) (i := (k : Int)) rfl rfl (rd_outerN (i := 0) rfl hwh_0) Try.underlying48 sz57 (by first | omega | decide) (by first | omega | decide)) ?_
  refine o_p (p_loadN (T := tTimer) (c := cwh_0) (LL := wh.slots) (i := k) rfl (rd_outerN (i := 0) rfl hwh_0) (by first | assumption | omega | decide) sh57) ?_
  refine o_as rfl rfl ?_
  refine o_as rfl rfl ?_
  refine o_nil (q_then (c_seq (c_region ?_)))
  refine o_mv rfl rfl ?_
  refine o_p (p_len_slice rfl rfl Try.underlying57) ?_
  refine o_mv rfl rfl ?_
  refine o_nil (q_then (c_block ?_))
  refine c_loop (St := Nat × Ent)
   (fun ⟨k2, e⟩ => [(0, .func (.yield l_) #[] #[]), (3, Vi (k : Int)), (8, .slice awh_0 wh.slots.length cwh_0.n), (9, Vi (wh.slots.length : Int)), (10, Vi (k : Int)), (15, .slice (cwh_0.ra k) (wh.slots.getD k []).length (cwh_0.rc k)), (16, Vi ((wh.slots.getD k []).length : Int)), (17, Vi (k2 : Int))])
   (fun ⟨k2, e⟩ => [outer w0 [e0], e])
   (fun ⟨k2, e⟩ => k2 ≤ (wh.slots.getD k []).length ∧ φ (Wh.pre wh.slots k + k2) e)
   (fun ⟨k2, e⟩ => (wh.slots.getD k []).length - k2)
   (0, e) ?_ (sr (sr (sr (sr (sr (sr (sr (sr (Sub.nil _))))))))) (fun _ hw => hw) ?_
  ·exact ⟨Nat.zero_le _, hI.2⟩
  rintro ⟨k2, e⟩ hI K hK3
  show SC _ _ Try.prog 28 w0 _ _ [(0, .func (.yield l_) #[] #[]), (3, Vi (k : Int)), (8, .slice awh_0 wh.slots.length cwh_0.n), (9, Vi (wh.slots.length : Int)), (10, Vi (k : Int)), (15, .slice (cwh_0.ra k) (wh.slots.getD k []).length (cwh_0.rc k)), (16, Vi ((wh.slots.getD k []).length : Int)), (17, Vi (k2 : Int))] [outer w0 [e0], e]
  refine c_seq (c_region ?_)
  refine o_p (p_lt rfl rfl) ?_
  refine o_nil (q_then (c_seq ?_))
  refine c_cond rfl (fun hc4 => ?_) (fun hc4 => ?_)
  ·simp only [decide_eq_true_eq] at hc4
   have hrq := (hwh_0.2.2.2 k (by omega)).2.1
   refine c_skip (q_then (c_seq (c_block (c_seq (c_region ?_)))))
   refine o_p (p_indexAddr (L := (wh.slots.getD k [])) (T := tTimer) (i := (k2 : Int)) rfl rfl (rd_rowN (i := k) (rd_outerN (i := 0) rfl hwh_0) (by first | assumption | omega)) Try.underlying57 sz52 (by omega) (by omega)) ?_
   refine o_p (p_loadEn (i := k2) (T := tTimer) (L := (wh.slots.getD k [])) (vs := [Vi (((wh.slots.getD k []).getD k2 default).id), Vi (((wh.slots.getD k []).getD k2 default).due)]) rfl (rd_rowN (i := k) (rd_outerN (i := 0) rfl hwh_0) (by first | assumption | omega)) (by first | assumption | omega) sh52 (congrArg tTimer.enc (getd_at (by first | assumption | omega) default))) ?_
   refine o_alloc ze52 rfl (fun B5 => ?_)
   refine o_storeN (i := 0) (vs := [Vi (((wh.slots.getD k []).getD k2 default).id), Vi (((wh.slots.getD k []).getD k2 default).due)]) (cs' := [Vi (((wh.slots.getD k []).getD k2 default).id), Vi (((wh.slots.getD k []).getD k2 default).due)]) rfl rfl rfl sz52 rfl rfl rfl rfl ?_
   refine o_nil (q_then (c_seq ?_))
   refine c_regionY ?_
   refine o_mv rfl rfl ?_
   refine o_mv rfl rfl ?_
   refine o_p (p_load_agg (i := 0) (vs := [Vi (((wh.slots.getD k []).getD k2 default).id), Vi (((wh.slots.getD k []).getD k2 default).due)]) rfl rfl sh52 rfl rfl) ?_
   refine o_pick (H' := [outer w0 [e0], e]) [1, 2] (by decide) rfl ?_
   obtain ⟨hp1, hp2, hp3⟩ := Wh.at_pre (LL := wh.slots) (i := k) (j := k2) (by omega) (by omega)
   refine o_yield (l := l_) (vs := [Vi (k : Int), .agg #[Vi (((wh.slots.getD k []).getD k2 default).id), Vi (((wh.slots.getD k []).getD k2 default).due)]]) (φ := φ (Wh.pre wh.slots k + k2 + 1)) (ψ := ψ) rfl rfl (fun W hW => (by have h9 := Y () (Wh.pre wh.slots k + k2) e W hp3 hI.2 hW; simp only [hp1, hp2] at h9; exact h9)) rfl (fun e_6 he7 => ?_) (fun e_6 he7 => ?_)
   ·have hend := he7
    refine o_p (p_not (b := true) rfl) ?_
    refine o_nil (q_then ?_)
    refine c_false rfl ?_
    refine c_skip ?_
    refine q_block_normal (q_then ?_)
    refine c_region ?_
    refine o_p (p_addb rfl rfl (by omega)) ?_
    refine o_mv rfl rfl ?_
    refine o_nil ?_
    refine q_round hK3 (k2 + 1, e_6) ?_ ?_ ?_ ?_
    ·clear hK3
     exact ⟨by omega, hend⟩
    ·(try dsimp only); omega
    ·exact sr (sr (sr (sr (sr (sr (sr (sr (Sub.nil _))))))))
    ·exact pk [0, 1]
   ·have hend := he7
    refine o_p (p_not (b := false) rfl) ?_
    refine o_nil (q_then ?_)
    refine c_true rfl ?_
    refine c_ret ?_
    refine q_block_ret (q_then_ret (q_then_ret (q_block_ret (q_block_ret (q_then_ret (q_then_ret (q_block_ret ?_)))))))
    refine q_endI (e := e_6) (rt0 rfl) ?_ (fun w hw => hw.pick (H' := [outer w0 [e0], e_6]) [0, 1] (by decide) rfl)
    first | exact .inr hend | exact .inl (by have h9 := hI.2; rwa [Wh.pre_all (by omega)] at h9)
  ·simp only [decide_eq_false_iff_not, Int.not_lt] at hc4
   refine c_exit ?_
   refine q_then_exit (q_then_exit (q_block_exit (q_block_normal (q_then ?_))))
   refine c_region ?_
   refine o_p (p_addb rfl rfl (by omega)) ?_
   refine o_mv rfl rfl ?_
   refine o_nil ?_
   refine q_round hK1 (k + 1, e) ?_ ?_ ?_ ?_
   ·clear hK1
    exact ⟨by omega, by have h9 := hI.2; rw [Wh.pre_next (by omega)]; rwa [show k2 = (wh.slots.getD k []).length by have h8 := hI.1; omega] at h9⟩
   ·(try dsimp only); omega
   ·exact sr (sr (sr (sr (Sub.nil _))))
   ·exact pk [0, 1]
 ·simp only [decide_eq_false_iff_not, Int.not_lt] at hc2
  refine c_exit ?_
  refine q_then_exit (q_then_exit (q_block_exit ?_))
  refine q_endI (e := e) (rt0 rfl) ?_ (fun w hw => hw.pick (H' := [outer w0 [e0], e]) [0, 1] (by decide) rfl)
  first | exact .inr hend | exact .inl (by have h9 := hI.2; rwa [Wh.pre_all (by omega)] at h9)

set_option maxHeartbeats 8000000 in
set_option maxRecDepth 100000 in
theorem wall_ok (wh : DWheel) (awh_0 : Option Addr) (cwh_0 : NC) : FnX Try.prog 72 [.agg #[Vi wh.now, .slice awh_0 wh.slots.length cwh_0.n]] [] (fun _ => True) (Nat) (fun p => .func (.func 110) #[] #[.pointer (some ⟨p, 0, none⟩)]) (fun p => [box p [Vi wh.now, .slice awh_0 wh.slots.length cwh_0.n] 50]) := by
 refine fnX (nt := 4) (F0 := [(0, .agg #[Vi wh.now, .slice awh_0 wh.slots.length cwh_0.n])]) Try.func72 rfl Try.ntmps72 rfl rfl (fun w0 hpre => ?_)
 refine c_seq (c_region ?_)
 refine o_box (v := .agg #[Vi wh.now, .slice awh_0 wh.slots.length cwh_0.n]) rfl rfl (fun B1 => ?_)
 refine o_as rfl rfl ?_
 refine o_nil (q_then (c_seq (c_region ?_)))
 refine o_p (p_makeFunc (vs := [.pointer (some ⟨B1, 0, none⟩)]) rfl) ?_
 refine o_as rfl rfl ?_
 refine o_nil (q_then (c_ret ?_))
 refine q_endX (p := (B1)) (rt1 rfl (r_tmp rfl)) rfl (fun w hw => ?_)
 exact hw.pick (H' := [outer w0 [], box B1 [Vi wh.now, .slice awh_0 wh.slots.length cwh_0.n] 50]) [1, 0] (by decide) rfl
end Go.Proofs.Ytnmbkopnopaigaa

/- The walks, printed by a program from the translation and a specification. -/
namespace Go.Proofs.Ytnmbkopnopaigaa
open Go.Sx Go.RowKit
set_option maxHeartbeats 8000000 in
set_option maxRecDepth 100000 in
theorem wnew_ok (now : Int) : FnM Try.prog 29 [Vi now] (fun _ => True) (Option Addr × NC) (fun p => .tuple #[.agg #[Vi ((Wh.new now).now), .slice p.1 ((Wh.new now).slots).length p.2.n], Vi (Wh.newErr now)]) (fun p S w => SlON tTimer S w p.1 p.2 ((Wh.new now).slots)) := by
 refine fnM (nt := 11) (F0 := [(0, Vi now)]) Try.func29 rfl Try.ntmps29 rfl rfl (fun w0 hpre => ?_)
 refine c_seq (c_region ?_)
 refine o_alloc ze50 rfl (fun B1 => ?_)
 refine o_as rfl rfl ?_
 refine o_nil (q_then (c_seq (c_seq (c_region ?_))))
 refine o_mv rfl rfl ?_
 refine o_call0 (v := .bool (Wh.okTime now)) rfl (wtime_ok now) hf65 (fun _ _ => trivial) rfl ?_
 refine o_p (p_not (b := (Wh.okTime now)) rfl) ?_
 refine o_nil (q_then ?_)
 refine c_cond rfl (fun hc2 => ?_) (fun hc2 => ?_)
 ·simp only [Bool.not_eq_true'] at hc2
  have hot := hc2
  refine c_seq (c_region ?_)
  refine o_p (p_build (cells := [Vi 0, .slice none 0 0]) fp50 ze50 rfl rfl) ?_
  refine o_storeN (i := 0) (vs := [Vi 0, .slice none 0 0]) (cs' := [Vi 0, .slice none 0 0]) rfl rfl rfl sz50 rfl rfl rfl rfl ?_
  refine o_as rfl rfl ?_
  refine o_nil (q_then (c_ret ?_))
  refine q_then_ret ?_
  obtain ⟨hv1, hv2⟩ : _ ∧ _ := by first | exact Wh.nw1 (now := now) (by simpa using hot) | exact Wh.nw2 (now := now) (by simpa using hot)
  have hr0 : (0 : Int) = (Wh.new now).now := by
   first | (rw [hv1]; done) | (rw [hv1]; rfl) | exact hv2.symm
  have hr1 : ([] : List (List DTimer)) = (Wh.new now).slots := by
   first | (rw [hv1]; done) | (rw [hv1]; rfl) | exact hv2.symm
  have hr2 : (3 : Int) = (Wh.newErr now) := by
   first | (rw [hv1]; done) | (rw [hv1]; rfl) | exact hv2.symm
  refine q_endM (p := (none, nc0)) (fun _ => False) (rt2 rfl (r_cell (i := 0) rfl rfl sh50 rfl) (r_tmp rfl)) (i := 1) rfl ?_ ?_ ?_
  ·exact (by have hcc := congr (congr (congrArg (fun (y0 : Int) (y1 : List (List DTimer)) (y2 : Int) => (.tuple #[.agg #[.int .i64 y0, .slice none y1.length 0], .int .i64 y2] : Value)) hr0) hr1) hr2; exact hcc)
  ·intro w hw b hb; exact hb.elim
  ·intro w hw; exact Eq.mp (congrArg (fun y => SlON tTimer _ w none nc0 y) hr1) (SlON.nil tTimer w)
 ·simp only [Bool.not_eq_false'] at hc2
  have hot := hc2
  refine c_skip (q_then (c_seq (c_region ?_)))
  refine o_mv rfl rfl ?_
  refine o_makeSliceN (T := tTimer) (m := 48) rfl rfl Try.underlying48 el57 ze57 rfl (by omega) (by omega) rfl (fun S4 a3 => ?_)
  refine o_p (p_build (cells := [Vi now, .slice a3 (List.replicate 48 ([] : List DTimer)).length (ncz 48).n]) fp50 ze50 rfl rfl) ?_
  refine o_storeN (i := 1) (vs := [Vi now, .slice a3 (List.replicate 48 ([] : List DTimer)).length (ncz 48).n]) (cs' := [Vi now, .slice a3 (List.replicate 48 ([] : List DTimer)).length (ncz 48).n]) rfl rfl rfl sz50 rfl rfl rfl rfl ?_
  refine o_as rfl rfl ?_
  refine o_nil (q_then (c_ret ?_))
  obtain ⟨hv1, hv2⟩ : _ ∧ _ := by first | exact Wh.nw1 (now := now) (by simpa using hot) | exact Wh.nw2 (now := now) (by simpa using hot)
  have hr0 : (now : Int) = (Wh.new now).now := by
   first | (rw [hv1]; done) | (rw [hv1]; rfl) | exact hv2.symm
  have hr1 : ((List.replicate 48 ([] : List DTimer)) : List (List DTimer)) = (Wh.new now).slots := by
   first | (rw [hv1]; done) | (rw [hv1]; rfl) | exact hv2.symm
  have hr2 : (0 : Int) = (Wh.newErr now) := by
   first | (rw [hv1]; done) | (rw [hv1]; rfl) | exact hv2.symm
  refine q_endM (p := (a3, (ncz 48))) S4 (rt2 rfl (r_cell (i := 1) rfl rfl sh50 rfl) (r_tmp rfl)) (i := 2) rfl ?_ ?_ ?_
  ·exact (by have hcc := congr (congr (congrArg (fun (y0 : Int) (y1 : List (List DTimer)) (y2 : Int) => (.tuple #[.agg #[.int .i64 y0, .slice a3 y1.length (ncz 48).n], .int .i64 y2] : Value)) hr0) hr1) hr2; exact hcc)
  ·exact fun w hw => hw.above (i := 2) (j := 0) (by decide) rfl rfl
  ·intro w hw; exact Eq.mp (congrArg (fun y => SlON tTimer _ w a3 (ncz 48) y) hr1) ((hw.at (i := 0) rfl).here)

set_option maxHeartbeats 8000000 in
set_option maxRecDepth 100000 in
theorem wfind1_ok (t : DTimer) (Bid : Nat) (id : Int) : Fn0 Try.prog 106 [.agg #[Vi t.id, Vi t.due], .pointer (some ⟨Bid, 0, none⟩)] (fun w => (box Bid [Vi id] 3).A w) (.bool (t.id == id)) := by
 refine fn0 (nt := 8) (F0 := [(0, .agg #[Vi t.id, Vi t.due]), (1, .pointer (some ⟨Bid, 0, none⟩))]) Try.func106 rfl Try.ntmps106 rfl rfl (fun w0 hpre => ?_)
 have hBid := hpre
 refine c_seq (c_region ?_)
 refine o_box (v := .agg #[Vi t.id, Vi t.due]) rfl rfl (fun B1 => ?_)
 refine o_as rfl rfl ?_
 refine o_nil (q_then (c_seq (c_region ?_)))
 refine o_p (p_fieldAddr (j' := 0) rfl fo52_0 rfl) ?_
 refine o_p (p_load (i := 0) (v := Vi t.id) rfl rfl sh3 rfl) ?_
 refine o_p (p_loadR (v := Vi id) rfl (rbox_base (i := 1) rfl hBid) sh3 rfl) ?_
 refine o_p (p_eq rfl rfl) ?_
 refine o_as rfl rfl ?_
 refine o_nil (q_then (c_ret ?_))
 refine q_end0 (v := .bool (t.id == id)) (rt1 rfl (r_tmp rfl)) (i := 1) rfl ?_
 exact rfl

set_option maxHeartbeats 8000000 in
set_option maxRecDepth 100000 in
theorem indexFunc_Timer_ok (l : List DTimer) (al : Option Addr) (cl : Nat) (gf : FuncId) (kf : List Value) (f : DTimer → Bool) (Pf : World → Prop) (stf : ∀ w w', Below w.heap.size w w' → Pf w → Pf w') (okf : ∀ (x : DTimer), Fn0 Try.prog gf (.agg #[Vi x.id, Vi x.due] :: kf) Pf (.bool (f x))) (hpf : HasFn Try.prog gf) : Fn0 Try.prog 105 [.slice al l.length cl, .func (.func gf) #[] kf.toArray] (fun w => Rd tTimer w al cl l ∧ Pf w) (Vi (idxF f l)) := by
 refine fn0 (nt := 19) (F0 := [(0, .slice al l.length cl), (1, .func (.func gf) #[] kf.toArray)]) Try.func105 rfl Try.ntmps105 rfl rfl (fun w0 hpre => ?_)
 obtain ⟨hl, hf⟩ := hpre
 have hlhl := hl.2.1
 refine c_seq (c_region ?_)
 refine o_as rfl rfl ?_
 refine o_nil (q_then (c_seq (c_seq (c_region ?_))))
 refine o_mv rfl rfl ?_
 refine o_p (p_len_slice rfl rfl Try.underlying57) ?_
 refine o_mv rfl rfl ?_
 refine o_nil (q_then (c_block ?_))
 refine c_loop (St := Nat)
  (fun k => [(0, .slice al l.length cl), (1, .func (.func gf) #[] kf.toArray), (7, Vi (l.length : Int)), (8, Vi (k : Int))])
  (fun k => [base w0])
  (fun k => k ≤ l.length ∧ ∀ j (h : j < l.length), j < k → f l[j] = false)
  (fun k => l.length - k)
  0 ?_ (sr (sr (sr (sr (Sub.nil _))))) (fun _ hw => hw) ?_
 ·exact ⟨Nat.zero_le _, fun j _ h => absurd h (by omega)⟩
 rintro k hI K hK1
 obtain ⟨hI1, hI2⟩ := hI
 show SC _ _ Try.prog 19 w0 _ _ [(0, .slice al l.length cl), (1, .func (.func gf) #[] kf.toArray), (7, Vi (l.length : Int)), (8, Vi (k : Int))] [base w0]
 refine c_seq (c_region ?_)
 refine o_p (p_lt rfl rfl) ?_
 refine o_nil (q_then (c_seq ?_))
 refine c_cond rfl (fun hc2 => ?_) (fun hc2 => ?_)
 ·simp only [decide_eq_true_eq] at hc2
  refine c_skip (q_then (c_seq (c_block (c_seq (c_region ?_)))))
  refine o_mv rfl rfl ?_
  refine o_as rfl rfl ?_
  refine o_nil (q_then (c_seq (c_region ?_)))
  refine o_mv rfl rfl ?_
  refine o_mv rfl rfl ?_
  refine o_mv rfl rfl ?_
  refine o_p (p_indexAddr (L := l) (T := tTimer) (i := (k : Int)) rfl rfl (rd_base (i := 0) rfl hl) Try.underlying57 sz52 (by omega) (by omega)) ?_
  refine o_p (p_loadEn (i := k) (T := tTimer) (L := l) (vs := [Vi ((l[k]).id), Vi ((l[k]).due)]) rfl (rd_base (i := 0) rfl hl) (by first | assumption | omega) sh52 rfl) ?_
  refine o_call0V (vs := [.agg #[Vi ((l[k]).id), Vi ((l[k]).due)]]) (caps := kf) (v := .bool (f (l[k]))) rfl rfl (okf (l[k])) hpf (pre_base (i := 0) rfl stf hf) rfl ?_
  refine o_nil (q_then ?_)
  refine c_cond rfl (fun hc3 => ?_) (fun hc3 => ?_)
  ·skip
   refine c_seq (c_region ?_)
   refine o_mv rfl rfl ?_
   refine o_as rfl rfl ?_
   refine o_nil (q_then (c_ret ?_))
   refine q_block_ret (q_then_ret (q_then_ret (q_block_ret (q_then_ret ?_))))
   have hr0 : ((k : Int) : Int) = (idxF f l) := by
    first | exact idxF_found (by omega) (by assumption) hI2 | exact idxF_none (fun j h => hI2 j h (by omega))
   refine q_end0 (v := Vi (k : Int)) (rt1 rfl (r_tmp rfl)) (i := 0) rfl ?_
   exact (by have hcc := congrArg (fun (y0 : Int) => (.int .i64 y0 : Value)) hr0; exact hcc)
  ·skip
   refine c_skip ?_
   refine q_block_normal (q_then ?_)
   refine c_region ?_
   refine o_p (p_addb rfl rfl (by omega)) ?_
   refine o_mv rfl rfl ?_
   refine o_nil ?_
   refine q_round hK1 (k + 1) ?_ ?_ ?_ ?_
   ·clear hK1
    refine ⟨by omega, fun j h h2 => ?_⟩
    by_cases e : j = k
    ·subst e; assumption
    ·exact hI2 j h (by omega)
   ·(try dsimp only); omega
   ·exact sr (sr (sr (sr (Sub.nil _))))
   ·exact pk [0]
 ·simp only [decide_eq_false_iff_not, Int.not_lt] at hc2
  refine c_exit ?_
  refine q_then_exit (q_then_exit (q_block_exit (q_then ?_)))
  refine c_seq (c_region ?_)
  refine o_as rfl rfl ?_
  refine o_nil (q_then (c_ret ?_))
  have hr0 : ((-1) : Int) = (idxF f l) := by
   first | exact idxF_found (by omega) (by assumption) hI2 | exact idxF_none (fun j h => hI2 j h (by omega))
  refine q_end0 (v := Vi (-1)) (rt1 rfl (r_tmp rfl)) (i := 0) rfl ?_
  exact (by have hcc := congrArg (fun (y0 : Int) => (.int .i64 y0 : Value)) hr0; exact hcc)

set_option maxHeartbeats 8000000 in
set_option maxRecDepth 100000 in
theorem wfind_ok (wh : DWheel) (awh_0 : Option Addr) (cwh_0 : NC) (id : Int) : Fn0 Try.prog 67 [.agg #[Vi wh.now, .slice awh_0 wh.slots.length cwh_0.n], Vi id] (fun w => RdN tTimer w awh_0 cwh_0 wh.slots) (.tuple #[Vi ((Wh.find wh id).1), Vi ((Wh.find wh id).2.1), .bool ((Wh.find wh id).2.2)]) := by
 refine fn0 (nt := 26) (F0 := [(0, .agg #[Vi wh.now, .slice awh_0 wh.slots.length cwh_0.n]), (1, Vi id)]) Try.func67 rfl Try.ntmps67 rfl rfl (fun w0 hpre => ?_)
 have hwh_0 := hpre
 have hlhwh_0 := hwh_0.2.1
 refine c_seq (c_region ?_)
 refine o_box (v := .agg #[Vi wh.now, .slice awh_0 wh.slots.length cwh_0.n]) rfl rfl (fun B1 => ?_)
 refine o_box (v := Vi id) rfl rfl (fun B2 => ?_)
 refine o_as rfl rfl ?_
 refine o_as rfl rfl ?_
 refine o_as rfl rfl ?_
 refine o_nil (q_then (c_seq (c_seq (c_region ?_))))
 refine o_p (p_fieldAddr (j' := 1) rfl fo50_1 rfl) ?_
 refine o_p (p_load (i := 1) (v := .slice awh_0 wh.slots.length cwh_0.n) rfl rfl sh48 rfl) ?_
 refine o_p (p_len_slice rfl rfl Try.underlying48) ?_
 refine o_mv rfl rfl ?_
 refine o_nil (q_then (c_block ?_))
 refine c_loop (St := Nat)
  (fun k => [(3, .pointer (some ⟨B2, 0, none⟩)), (11, .slice awh_0 wh.slots.length cwh_0.n), (12, Vi (wh.slots.length : Int)), (13, Vi (k : Int))])
  (fun k => [box B2 [Vi id] 3, box B1 [Vi wh.now, .slice awh_0 wh.slots.length cwh_0.n] 50, base w0])
  (fun k => k ≤ wh.slots.length ∧ Wh.findGo id k (wh.slots.drop k) = Wh.find wh id)
  (fun k => wh.slots.length - k)
  0 ?_ (sr (sr (sr (sr (Sub.nil _))))) (fun _ hw => hw) ?_
 ·exact ⟨Nat.zero_le _, rfl⟩
 rintro k hI K hK3
 show SC _ _ Try.prog 26 w0 _ _ [(3, .pointer (some ⟨B2, 0, none⟩)), (11, .slice awh_0 wh.slots.length cwh_0.n), (12, Vi (wh.slots.length : Int)), (13, Vi (k : Int))] [box B2 [Vi id] 3, box B1 [Vi wh.now, .slice awh_0 wh.slots.length cwh_0.n] 50, base w0]
 refine c_seq (c_region ?_)
 refine o_p (p_lt rfl rfl) ?_
 refine o_nil (q_then (c_seq ?_))
 refine c_cond rfl (fun hc4 => ?_) (fun hc4 => ?_)
 ·simp only [decide_eq_true_eq] at hc4
  refine c_skip (q_then (c_seq (c_block (c_seq (c_region ?_)))))
  refine o_mv rfl rfl ?_
  refine o_p (p_indexAddrN (T := tTimer) (c := cwh_0) (LL := wh.slots) (i := (k : Int)) rfl rfl (rd_baseN (i := 2) rfl hwh_0) Try.underlying48 sz57 (by first | omega | decide) (by first | omega | decide)) ?_
  refine o_p (p_loadN (T := tTimer) (c := cwh_0) (LL := wh.slots) (i := k) rfl (rd_baseN (i := 2) rfl hwh_0) (by first | assumption | omega | decide) sh57) ?_
  refine o_as rfl rfl ?_
  refine o_as rfl rfl ?_
  refine o_nil (q_then (c_seq (c_region ?_)))
  refine o_mv rfl rfl ?_
  refine o_p (p_makeFunc (vs := [.pointer (some ⟨B2, 0, none⟩)]) rfl) ?_
  refine o_call0 (v := Vi (idxF (fun x : DTimer => (x.id == id)) (wh.slots.getD k []))) rfl (indexFunc_Timer_ok (wh.slots.getD k []) (cwh_0.ra k) (cwh_0.rc k) 106 [.pointer (some ⟨B2, 0, none⟩)] (fun x => (x.id == id)) (fun w => (box B2 [Vi id] 3).A w) (fun _ _ hb h => box_below hb h) (fun x => wfind1_ok x B2 id) hf106) hf105 (fun w hw => ⟨(rd_rowN (i := k) (rd_baseN (i := 2) rfl hwh_0) (by first | assumption | omega)) w hw, (hw.at (i := 0) rfl).here⟩) rfl ?_
  refine o_as rfl rfl ?_
  refine o_nil (q_then (c_seq (c_region ?_)))
  refine o_mv rfl rfl ?_
  refine o_p (p_ge rfl rfl) ?_
  refine o_nil (q_then ?_)
  refine c_cond rfl (fun hc5 => ?_) (fun hc5 => ?_)
  ·simp only [decide_eq_true_eq] at hc5
   have hix := hc5
   refine c_seq (c_region ?_)
   refine o_mv rfl rfl ?_
   refine o_mv rfl rfl ?_
   refine o_as rfl rfl ?_
   refine o_as rfl rfl ?_
   refine o_as rfl rfl ?_
   refine o_nil (q_then (c_ret ?_))
   refine q_block_ret (q_then_ret (q_then_ret (q_block_ret (q_then_ret ?_))))
   have hf := by first | exact Wh.f_found (w := wh) (id := id) (k := k) (by omega) hI.2 hix | exact Wh.f_none (w := wh) (id := id) (k := k) (by omega) hI.2
   have hr0 : ((k : Int) : Int) = ((Wh.find wh id).1) := by
    first | (rw [← hf]; done) | (rw [← hf]; rfl)
   have hr1 : ((idxF (fun x : DTimer => (x.id == id)) (wh.slots.getD k [])) : Int) = ((Wh.find wh id).2.1) := by
    first | (rw [← hf]; done) | (rw [← hf]; rfl)
   have hr2 : (true : Bool) = ((Wh.find wh id).2.2) := by
    first | (rw [← hf]; done) | (rw [← hf]; rfl)
   refine q_end0 (v := .tuple #[Vi (k : Int), Vi (idxF (fun x : DTimer => (x.id == id)) (wh.slots.getD k [])), .bool true]) (rt3 rfl (r_tmp rfl) (r_tmp rfl) (r_tmp rfl)) (i := 2) rfl ?_
   exact (by have hcc := congr (congr (congrArg (fun (y0 : Int) (y1 : Int) (y2 : Bool) => (.tuple #[.int .i64 y0, .int .i64 y1, .bool y2] : Value)) hr0) hr1) hr2; exact hcc)
  ·simp only [decide_eq_false_iff_not, Int.not_le] at hc5
   have hix := hc5
   refine c_skip ?_
   refine q_block_normal (q_then ?_)
   refine c_region ?_
   refine o_p (p_addb rfl rfl (by omega)) ?_
   refine o_mv rfl rfl ?_
   refine o_nil ?_
   refine q_round hK3 (k + 1) ?_ ?_ ?_ ?_
   ·clear hK3
    exact ⟨by omega, Wh.f_next (by omega) hI.2 (by omega)⟩
   ·(try dsimp only); omega
   ·exact sr (sr (sr (sr (Sub.nil _))))
   ·exact pk [0, 1, 2]
 ·simp only [decide_eq_false_iff_not, Int.not_lt] at hc4
  refine c_exit ?_
  refine q_then_exit (q_then_exit (q_block_exit (q_then ?_)))
  refine c_seq (c_region ?_)
  refine o_as rfl rfl ?_
  refine o_as rfl rfl ?_
  refine o_as rfl rfl ?_
  refine o_nil (q_then (c_ret ?_))
  have hf := by first | exact Wh.f_found (w := wh) (id := id) (k := k) (by omega) hI.2 hix | exact Wh.f_none (w := wh) (id := id) (k := k) (by omega) hI.2
  have hr0 : (0 : Int) = ((Wh.find wh id).1) := by
   first | (rw [← hf]; done) | (rw [← hf]; rfl)
  have hr1 : (0 : Int) = ((Wh.find wh id).2.1) := by
   first | (rw [← hf]; done) | (rw [← hf]; rfl)
  have hr2 : (false : Bool) = ((Wh.find wh id).2.2) := by
   first | (rw [← hf]; done) | (rw [← hf]; rfl)
  refine q_end0 (v := .tuple #[Vi 0, Vi 0, .bool false]) (rt3 rfl (r_tmp rfl) (r_tmp rfl) (r_tmp rfl)) (i := 2) rfl ?_
  exact (by have hcc := congr (congr (congrArg (fun (y0 : Int) (y1 : Int) (y2 : Bool) => (.tuple #[.int .i64 y0, .int .i64 y1, .bool y2] : Value)) hr0) hr1) hr2; exact hcc)

set_option maxHeartbeats 8000000 in
set_option maxRecDepth 100000 in
theorem wmany_ok (wh : DWheel) (awh_0 : Option Addr) (cwh_0 : NC) (hy1 : (Wh.timers wh.slots).length ≤ 60) : Fn0 Try.prog 68 [.agg #[Vi wh.now, .slice awh_0 wh.slots.length cwh_0.n]] (fun w => RdN tTimer w awh_0 cwh_0 wh.slots) (Vi ((Wh.timers wh.slots).length : Int)) := by
 refine fn0R (nt := 10) (F0 := [(0, .agg #[Vi wh.now, .slice awh_0 wh.slots.length cwh_0.n])]) Try.func68 rfl Try.ntmps68 rfl rfl (fun w0 hpre => ?_)
 have hwh_0 := hpre
 have hlhwh_0 := hwh_0.2.1
 refine c_seq (c_region ?_)
 refine o_box (v := .agg #[Vi wh.now, .slice awh_0 wh.slots.length cwh_0.n]) rfl rfl (fun B1 => ?_)
 refine o_alloc ze3 rfl (fun B2 => ?_)
 refine o_nil (q_then (c_seq (c_seq (c_region ?_))))
 refine o_p (p_load_agg (i := 1) (vs := [Vi wh.now, .slice awh_0 wh.slots.length cwh_0.n]) rfl rfl sh50 rfl rfl) ?_
 refine o_callX (pre := []) (R := [box B2 [Vi 0] 3, box B1 [Vi wh.now, .slice awh_0 wh.slots.length cwh_0.n] 50, base w0]) rfl (wall_ok wh awh_0 cwh_0) hf72 rfl (fun _ _ => trivial) rfl ?_
 rintro B3
 refine o_asH (H' := [box B3 [Vi wh.now, .slice awh_0 wh.slots.length cwh_0.n] 50, box B2 [Vi 0] 3, box B1 [Vi wh.now, .slice awh_0 wh.slots.length cwh_0.n] 50, base w0]) rfl ?_
 refine o_nil (q_then (c_block ?_))
 refine c_rangeFunc (f := 110) (caps := [.pointer (some ⟨B3, 0, none⟩)]) (Pr := (fun e w => ((box B3 [Vi wh.now, .slice awh_0 wh.slots.length cwh_0.n] 50).A w ∧ (outer w [e]).S B3) ∧ SlRN tTimer (outer w [e]).S w awh_0 cwh_0 wh.slots)) (X := Unit) (encs := (fun x k => [Vi (Wh.slotAt wh.slots k), .agg #[Vi ((Wh.timAt wh.slots k).id), Vi ((Wh.timAt wh.slots k).due)]])) (E := (fun x k => [])) (N := (Wh.timers wh.slots).length) rfl hf110 (wall1_ok wh awh_0 cwh_0 B3) (fun _ _ => rfl) (by decide) (St := Int)
  (fun nn => [box B2 [Vi nn] 3])
  (fun k nn => nn = (k : Int))
  (fun c nn => False)
  [box B3 [Vi wh.now, .slice awh_0 wh.slots.length cwh_0.n] 50, box B1 [Vi wh.now, .slice awh_0 wh.slots.length cwh_0.n] 50, base w0]
  0 ?_ ?_ ?_ ?_ ?_ ?_
 ·rfl
 ·exact fun w hw => hw.pick (H' := [box B2 [Vi 0] 3, box B3 [Vi wh.now, .slice awh_0 wh.slots.length cwh_0.n] 50, box B1 [Vi wh.now, .slice awh_0 wh.slots.length cwh_0.n] 50, base w0]) [1, 0, 2, 3] (by decide) rfl
 ·intro D e0 W1 hW1
  exact ⟨boxX (i := 2) (js := [0]) rfl (by decide) rfl W1 hW1, (rdXN (i := 4) (js := [0]) rfl (by decide) rfl (fun _ hA => slR_baseN hwh_0 hA)) W1 hW1⟩
 ·rintro l_ rc D e0 W1 hW1 x_ k nn hk hI
  refine c_skip ?_
  refine q_begin (i := 1) rfl ?_
  refine c_block (c_region ?_)
  refine o_p (p_load (i := 2) (v := Vi nn) rfl rfl sh3 rfl) ?_
  refine o_p (p_addb rfl rfl (by omega)) ?_
  refine o_store (i := 2) (v := Vi (nn + 1)) (cs' := [Vi (nn + 1)]) rfl rfl rfl sz3 rfl rfl rfl ?_
  refine o_nil ?_
  refine q_block_normal ?_
  refine q_next (nn + 1) ?_ (fun w hw => hw.pick (H' := [outer W1 [e0], loopE l_ (recd rc .busy none), box B2 [Vi (nn + 1)] 3]) [0, 1, 2] (by decide) rfl)
  omega
 ·rintro D nn hI
  show SQ _ 10 w0 _ _ _ [defE D, box B2 [Vi nn] 3, box B3 [Vi wh.now, .slice awh_0 wh.slots.length cwh_0.n] 50, box B1 [Vi wh.now, .slice awh_0 wh.slots.length cwh_0.n] 50, base w0]
  refine q_block_normal (q_then ?_)
  refine c_seq (c_region ?_)
  refine o_p (p_load (i := 1) (v := Vi nn) rfl rfl sh3 rfl) ?_
  refine o_store (i := 1) (v := Vi nn) (cs' := [Vi nn]) rfl rfl rfl sz3 rfl rfl rfl ?_
  refine o_nil (q_then (c_ret ?_))
  refine q_marks (i := 0) rfl ?_
  show SQ _ 10 w0 _ _ _ [box B2 [Vi nn] 3, box B3 [Vi wh.now, .slice awh_0 wh.slots.length cwh_0.n] 50, box B1 [Vi wh.now, .slice awh_0 wh.slots.length cwh_0.n] 50, base w0]
  refine q_marks0 ?_
  have hr0 : (nn : Int) = ((Wh.timers wh.slots).length : Int) := by
   exact hI
  refine q_end0 (v := Vi nn) (rt1 rfl (r_cell1 (i := 0) rfl rfl sh3)) (i := 3) rfl ?_
  exact (by have hcc := congrArg (fun (y0 : Int) => (.int .i64 y0 : Value)) hr0; exact hcc)
 ·intro D c s h; exact h.elim

set_option maxHeartbeats 8000000 in
set_option maxRecDepth 100000 in
theorem wcheck_ok (wh : DWheel) (awh_0 : Option Addr) (cwh_0 : NC) : Fn0 Try.prog 41 [.agg #[Vi wh.now, .slice awh_0 wh.slots.length cwh_0.n]] (fun w => RdN tTimer w awh_0 cwh_0 wh.slots) (Vi (Wh.check wh)) := by
 refine fn0R (nt := 67) (F0 := [(0, .agg #[Vi wh.now, .slice awh_0 wh.slots.length cwh_0.n])]) Try.func41 rfl Try.ntmps41 rfl rfl (fun w0 hpre => ?_)
 have hwh_0 := hpre
 have hlhwh_0 := hwh_0.2.1
 refine c_seq (c_region ?_)
 refine o_box (v := .agg #[Vi wh.now, .slice awh_0 wh.slots.length cwh_0.n]) rfl rfl (fun B1 => ?_)
 refine o_alloc ze25 rfl (fun B2 => ?_)
 refine o_nil (q_then (c_seq (c_block (c_seq (c_region ?_)))))
 refine o_p (p_fieldAddr (j' := 0) rfl fo50_0 rfl) ?_
 refine o_p (p_load (i := 1) (v := Vi wh.now) rfl rfl sh3 rfl) ?_
 refine o_call0 (v := .bool (Wh.okTime wh.now)) rfl (wtime_ok wh.now) hf65 (fun _ _ => trivial) rfl ?_
 refine o_p (p_not (b := (Wh.okTime wh.now)) rfl) ?_
 refine o_as rfl rfl ?_
 refine o_nil (q_then ?_)
 refine c_cond rfl (fun hc3 => ?_) (fun hc3 => ?_)
 ·simp only [Bool.not_eq_true'] at hc3
  have hot := hc3
  refine c_seq (c_region ?_)
  refine o_store (i := 0) (v := Vi 3) (cs' := [Vi 3]) rfl rfl rfl sz25 rfl rfl rfl ?_
  refine o_nil (q_then (c_ret ?_))
  refine q_block_ret (q_then_ret ?_)
  refine q_marks0 ?_
  have hr0 : (3 : Int) = (Wh.check wh) := by
   first | exact Wh.ch1 (by simpa using hot) | exact Wh.ch2 hot2 (by omega) | exact hI.many hot2 h48 (by omega) | exact hI.fine hot2 h48 (by omega) | exact hI
  refine q_end0 (v := Vi 3) (rt1 rfl (r_cell1 (i := 0) rfl rfl sh25)) (i := 2) rfl ?_
  exact (by have hcc := congrArg (fun (y0 : Int) => (.int .i64 y0 : Value)) hr0; exact hcc)
 ·simp only [Bool.not_eq_false'] at hc3
  have hot := hc3
  have hot2 : Wh.okTime wh.now = true := by simpa using hot
  have hnw := Wh.okTime_iff.1 hot2
  refine c_seq (c_region ?_)
  refine o_p (p_fieldAddr (j' := 1) rfl fo50_1 rfl) ?_
  refine o_p (p_load (i := 1) (v := .slice awh_0 wh.slots.length cwh_0.n) rfl rfl sh48 rfl) ?_
  refine o_p (p_len_slice rfl rfl Try.underlying48) ?_
  refine o_p (p_ne rfl rfl) ?_
  refine o_as rfl rfl ?_
  refine o_nil (q_then ?_)
  refine c_cond rfl (fun hc4 => ?_) (fun hc4 => ?_)
  ·simp only [bne_iff_ne, ne_eq] at hc4
   have h48 := hc4
   refine c_seq (c_region ?_)
   refine o_store (i := 0) (v := Vi 1) (cs' := [Vi 1]) rfl rfl rfl sz25 rfl rfl rfl ?_
   refine o_nil (q_then (c_ret ?_))
   refine q_block_ret (q_then_ret ?_)
   refine q_marks0 ?_
   have hr0 : (1 : Int) = (Wh.check wh) := by
    first | exact Wh.ch1 (by simpa using hot) | exact Wh.ch2 hot2 (by omega) | exact hI.many hot2 h48 (by omega) | exact hI.fine hot2 h48 (by omega) | exact hI
   refine q_end0 (v := Vi 1) (rt1 rfl (r_cell1 (i := 0) rfl rfl sh25)) (i := 2) rfl ?_
   exact (by have hcc := congrArg (fun (y0 : Int) => (.int .i64 y0 : Value)) hr0; exact hcc)
  ·simp only [bne_eq_false_iff_eq] at hc4
   have h48 : (wh.slots.length : Int) = 48 := by omega
   refine c_skip ?_
   refine q_block_normal (q_then ?_)
   refine c_seq (c_region ?_)
   refine o_makeMap (ν := Unit) kInt (fun _ => .agg #[]) rfl (fun B5 => ?_)
   refine o_alloc ze118 rfl (fun B6 => ?_)
   refine o_store (i := 0) (v := .map (some B5)) (cs' := [.map (some B5)]) rfl rfl rfl sz118 rfl rfl rfl ?_
   refine o_nil (q_then (c_seq (c_region ?_)))
   refine o_p (p_build (cells := [Vi 0, Vi 0]) fp52 ze52 rfl rfl) ?_
   refine o_alloc ze3 rfl (fun B7 => ?_)
   refine o_alloc ze52 rfl (fun B8 => ?_)
   refine o_store (i := 1) (v := Vi (-1)) (cs' := [Vi (-1)]) rfl rfl rfl sz3 rfl rfl rfl ?_
   refine o_storeN (i := 0) (vs := [Vi 0, Vi 0]) (cs' := [Vi 0, Vi 0]) rfl rfl rfl sz52 rfl rfl rfl rfl ?_
   refine o_nil (q_then (c_seq (c_seq (c_region ?_))))
   refine o_p (p_load_agg (i := 5) (vs := [Vi wh.now, .slice awh_0 wh.slots.length cwh_0.n]) rfl rfl sh50 rfl rfl) ?_
   refine o_callX (pre := []) (R := [box B8 [Vi 0, Vi 0] 52, box B7 [Vi (-1)] 3, box B6 [.map (some B5)] 118, mapE kInt (fun _ => .agg #[]) B5 ([]), box B2 [Vi 0] 25, box B1 [Vi wh.now, .slice awh_0 wh.slots.length cwh_0.n] 50, base w0]) rfl (wall_ok wh awh_0 cwh_0) hf72 rfl (fun _ _ => trivial) rfl ?_
   rintro B9
   refine o_asH (H' := [box B9 [Vi wh.now, .slice awh_0 wh.slots.length cwh_0.n] 50, box B8 [Vi 0, Vi 0] 52, box B7 [Vi (-1)] 3, box B6 [.map (some B5)] 118, mapE kInt (fun _ => .agg #[]) B5 ([]), box B2 [Vi 0] 25, box B1 [Vi wh.now, .slice awh_0 wh.slots.length cwh_0.n] 50, base w0]) rfl ?_
   refine o_nil (q_then (c_block ?_))
   refine c_rangeFunc (f := 110) (caps := [.pointer (some ⟨B9, 0, none⟩)]) (Pr := (fun e w => ((box B9 [Vi wh.now, .slice awh_0 wh.slots.length cwh_0.n] 50).A w ∧ (outer w [e]).S B9) ∧ SlRN tTimer (outer w [e]).S w awh_0 cwh_0 wh.slots)) (X := Unit) (encs := (fun x k => [Vi (Wh.slotAt wh.slots k), .agg #[Vi ((Wh.timAt wh.slots k).id), Vi ((Wh.timAt wh.slots k).due)]])) (E := (fun x k => [])) (N := (Wh.timers wh.slots).length) rfl hf110 (wall1_ok wh awh_0 cwh_0 B9) (fun _ _ => rfl) (by decide) (St := Int × Int × Int × Int × List (Int × Unit))
    (fun ⟨sl, l0, l1, re, m⟩ => [box B8 [Vi l0, Vi l1] 52, box B7 [Vi sl] 3, mapE kInt (fun _ => .agg #[]) B5 m, box B2 [Vi re] 25])
    (fun k ⟨sl, l0, l1, re, m⟩ => Wh.CI wh m sl l0 l1 k)
    (fun c ⟨sl, l0, l1, re, m⟩ => (c = .ret ∧ (re = Wh.check wh)))
    [box B9 [Vi wh.now, .slice awh_0 wh.slots.length cwh_0.n] 50, box B6 [.map (some B5)] 118, box B1 [Vi wh.now, .slice awh_0 wh.slots.length cwh_0.n] 50, base w0]
    ((-1), 0, 0, 0, []) ?_ ?_ ?_ ?_ ?_ ?_
   ·exact Wh.CI.start wh
   ·exact fun w hw => hw.pick (H' := [box B8 [Vi 0, Vi 0] 52, box B7 [Vi (-1)] 3, mapE kInt (fun _ => .agg #[]) B5 ([]), box B2 [Vi 0] 25, box B9 [Vi wh.now, .slice awh_0 wh.slots.length cwh_0.n] 50, box B6 [.map (some B5)] 118, box B1 [Vi wh.now, .slice awh_0 wh.slots.length cwh_0.n] 50, base w0]) [1, 2, 4, 5, 0, 3, 6, 7] (by decide) rfl
   ·intro D e0 W1 hW1
    exact ⟨boxX (i := 2) (js := [0]) rfl (by decide) rfl W1 hW1, (rdXN (i := 5) (js := [0]) rfl (by decide) rfl (fun _ hA => slR_baseN hwh_0 hA)) W1 hW1⟩
   ·rintro l_ rc D e0 W1 hW1 x_ k ⟨sl, l0, l1, re, m⟩ hk hI
    have hI0 := hI
    have hor0_1 : SlRN tTimer (outer W1 [e0]).S W1 awh_0 cwh_0 wh.slots := (rdXN (i := 5) (js := [0]) rfl (by decide) rfl (fun _ hA => slR_baseN hwh_0 hA)) W1 hW1
    have hlhor0_1 := hor0_1.2.1
    have hobr0_B1 := boxX (i := 4) (B := B1) (cs := [Vi wh.now, .slice awh_0 wh.slots.length cwh_0.n]) (U := 50) (js := [0]) (pre := [e0]) rfl (by decide) rfl W1 hW1
    have hobr0_B6 := boxX (i := 3) (B := B6) (cs := [.map (some B5)]) (U := 118) (js := [0]) (pre := [e0]) rfl (by decide) rfl W1 hW1
    refine c_seq (c_region ?_)
    refine o_as rfl rfl ?_
    refine o_nil (q_then (c_region ?_))
    refine o_alloc ze52 rfl (fun B10 => ?_)
    refine o_storeN (i := 0) (vs := [Vi ((Wh.timAt wh.slots k).id), Vi ((Wh.timAt wh.slots k).due)]) (cs' := [Vi ((Wh.timAt wh.slots k).id), Vi ((Wh.timAt wh.slots k).due)]) rfl rfl rfl sz52 rfl rfl rfl rfl ?_
    refine o_nil ?_
    refine q_begin (i := 2) rfl ?_
    refine c_block (c_seq (c_region ?_))
    refine o_p (p_loadR (v := .map (some B5)) rfl (rbox_outer (i := 1) rfl hobr0_B6) sh118 rfl) ?_
    refine o_p (p_fieldAddr (j' := 0) rfl fo52_0 rfl) ?_
    refine o_p (p_load (i := 0) (v := Vi ((Wh.timAt wh.slots k).id)) rfl rfl sh3 rfl) ?_
    refine o_p (p_lookup2 (i := 5) (K := kInt) (ve := (fun _ => .agg #[])) (m := m) (k := (Wh.timAt wh.slots k).id) (dflt := ()) rfl rfl rfl Try.underlying118 Try.underlying3 zv119) ?_
    refine o_mv rfl rfl ?_
    refine o_ex rfl rfl rfl ?_
    refine o_ex rfl rfl rfl ?_
    refine o_alloc ze119 rfl (fun B11 => ?_)
    refine o_storeN (i := 0) (vs := []) (cs' := []) rfl rfl rfl sz119 rfl rfl rfl rfl ?_
    refine o_as rfl rfl ?_
    refine o_nil (q_then (c_seq (c_block (c_seq (c_region ?_)))))
    refine o_p (p_load_agg (i := 1) (vs := [Vi ((Wh.timAt wh.slots k).id), Vi ((Wh.timAt wh.slots k).due)]) rfl rfl sh52 rfl rfl) ?_
    refine o_p (p_fieldAddr (j' := 0) rfl fo50_0 rfl) ?_
    refine o_p (p_loadR (v := Vi wh.now) rfl (rbox_outer (i := 2) rfl hobr0_B1) sh3 rfl) ?_
    refine o_call0 (v := .bool (Wh.right (Wh.timAt wh.slots k) wh.now)) rfl (wright_ok (Wh.timAt wh.slots k) wh.now) hf66 (fun _ _ => trivial) rfl ?_
    refine o_p (p_not (b := (Wh.right (Wh.timAt wh.slots k) wh.now)) rfl) ?_
    refine o_as rfl rfl ?_
    refine o_nil (q_then ?_)
    refine c_cond rfl (fun hc12 => ?_) (fun hc12 => ?_)
    ·simp only [Bool.not_eq_true'] at hc12
     have hrt : Wh.right (Wh.timAt wh.slots k) wh.now = false := by simpa using hc12
     refine c_seq (c_region ?_)
     refine o_store (i := 7) (v := Vi 3) (cs' := [Vi 3]) rfl rfl rfl sz25 rfl rfl rfl ?_
     refine o_nil (q_then (c_ret ?_))
     refine q_block_ret (q_then_ret (q_block_ret ?_))
     refine q_leave (sl, l0, l1, 3, m) ?_ (fun w hw => hw.pick (H' := [outer W1 [e0], loopE l_ (recd rc .busy none), box B8 [Vi l0, Vi l1] 52, box B7 [Vi sl] 3, mapE kInt (fun _ => .agg #[]) B5 m, box B2 [Vi 3] 25]) [2, 3, 4, 5, 6, 7] (by decide) rfl)
     refine ⟨rfl, ?_⟩
     first | exact hI0.right hot2 h48 hk hrt | exact hI0.place hot2 h48 hk hrt (by omega) | exact hI0.twice hot2 h48 hk hrt (by omega) (by omega) (by simpa using htw)
    ·simp only [Bool.not_eq_false'] at hc12
     have hrt : Wh.right (Wh.timAt wh.slots k) wh.now = true := by simpa using hc12
     have hri := Wh.right_iff.1 hrt
     refine c_seq (c_seq (c_region ?_))
     refine o_p (p_fieldAddr (j' := 1) rfl fo52_1 rfl) ?_
     refine o_p (p_load (i := 1) (v := Vi ((Wh.timAt wh.slots k).due)) rfl rfl sh3 rfl) ?_
     refine o_p (p_fieldAddr (j' := 0) rfl fo50_0 rfl) ?_
     refine o_p (p_loadR (v := Vi wh.now) rfl (rbox_outer (i := 2) rfl hobr0_B1) sh3 rfl) ?_
     refine o_call0 (v := Vi (Wh.place ((Wh.timAt wh.slots k).due) wh.now)) rfl (wplace_ok ((Wh.timAt wh.slots k).due) wh.now (by first | assumption | omega) (by first | assumption | omega)) hf77 (fun _ _ => trivial) rfl ?_
     refine o_mv rfl rfl ?_
     refine o_p (p_ne rfl rfl) ?_
     refine o_as rfl rfl ?_
     refine o_nil (q_then ?_)
     refine c_cond rfl (fun hc13 => ?_) (fun hc13 => ?_)
     ·simp only [bne_iff_ne, ne_eq] at hc13
      have hpl := hc13
      refine c_skip (q_then ?_)
      refine c_cond rfl (fun hc14 => ?_) (fun hc14 => ?_)
      ·simp only [bne_iff_ne, ne_eq] at hc14
       refine c_seq (c_region ?_)
       refine o_store (i := 7) (v := Vi 4) (cs' := [Vi 4]) rfl rfl rfl sz25 rfl rfl rfl ?_
       refine o_nil (q_then (c_ret ?_))
       refine q_block_ret (q_then_ret (q_block_ret ?_))
       refine q_leave (sl, l0, l1, 4, m) ?_ (fun w hw => hw.pick (H' := [outer W1 [e0], loopE l_ (recd rc .busy none), box B8 [Vi l0, Vi l1] 52, box B7 [Vi sl] 3, mapE kInt (fun _ => .agg #[]) B5 m, box B2 [Vi 4] 25]) [2, 3, 4, 5, 6, 7] (by decide) rfl)
       refine ⟨rfl, ?_⟩
       first | exact hI0.right hot2 h48 hk hrt | exact hI0.place hot2 h48 hk hrt (by omega) | exact hI0.twice hot2 h48 hk hrt (by omega) (by omega) (by simpa using htw)
      ·simp only [bne_eq_false_iff_eq] at hc14
       exfalso; first | contradiction | omega | simp_all
     ·simp only [bne_eq_false_iff_eq] at hc13
      have hpl := hc13
      refine c_region ?_
      refine o_mv rfl rfl ?_
      refine o_p (p_load (i := 5) (v := Vi sl) rfl rfl sh3 rfl) ?_
      refine o_p (p_eq rfl rfl) ?_
      refine o_mv rfl rfl ?_
      refine o_and (p := 55) 5 (decide (0 ≤ (Wh.order (⟨l0, l1⟩ : DTimer) (Wh.timAt wh.slots k)))) ?_ ?_ ?_
      ·intro hb15 hk
       simp only [beq_iff_eq] at hb15
       refine o_unguard 50 rfl rfl ?_
       refine o_p (p_load_agg (i := 4) (vs := [Vi l0, Vi l1]) rfl rfl sh52 rfl rfl) ?_
       refine o_unguard 50 rfl rfl ?_
       refine o_p (p_load_agg (i := 1) (vs := [Vi ((Wh.timAt wh.slots k).id), Vi ((Wh.timAt wh.slots k).due)]) rfl rfl sh52 rfl rfl) ?_
       refine o_unguard 50 rfl rfl ?_
       refine o_call0 (v := Vi (Wh.order (⟨l0, l1⟩ : DTimer) (Wh.timAt wh.slots k))) rfl (worder_ok (⟨l0, l1⟩ : DTimer) (Wh.timAt wh.slots k)) hf74 (fun _ _ => trivial) rfl ?_
       refine o_unguard 50 rfl rfl ?_
       refine o_p (p_ge rfl rfl) ?_
       refine o_pt rfl rfl rfl ?_
       exact o_sub (sr (Sub.skip rfl (Sub.skip rfl (Sub.skip rfl (Sub.skip rfl (Sub.skip rfl (Sub.skip rfl (Sub.refl _)))))))) hk
      ·intro hb15 hk
       refine o_guard_no rfl 50 rfl rfl rfl rfl rfl ?_
       refine o_guard_no rfl 50 rfl rfl rfl rfl rfl ?_
       refine o_guard_no rfl 50 rfl rfl rfl rfl rfl ?_
       refine o_guard_no rfl 50 rfl rfl rfl rfl rfl ?_
       refine o_pf rfl rfl rfl ?_
       exact o_sub (sr (Sub.skip rfl (Sub.skip rfl (Sub.skip rfl (Sub.skip rfl (Sub.skip rfl (Sub.skip rfl (Sub.refl _)))))))) hk
      refine o_as rfl rfl ?_
      refine o_nil (q_then ?_)
      refine c_cond rfl (fun hc16 => ?_) (fun hc16 => ?_)
      ·simp only [Bool.and_eq_true, beq_iff_eq, decide_eq_true_eq] at hc16
       refine c_seq (c_region ?_)
       refine o_store (i := 7) (v := Vi 4) (cs' := [Vi 4]) rfl rfl rfl sz25 rfl rfl rfl ?_
       refine o_nil (q_then (c_ret ?_))
       refine q_block_ret (q_then_ret (q_block_ret ?_))
       refine q_leave (sl, l0, l1, 4, m) ?_ (fun w hw => hw.pick (H' := [outer W1 [e0], loopE l_ (recd rc .busy none), box B8 [Vi l0, Vi l1] 52, box B7 [Vi sl] 3, mapE kInt (fun _ => .agg #[]) B5 m, box B2 [Vi 4] 25]) [2, 3, 4, 5, 6, 7] (by decide) rfl)
       refine ⟨rfl, ?_⟩
       first | exact hI0.right hot2 h48 hk hrt | exact hI0.place hot2 h48 hk hrt (by omega) | exact hI0.twice hot2 h48 hk hrt (by omega) (by omega) (by simpa using htw)
      ·simp only [Bool.and_eq_false_iff, beq_eq_false_iff_ne, ne_eq, decide_eq_false_iff_not, Int.not_le] at hc16
       refine c_seq (c_region ?_)
       refine o_mv rfl rfl ?_
       refine o_as rfl rfl ?_
       refine o_nil (q_then ?_)
       refine c_cond rfl (fun hc17 => ?_) (fun hc17 => ?_)
       ·skip
        have htw := hc17
        refine c_seq (c_region ?_)
        refine o_store (i := 7) (v := Vi 6) (cs' := [Vi 6]) rfl rfl rfl sz25 rfl rfl rfl ?_
        refine o_nil (q_then (c_ret ?_))
        refine q_block_ret (q_then_ret (q_block_ret ?_))
        refine q_leave (sl, l0, l1, 6, m) ?_ (fun w hw => hw.pick (H' := [outer W1 [e0], loopE l_ (recd rc .busy none), box B8 [Vi l0, Vi l1] 52, box B7 [Vi sl] 3, mapE kInt (fun _ => .agg #[]) B5 m, box B2 [Vi 6] 25]) [2, 3, 4, 5, 6, 7] (by decide) rfl)
        refine ⟨rfl, ?_⟩
        first | exact hI0.right hot2 h48 hk hrt | exact hI0.place hot2 h48 hk hrt (by omega) | exact hI0.twice hot2 h48 hk hrt (by omega) (by omega) (by simpa using htw)
       ·skip
        have htw := hc17
        refine c_skip ?_
        refine q_block_normal (q_then ?_)
        refine c_seq (c_region ?_)
        refine o_p (p_loadR (v := .map (some B5)) rfl (rbox_outer (i := 2) rfl hobr0_B6) sh118 rfl) ?_
        refine o_p (p_fieldAddr (j' := 0) rfl fo52_0 rfl) ?_
        refine o_p (p_load (i := 1) (v := Vi ((Wh.timAt wh.slots k).id)) rfl rfl sh3 rfl) ?_
        refine o_p (p_build (cells := []) fp119 ze119 rfl rfl) ?_
        refine o_mapUpdate (i := 6) (K := kInt) (ve := (fun _ => .agg #[])) (m := m) (k := (Wh.timAt wh.slots k).id) (v := ()) rfl rfl rfl rfl Try.underlying118 Try.underlying3 ?_
        refine o_nil (q_then ?_)
        refine c_heldR hmix (by decide) (fun _ _ h => h) [box B11 [] 119, box B10 [Vi ((Wh.timAt wh.slots k).id), Vi ((Wh.timAt wh.slots k).due)] 52, outer W1 [e0], loopE l_ (recd rc .busy none), mapE kInt (fun _ => .agg #[]) B5 (AL.set m ((Wh.timAt wh.slots k).id) ()), box B2 [Vi re] 25] rfl rfl ?_
        refine h_tk (i := 0) (ls := #[T1,F0,F0,F0]) rfl (p_move rfl) (dp (lj (lj (lj (lj (lz (lz (lj (lj (ln)))))))))) ?_
        refine h_tk (i := 1) (ls := #[T1,T1,F0,F0]) rfl (p_load_agg (i := 1) (vs := [Vi ((Wh.timAt wh.slots k).id), Vi ((Wh.timAt wh.slots k).due)]) rfl rfl sh52 rfl rfl) (dp (lj (lj (lj (lj (lz (lz (lj (lj (ln)))))))))) ?_
        refine h_one (i := 2) (ls := #[T1,T1,T1,F0]) (by kernel_rfl) rfl rfl ?_
        refine o_store (i := 5) (v := Vi (Wh.slotAt wh.slots k)) (cs' := [Vi (Wh.slotAt wh.slots k)]) rfl rfl rfl sz3 rfl rfl rfl ?_
        refine o_nil ?_
        refine h_next (dp (lj (lj (lj (lj (lz (lz (lj (lj (ln)))))))))) ?_
        refine h_one (i := 3) (ls := #[T1,T1,T1,T1]) (by kernel_rfl) rfl rfl ?_
        refine o_storeN (i := 4) (vs := [Vi ((Wh.timAt wh.slots k).id), Vi ((Wh.timAt wh.slots k).due)]) (cs' := [Vi ((Wh.timAt wh.slots k).id), Vi ((Wh.timAt wh.slots k).due)]) rfl rfl rfl sz52 rfl rfl rfl rfl ?_
        refine o_nil ?_
        refine h_next (dp (lj (lj (lj (lj (lz (lz (lj (lj (ln)))))))))) ?_
        refine h_done (by kernel_rfl) ?_
        refine q_block_normal ?_
        refine q_next ((Wh.slotAt wh.slots k), (Wh.timAt wh.slots k).id, (Wh.timAt wh.slots k).due, re, (AL.set m ((Wh.timAt wh.slots k).id) ())) ?_ (fun w hw => hw.pick (H' := [outer W1 [e0], loopE l_ (recd rc .busy none), box B8 [Vi ((Wh.timAt wh.slots k).id), Vi ((Wh.timAt wh.slots k).due)] 52, box B7 [Vi (Wh.slotAt wh.slots k)] 3, mapE kInt (fun _ => .agg #[]) B5 (AL.set m ((Wh.timAt wh.slots k).id) ()), box B2 [Vi re] 25]) [2, 3, 4, 5, 6, 7] (by decide) rfl)
        exact hI0.next hk hrt (by omega) (by omega) (by simpa using htw) _
   ·rintro D ⟨sl, l0, l1, re, m⟩ hI
    show SQ _ 67 w0 _ _ _ [defE D, box B8 [Vi l0, Vi l1] 52, box B7 [Vi sl] 3, mapE kInt (fun _ => .agg #[]) B5 m, box B2 [Vi re] 25, box B9 [Vi wh.now, .slice awh_0 wh.slots.length cwh_0.n] 50, box B6 [.map (some B5)] 118, box B1 [Vi wh.now, .slice awh_0 wh.slots.length cwh_0.n] 50, base w0]
    refine q_block_normal (q_then ?_)
    refine c_seq (c_seq (c_region ?_))
    refine o_p (p_load (i := 6) (v := .map (some B5)) rfl rfl sh118 rfl) ?_
    refine o_p (p_len_map (i := 3) (K := kInt) (ve := (fun _ => .agg #[])) (m := m) rfl rfl rfl Try.underlying118) ?_
    refine o_p (p_gt rfl rfl) ?_
    refine o_nil (q_then ?_)
    refine c_cond rfl (fun hc19 => ?_) (fun hc19 => ?_)
    ·simp only [decide_eq_true_eq] at hc19
     refine c_seq (c_region ?_)
     refine o_store (i := 4) (v := Vi 2) (cs' := [Vi 2]) rfl rfl rfl sz25 rfl rfl rfl ?_
     refine o_nil (q_then (c_ret ?_))
     refine q_then_ret ?_
     refine q_marks (i := 0) rfl ?_
     show SQ _ 67 w0 _ _ _ [box B8 [Vi l0, Vi l1] 52, box B7 [Vi sl] 3, mapE kInt (fun _ => .agg #[]) B5 m, box B2 [Vi 2] 25, box B9 [Vi wh.now, .slice awh_0 wh.slots.length cwh_0.n] 50, box B6 [.map (some B5)] 118, box B1 [Vi wh.now, .slice awh_0 wh.slots.length cwh_0.n] 50, base w0]
     refine q_marks0 ?_
     have hr0 : (2 : Int) = (Wh.check wh) := by
      first | exact Wh.ch1 (by simpa using hot) | exact Wh.ch2 hot2 (by omega) | exact hI.many hot2 h48 (by omega) | exact hI.fine hot2 h48 (by omega) | exact hI
     refine q_end0 (v := Vi 2) (rt1 rfl (r_cell1 (i := 3) rfl rfl sh25)) (i := 7) rfl ?_
     exact (by have hcc := congrArg (fun (y0 : Int) => (.int .i64 y0 : Value)) hr0; exact hcc)
    ·simp only [decide_eq_false_iff_not, Int.not_lt] at hc19
     refine c_skip (q_then (c_seq (c_region ?_)))
     refine o_store (i := 4) (v := Vi 0) (cs' := [Vi 0]) rfl rfl rfl sz25 rfl rfl rfl ?_
     refine o_nil (q_then (c_ret ?_))
     refine q_marks (i := 0) rfl ?_
     show SQ _ 67 w0 _ _ _ [box B8 [Vi l0, Vi l1] 52, box B7 [Vi sl] 3, mapE kInt (fun _ => .agg #[]) B5 m, box B2 [Vi 0] 25, box B9 [Vi wh.now, .slice awh_0 wh.slots.length cwh_0.n] 50, box B6 [.map (some B5)] 118, box B1 [Vi wh.now, .slice awh_0 wh.slots.length cwh_0.n] 50, base w0]
     refine q_marks0 ?_
     have hr0 : (0 : Int) = (Wh.check wh) := by
      first | exact Wh.ch1 (by simpa using hot) | exact Wh.ch2 hot2 (by omega) | exact hI.many hot2 h48 (by omega) | exact hI.fine hot2 h48 (by omega) | exact hI
     refine q_end0 (v := Vi 0) (rt1 rfl (r_cell1 (i := 3) rfl rfl sh25)) (i := 7) rfl ?_
     exact (by have hcc := congrArg (fun (y0 : Int) => (.int .i64 y0 : Value)) hr0; exact hcc)
   ·rintro D c ⟨sl, l0, l1, re, m⟩ hx
    rcases hx with ⟨rfl, hI⟩
    ·show SC _ _ Try.prog 67 w0 _ _ _ [defE D, box B8 [Vi l0, Vi l1] 52, box B7 [Vi sl] 3, mapE kInt (fun _ => .agg #[]) B5 m, box B2 [Vi re] 25, box B9 [Vi wh.now, .slice awh_0 wh.slots.length cwh_0.n] 50, box B6 [.map (some B5)] 118, box B1 [Vi wh.now, .slice awh_0 wh.slots.length cwh_0.n] 50, base w0]
     refine c_ret ?_
     refine q_block_ret (q_then_ret ?_)
     refine q_marks (i := 0) rfl ?_
     show SQ _ 67 w0 _ _ _ [box B8 [Vi l0, Vi l1] 52, box B7 [Vi sl] 3, mapE kInt (fun _ => .agg #[]) B5 m, box B2 [Vi re] 25, box B9 [Vi wh.now, .slice awh_0 wh.slots.length cwh_0.n] 50, box B6 [.map (some B5)] 118, box B1 [Vi wh.now, .slice awh_0 wh.slots.length cwh_0.n] 50, base w0]
     refine q_marks0 ?_
     have hr0 : (re : Int) = (Wh.check wh) := by
      first | exact Wh.ch1 (by simpa using hot) | exact Wh.ch2 hot2 (by omega) | exact hI.many hot2 h48 (by omega) | exact hI.fine hot2 h48 (by omega) | exact hI
     refine q_end0 (v := Vi re) (rt1 rfl (r_cell1 (i := 3) rfl rfl sh25)) (i := 7) rfl ?_
     exact (by have hcc := congrArg (fun (y0 : Int) => (.int .i64 y0 : Value)) hr0; exact hcc)

set_option maxHeartbeats 8000000 in
set_option maxRecDepth 100000 in
theorem wnext_ok (wh : DWheel) (awh_0 : Option Addr) (cwh_0 : NC) : Fn0 Try.prog 33 [.agg #[Vi wh.now, .slice awh_0 wh.slots.length cwh_0.n]] (fun w => RdN tTimer w awh_0 cwh_0 wh.slots) (.tuple #[Vi (Wh.next wh), Vi (Wh.nextErr wh)]) := by
 refine fn0R (nt := 18) (F0 := [(0, .agg #[Vi wh.now, .slice awh_0 wh.slots.length cwh_0.n])]) Try.func33 rfl Try.ntmps33 rfl rfl (fun w0 hpre => ?_)
 have hwh_0 := hpre
 have hlhwh_0 := hwh_0.2.1
 refine c_seq (c_region ?_)
 refine o_box (v := .agg #[Vi wh.now, .slice awh_0 wh.slots.length cwh_0.n]) rfl rfl (fun B1 => ?_)
 refine o_alloc ze3 rfl (fun B2 => ?_)
 refine o_alloc ze25 rfl (fun B3 => ?_)
 refine o_nil (q_then (c_seq (c_seq (c_region ?_))))
 refine o_p (p_load_agg (i := 2) (vs := [Vi wh.now, .slice awh_0 wh.slots.length cwh_0.n]) rfl rfl sh50 rfl rfl) ?_
 refine o_call0 (v := Vi (Wh.check wh)) rfl (wcheck_ok wh awh_0 cwh_0) hf41 (fun w hw => (rd_baseN (i := 3) rfl hwh_0) w hw) rfl ?_
 refine o_as rfl rfl ?_
 refine o_nil (q_then (c_seq (c_region ?_)))
 refine o_mv rfl rfl ?_
 refine o_p (p_ne rfl rfl) ?_
 refine o_nil (q_then ?_)
 refine c_cond rfl (fun hc4 => ?_) (fun hc4 => ?_)
 ·simp only [bne_iff_ne, ne_eq] at hc4
  have hch := hc4
  refine c_seq (c_region ?_)
  refine o_mv rfl rfl ?_
  refine o_store (i := 1) (v := Vi 0) (cs' := [Vi 0]) rfl rfl rfl sz3 rfl rfl rfl ?_
  refine o_store (i := 0) (v := Vi (Wh.check wh)) (cs' := [Vi (Wh.check wh)]) rfl rfl rfl sz25 rfl rfl rfl ?_
  refine o_nil (q_then (c_ret ?_))
  refine q_then_ret ?_
  refine q_marks0 ?_
  have hr0 : (0 : Int) = (Wh.next wh) := by
   first | exact hI.1 | exact hI.2 | exact (Wh.nx1 (by omega)).1 | exact (Wh.nx1 (by omega)).2 | exact (Wh.nx2 (by omega) (by omega)).1 | exact (Wh.nx2 (by omega) (by omega)).2
  have hr1 : ((Wh.check wh) : Int) = (Wh.nextErr wh) := by
   first | exact hI.1 | exact hI.2 | exact (Wh.nx1 (by omega)).1 | exact (Wh.nx1 (by omega)).2 | exact (Wh.nx2 (by omega) (by omega)).1 | exact (Wh.nx2 (by omega) (by omega)).2
  refine q_end0 (v := .tuple #[Vi 0, Vi (Wh.check wh)]) (rt2 rfl (r_cell1 (i := 1) rfl rfl sh3) (r_cell1 (i := 0) rfl rfl sh25)) (i := 3) rfl ?_
  exact (by have hcc := congr (congrArg (fun (y0 : Int) (y1 : Int) => (.tuple #[.int .i64 y0, .int .i64 y1] : Value)) hr0) hr1; exact hcc)
 ·simp only [bne_eq_false_iff_eq] at hc4
  have hch := hc4
  refine c_skip (q_then (c_seq (c_seq (c_region ?_))))
  refine o_p (p_load_agg (i := 2) (vs := [Vi wh.now, .slice awh_0 wh.slots.length cwh_0.n]) rfl rfl sh50 rfl rfl) ?_
  refine o_callX (pre := []) (R := [box B3 [Vi 0] 25, box B2 [Vi 0] 3, box B1 [Vi wh.now, .slice awh_0 wh.slots.length cwh_0.n] 50, base w0]) rfl (wall_ok wh awh_0 cwh_0) hf72 rfl (fun _ _ => trivial) rfl ?_
  rintro B5
  refine o_asH (H' := [box B5 [Vi wh.now, .slice awh_0 wh.slots.length cwh_0.n] 50, box B3 [Vi 0] 25, box B2 [Vi 0] 3, box B1 [Vi wh.now, .slice awh_0 wh.slots.length cwh_0.n] 50, base w0]) rfl ?_
  refine o_nil (q_then (c_block ?_))
  refine c_rangeFunc (f := 110) (caps := [.pointer (some ⟨B5, 0, none⟩)]) (Pr := (fun e w => ((box B5 [Vi wh.now, .slice awh_0 wh.slots.length cwh_0.n] 50).A w ∧ (outer w [e]).S B5) ∧ SlRN tTimer (outer w [e]).S w awh_0 cwh_0 wh.slots)) (X := Unit) (encs := (fun x k => [Vi (Wh.slotAt wh.slots k), .agg #[Vi ((Wh.timAt wh.slots k).id), Vi ((Wh.timAt wh.slots k).due)]])) (E := (fun x k => [])) (N := (Wh.timers wh.slots).length) rfl hf110 (wall1_ok wh awh_0 cwh_0 B5) (fun _ _ => rfl) (by decide) (St := Int × Int)
   (fun ⟨ra, rb⟩ => [box B3 [Vi rb] 25, box B2 [Vi ra] 3])
   (fun k ⟨ra, rb⟩ => k = 0)
   (fun c ⟨ra, rb⟩ => (c = .ret ∧ (ra = Wh.next wh ∧ rb = Wh.nextErr wh)))
   [box B5 [Vi wh.now, .slice awh_0 wh.slots.length cwh_0.n] 50, box B1 [Vi wh.now, .slice awh_0 wh.slots.length cwh_0.n] 50, base w0]
   (0, 0) ?_ ?_ ?_ ?_ ?_ ?_
  ·rfl
  ·exact fun w hw => hw.pick (H' := [box B3 [Vi 0] 25, box B2 [Vi 0] 3, box B5 [Vi wh.now, .slice awh_0 wh.slots.length cwh_0.n] 50, box B1 [Vi wh.now, .slice awh_0 wh.slots.length cwh_0.n] 50, base w0]) [1, 2, 0, 3, 4] (by decide) rfl
  ·intro D e0 W1 hW1
   exact ⟨boxX (i := 2) (js := [0]) rfl (by decide) rfl W1 hW1, (rdXN (i := 4) (js := [0]) rfl (by decide) rfl (fun _ hA => slR_baseN hwh_0 hA)) W1 hW1⟩
  ·rintro l_ rc D e0 W1 hW1 x_ k ⟨ra, rb⟩ hk hI
   refine c_region ?_
   refine o_alloc ze52 rfl (fun B6 => ?_)
   refine o_storeN (i := 0) (vs := [Vi ((Wh.timAt wh.slots k).id), Vi ((Wh.timAt wh.slots k).due)]) (cs' := [Vi ((Wh.timAt wh.slots k).id), Vi ((Wh.timAt wh.slots k).due)]) rfl rfl rfl sz52 rfl rfl rfl rfl ?_
   refine o_nil ?_
   refine q_begin (i := 2) rfl ?_
   refine c_block (c_seq (c_region ?_))
   refine o_p (p_fieldAddr (j' := 1) rfl fo52_1 rfl) ?_
   refine o_p (p_load (i := 0) (v := Vi ((Wh.timAt wh.slots k).due)) rfl rfl sh3 rfl) ?_
   refine o_store (i := 4) (v := Vi ((Wh.timAt wh.slots k).due)) (cs' := [Vi ((Wh.timAt wh.slots k).due)]) rfl rfl rfl sz3 rfl rfl rfl ?_
   refine o_store (i := 3) (v := Vi 0) (cs' := [Vi 0]) rfl rfl rfl sz25 rfl rfl rfl ?_
   refine o_nil (q_then (c_ret ?_))
   refine q_block_ret ?_
   refine q_leave ((Wh.timAt wh.slots k).due, 0) ?_ (fun w hw => hw.pick (H' := [outer W1 [e0], loopE l_ (recd rc .busy none), box B3 [Vi 0] 25, box B2 [Vi ((Wh.timAt wh.slots k).due)] 3]) [1, 2, 3, 4] (by decide) rfl)
   refine ⟨rfl, ?_⟩
   (subst hI; exact Wh.nx3 (by omega) hk)
  ·rintro D ⟨ra, rb⟩ hI
   show SQ _ 18 w0 _ _ _ [defE D, box B3 [Vi rb] 25, box B2 [Vi ra] 3, box B5 [Vi wh.now, .slice awh_0 wh.slots.length cwh_0.n] 50, box B1 [Vi wh.now, .slice awh_0 wh.slots.length cwh_0.n] 50, base w0]
   refine q_block_normal (q_then ?_)
   refine c_seq (c_region ?_)
   refine o_store (i := 2) (v := Vi 0) (cs' := [Vi 0]) rfl rfl rfl sz3 rfl rfl rfl ?_
   refine o_store (i := 1) (v := Vi 5) (cs' := [Vi 5]) rfl rfl rfl sz25 rfl rfl rfl ?_
   refine o_nil (q_then (c_ret ?_))
   refine q_marks (i := 0) rfl ?_
   show SQ _ 18 w0 _ _ _ [box B3 [Vi 5] 25, box B2 [Vi 0] 3, box B5 [Vi wh.now, .slice awh_0 wh.slots.length cwh_0.n] 50, box B1 [Vi wh.now, .slice awh_0 wh.slots.length cwh_0.n] 50, base w0]
   refine q_marks0 ?_
   have hr0 : (0 : Int) = (Wh.next wh) := by
    first | exact hI.1 | exact hI.2 | exact (Wh.nx1 (by omega)).1 | exact (Wh.nx1 (by omega)).2 | exact (Wh.nx2 (by omega) (by omega)).1 | exact (Wh.nx2 (by omega) (by omega)).2
   have hr1 : (5 : Int) = (Wh.nextErr wh) := by
    first | exact hI.1 | exact hI.2 | exact (Wh.nx1 (by omega)).1 | exact (Wh.nx1 (by omega)).2 | exact (Wh.nx2 (by omega) (by omega)).1 | exact (Wh.nx2 (by omega) (by omega)).2
   refine q_end0 (v := .tuple #[Vi 0, Vi 5]) (rt2 rfl (r_cell1 (i := 1) rfl rfl sh3) (r_cell1 (i := 0) rfl rfl sh25)) (i := 4) rfl ?_
   exact (by have hcc := congr (congrArg (fun (y0 : Int) (y1 : Int) => (.tuple #[.int .i64 y0, .int .i64 y1] : Value)) hr0) hr1; exact hcc)
  ·rintro D c ⟨ra, rb⟩ hx
   rcases hx with ⟨rfl, hI⟩
   ·show SC _ _ Try.prog 18 w0 _ _ _ [defE D, box B3 [Vi rb] 25, box B2 [Vi ra] 3, box B5 [Vi wh.now, .slice awh_0 wh.slots.length cwh_0.n] 50, box B1 [Vi wh.now, .slice awh_0 wh.slots.length cwh_0.n] 50, base w0]
    refine c_ret ?_
    refine q_block_ret (q_then_ret ?_)
    refine q_marks (i := 0) rfl ?_
    show SQ _ 18 w0 _ _ _ [box B3 [Vi rb] 25, box B2 [Vi ra] 3, box B5 [Vi wh.now, .slice awh_0 wh.slots.length cwh_0.n] 50, box B1 [Vi wh.now, .slice awh_0 wh.slots.length cwh_0.n] 50, base w0]
    refine q_marks0 ?_
    have hr0 : (ra : Int) = (Wh.next wh) := by
     first | exact hI.1 | exact hI.2 | exact (Wh.nx1 (by omega)).1 | exact (Wh.nx1 (by omega)).2 | exact (Wh.nx2 (by omega) (by omega)).1 | exact (Wh.nx2 (by omega) (by omega)).2
    have hr1 : (rb : Int) = (Wh.nextErr wh) := by
     first | exact hI.1 | exact hI.2 | exact (Wh.nx1 (by omega)).1 | exact (Wh.nx1 (by omega)).2 | exact (Wh.nx2 (by omega) (by omega)).1 | exact (Wh.nx2 (by omega) (by omega)).2
    refine q_end0 (v := .tuple #[Vi ra, Vi rb]) (rt2 rfl (r_cell1 (i := 1) rfl rfl sh3) (r_cell1 (i := 0) rfl rfl sh25)) (i := 4) rfl ?_
    exact (by have hcc := congr (congrArg (fun (y0 : Int) (y1 : Int) => (.tuple #[.int .i64 y0, .int .i64 y1] : Value)) hr0) hr1; exact hcc)
end Go.Proofs.Ytnmbkopnopaigaa
