/- The walks, printed by a program from the translation and a specification. -/
import Derived.Test.YtnmbkopnopaigaaSkF
import Derived.Test.YtnmbkopnopaigaaSkLaw
namespace Go.Proofs.Ytnmbkopnopaigaa
open Go.Sx Go.RowKit
set_option maxHeartbeats 8000000 in
set_option maxRecDepth 100000 in
theorem mix_ok (n : UInt64) : Fn0 Try.prog 137 [.int .u64 (n.toNat : Int)] (fun _ => True) (.int .u64 ((Hash.mix n).toNat : Int)) := by
 refine fn0 (nt := 17) (F0 := [(0, .int .u64 (n.toNat : Int))]) Try.func137 rfl Try.ntmps137 rfl rfl (fun w0 hpre => ?_)
 refine c_seq (c_region ?_)
 refine o_as rfl rfl ?_
 refine o_nil (q_then (c_seq (c_region ?_)))
 refine o_mv rfl rfl ?_
 refine o_mv rfl rfl ?_
 refine o_p (pu_shr (p := n) (m := 30) rfl rfl (by decide)) ?_
 refine o_p (pu_xor (p := n) (q := (shrU n 30)) rfl rfl) ?_
 refine o_p (pu_mul (p := (n ^^^ (shrU n 30))) (q := (13787848793156543929 : UInt64)) rfl rfl) ?_
 refine o_as rfl rfl ?_
 refine o_nil (q_then (c_seq (c_region ?_)))
 refine o_mv rfl rfl ?_
 refine o_mv rfl rfl ?_
 refine o_p (pu_shr (p := ((n ^^^ (shrU n 30)) * (13787848793156543929 : UInt64))) (m := 27) rfl rfl (by decide)) ?_
 refine o_p (pu_xor (p := ((n ^^^ (shrU n 30)) * (13787848793156543929 : UInt64))) (q := (shrU ((n ^^^ (shrU n 30)) * (13787848793156543929 : UInt64)) 27)) rfl rfl) ?_
 refine o_p (pu_mul (p := (((n ^^^ (shrU n 30)) * (13787848793156543929 : UInt64)) ^^^ (shrU ((n ^^^ (shrU n 30)) * (13787848793156543929 : UInt64)) 27))) (q := (10723151780598845931 : UInt64)) rfl rfl) ?_
 refine o_as rfl rfl ?_
 refine o_nil (q_then (c_seq (c_region ?_)))
 refine o_mv rfl rfl ?_
 refine o_mv rfl rfl ?_
 refine o_p (pu_shr (p := ((((n ^^^ (shrU n 30)) * (13787848793156543929 : UInt64)) ^^^ (shrU ((n ^^^ (shrU n 30)) * (13787848793156543929 : UInt64)) 27)) * (10723151780598845931 : UInt64))) (m := 31) rfl rfl (by decide)) ?_
 refine o_p (pu_xor (p := ((((n ^^^ (shrU n 30)) * (13787848793156543929 : UInt64)) ^^^ (shrU ((n ^^^ (shrU n 30)) * (13787848793156543929 : UInt64)) 27)) * (10723151780598845931 : UInt64))) (q := (shrU ((((n ^^^ (shrU n 30)) * (13787848793156543929 : UInt64)) ^^^ (shrU ((n ^^^ (shrU n 30)) * (13787848793156543929 : UInt64)) 27)) * (10723151780598845931 : UInt64)) 31)) rfl rfl) ?_
 refine o_as rfl rfl ?_
 refine o_nil (q_then (c_ret ?_))
 refine q_end0 (v := .int .u64 ((((((n ^^^ (shrU n 30)) * (13787848793156543929 : UInt64)) ^^^ (shrU ((n ^^^ (shrU n 30)) * (13787848793156543929 : UInt64)) 27)) * (10723151780598845931 : UInt64)) ^^^ (shrU ((((n ^^^ (shrU n 30)) * (13787848793156543929 : UInt64)) ^^^ (shrU ((n ^^^ (shrU n 30)) * (13787848793156543929 : UInt64)) 27)) * (10723151780598845931 : UInt64)) 31)).toNat : Int)) (rt1 rfl (r_tmp rfl)) (i := 0) rfl ?_
 rfl

set_option maxHeartbeats 8000000 in
set_option maxRecDepth 100000 in
theorem raw_ok (s : ByteArray) : Fn0 Try.prog 136 [.string s] (fun w => s.size ≤ 9223372036854775807) (.int .u64 ((Hash.raw s).toNat : Int)) := by
 refine fn0 (nt := 19) (F0 := [(0, .string s)]) Try.func136 rfl Try.ntmps136 rfl rfl (fun w0 hpre => ?_)
 have hs := hpre
 refine c_seq (c_region ?_)
 refine o_as rfl rfl ?_
 refine o_nil (q_then (c_seq (c_region ?_)))
 refine o_as rfl rfl ?_
 refine o_nil (q_then (c_seq (c_seq (c_region ?_))))
 refine o_mv rfl rfl ?_
 refine o_p (p_len_string rfl rfl Try.underlying9) ?_
 refine o_mv rfl rfl ?_
 refine o_nil (q_then (c_block ?_))
 refine c_loop (St := UInt64 × Nat)
  (fun ⟨n, k⟩ => [(0, .string s), (3, .int .u64 (n.toNat : Int)), (6, Vi (s.size : Int)), (7, Vi (k : Int))])
  (fun ⟨n, k⟩ => [base w0])
  (fun ⟨n, k⟩ => k ≤ s.size ∧ n = Hash.rawTo s k)
  (fun ⟨n, k⟩ => s.size - k)
  ((14695981039346656037 : UInt64), 0) ?_ (sr (sr (sr (sr (Sub.nil _))))) (fun _ hw => hw) ?_
 ·exact ⟨Nat.zero_le _, rfl⟩
 rintro ⟨n, k⟩ hI K hK1
 obtain ⟨hk, ho⟩ := hI
 show SC _ _ Try.prog 19 w0 _ _ [(0, .string s), (3, .int .u64 (n.toNat : Int)), (6, Vi (s.size : Int)), (7, Vi (k : Int))] [base w0]
 refine c_seq (c_region ?_)
 refine o_p (p_lt rfl rfl) ?_
 refine o_nil (q_then (c_seq ?_))
 refine c_cond rfl (fun hc2 => ?_) (fun hc2 => ?_)
 ·simp only [decide_eq_true_eq] at hc2
  refine c_skip (q_then (c_seq (c_block (c_seq (c_region ?_)))))
  refine o_mv rfl rfl ?_
  refine o_as rfl rfl ?_
  refine o_nil (q_then (c_region ?_))
  refine o_mv rfl rfl ?_
  refine o_mv rfl rfl ?_
  refine o_mv rfl rfl ?_
  refine o_p (p_indexStr (z := (k : Int)) (i := k) rfl rfl Try.underlying9 (by omega) (by omega)) ?_
  refine o_p (pu_convB (c := (byteAt s k)) rfl Try.underlying5 Try.underlying100) ?_
  refine o_p (pu_xor (p := n) (q := (byteAt s k).toUInt64) rfl rfl) ?_
  refine o_p (pu_mul (p := (n ^^^ (byteAt s k).toUInt64)) (q := (1099511628211 : UInt64)) rfl rfl) ?_
  refine o_as rfl rfl ?_
  refine o_nil ?_
  refine q_block_normal (q_then ?_)
  refine c_region ?_
  refine o_p (p_addb rfl rfl (by omega)) ?_
  refine o_mv rfl rfl ?_
  refine o_nil ?_
  refine q_round hK1 (((n ^^^ (byteAt s k).toUInt64) * (1099511628211 : UInt64)), k + 1) ?_ ?_ ?_ ?_
  ·clear hK1
   exact ⟨by omega, by rw [ho]; rfl⟩
  ·(try dsimp only); omega
  ·exact sr (sr (sr (sr (Sub.nil _))))
  ·exact pk [0]
 ·simp only [decide_eq_false_iff_not, Int.not_lt] at hc2
  refine c_exit ?_
  refine q_then_exit (q_then_exit (q_block_exit (q_then ?_)))
  refine c_seq (c_region ?_)
  refine o_mv rfl rfl ?_
  refine o_as rfl rfl ?_
  refine o_nil (q_then (c_ret ?_))
  refine q_end0 (v := .int .u64 (n.toNat : Int)) (rt1 rfl (r_tmp rfl)) (i := 0) rfl ?_
  rw [show n = Hash.raw s by unfold Hash.raw; rw [ho]; congr 1; omega]

set_option maxHeartbeats 8000000 in
set_option maxRecDepth 100000 in
theorem rawFold_ok (n : UInt64) (most : Int) : Fn0 Try.prog 98 [.int .u64 (n.toNat : Int), Vi most] (fun _ => True) (Vi (Hash.rawFold n most)) := by
 refine fn0 (nt := 12) (F0 := [(0, .int .u64 (n.toNat : Int)), (1, Vi most)]) Try.func98 rfl Try.ntmps98 rfl rfl (fun w0 hpre => ?_)
 refine c_seq (c_region ?_)
 refine o_as rfl rfl ?_
 refine o_nil (q_then (c_seq (c_region ?_)))
 refine o_mv rfl rfl ?_
 refine o_p (pu_shr (p := n) (m := 32) rfl rfl (by decide)) ?_
 refine o_mv rfl rfl ?_
 refine o_p (pu_conv (z := most) rfl Try.underlying3 Try.underlying100) ?_
 refine o_p (pu_mul (p := (shrU n 32)) (q := (toU most)) rfl rfl) ?_
 refine o_p (pu_shr (p := ((shrU n 32) * (toU most))) (m := 32) rfl rfl (by decide)) ?_
 refine o_p (p_conv (z := ((shrU ((shrU n 32) * (toU most)) 32).toNat : Int)) rfl Try.underlying100 Try.underlying3) ?_
 refine o_as rfl rfl ?_
 refine o_nil (q_then (c_ret ?_))
 refine q_end0 (v := Vi (IntKind.i64.wrap ((shrU ((shrU n 32) * (toU most)) 32).toNat : Int))) (rt1 rfl (r_tmp rfl)) (i := 0) rfl ?_
 rfl

set_option maxHeartbeats 8000000 in
set_option maxRecDepth 100000 in
theorem sumN_ok (s : ByteArray) : Fn0 Try.prog 94 [.string s] (fun _ => True) (.tuple #[.int .u64 ((Hash.sum s).toNat : Int), Vi (Hash.sumErr s)]) := by
 refine fn0 (nt := 9) (F0 := [(0, .string s)]) Try.func94 rfl Try.ntmps94 rfl rfl (fun w0 hpre => ?_)
 refine c_seq (c_region ?_)
 refine o_as rfl rfl ?_
 refine o_as rfl rfl ?_
 refine o_nil (q_then (c_seq (c_seq (c_region ?_))))
 refine o_mv rfl rfl ?_
 refine o_p (p_len_string rfl rfl Try.underlying9) ?_
 refine o_p (p_gt rfl rfl) ?_
 refine o_nil (q_then ?_)
 refine c_cond rfl (fun hc1 => ?_) (fun hc1 => ?_)
 ·simp only [decide_eq_true_eq] at hc1
  refine c_seq (c_region ?_)
  refine o_as rfl rfl ?_
  refine o_as rfl rfl ?_
  refine o_nil (q_then (c_ret ?_))
  refine q_then_ret ?_
  have hr0 : ((0 : UInt64) : UInt64) = (Hash.sum s) := by
   first | rw [show Hash.sum s = 0 from if_pos (by omega), show Hash.sumErr s = 2 from if_pos (by omega)] | rw [show Hash.sum s = Hash.raw s from if_neg (by omega)] | rw [show Hash.sumErr s = 0 from if_neg (by omega)] | exact (if_pos (by omega)).symm | exact (if_neg (by omega)).symm
  have hr1 : (2 : Int) = (Hash.sumErr s) := by
   first | rw [show Hash.sum s = 0 from if_pos (by omega), show Hash.sumErr s = 2 from if_pos (by omega)] | rw [show Hash.sum s = Hash.raw s from if_neg (by omega)] | rw [show Hash.sumErr s = 0 from if_neg (by omega)] | exact (if_pos (by omega)).symm | exact (if_neg (by omega)).symm
  refine q_end0 (v := .tuple #[.int .u64 ((0 : UInt64).toNat : Int), Vi 2]) (rt2 rfl (r_tmp rfl) (r_tmp rfl)) (i := 0) rfl ?_
  exact (by have hcc := congr (congrArg (fun (y0 : UInt64) (y1 : Int) => (.tuple #[.int .u64 (y0.toNat : Int), .int .i64 y1] : Value)) hr0) hr1; exact hcc)
 ·simp only [decide_eq_false_iff_not, Int.not_lt] at hc1
  refine c_skip (q_then (c_seq (c_region ?_)))
  refine o_mv rfl rfl ?_
  refine o_call0 (v := .int .u64 ((Hash.raw s).toNat : Int)) rfl (raw_ok s) hf136 (fun w hw => (by first | assumption | omega | decide | (rw [ByteArray.size_append]; omega) | simp)) rfl ?_
  refine o_as rfl rfl ?_
  refine o_as rfl rfl ?_
  refine o_nil (q_then (c_ret ?_))
  have hr0 : ((Hash.raw s) : UInt64) = (Hash.sum s) := by
   first | rw [show Hash.sum s = 0 from if_pos (by omega), show Hash.sumErr s = 2 from if_pos (by omega)] | rw [show Hash.sum s = Hash.raw s from if_neg (by omega)] | rw [show Hash.sumErr s = 0 from if_neg (by omega)] | exact (if_pos (by omega)).symm | exact (if_neg (by omega)).symm
  have hr1 : (0 : Int) = (Hash.sumErr s) := by
   first | rw [show Hash.sum s = 0 from if_pos (by omega), show Hash.sumErr s = 2 from if_pos (by omega)] | rw [show Hash.sum s = Hash.raw s from if_neg (by omega)] | rw [show Hash.sumErr s = 0 from if_neg (by omega)] | exact (if_pos (by omega)).symm | exact (if_neg (by omega)).symm
  refine q_end0 (v := .tuple #[.int .u64 ((Hash.raw s).toNat : Int), Vi 0]) (rt2 rfl (r_tmp rfl) (r_tmp rfl)) (i := 0) rfl ?_
  exact (by have hcc := congr (congrArg (fun (y0 : UInt64) (y1 : Int) => (.tuple #[.int .u64 (y0.toNat : Int), .int .i64 y1] : Value)) hr0) hr1; exact hcc)

set_option maxHeartbeats 8000000 in
set_option maxRecDepth 100000 in
theorem saltedN_ok (s : ByteArray) (salt : UInt64) : Fn0 Try.prog 97 [.string s, .int .u64 (salt.toNat : Int)] (fun _ => True) (.tuple #[.int .u64 ((Hash.salted s salt).toNat : Int), Vi (Hash.sumErr s)]) := by
 refine fn0 (nt := 20) (F0 := [(0, .string s), (1, .int .u64 (salt.toNat : Int))]) Try.func97 rfl Try.ntmps97 rfl rfl (fun w0 hpre => ?_)
 refine c_seq (c_region ?_)
 refine o_as rfl rfl ?_
 refine o_as rfl rfl ?_
 refine o_nil (q_then (c_seq (c_region ?_)))
 refine o_mv rfl rfl ?_
 refine o_call0 (v := .tuple #[.int .u64 ((Hash.sum s).toNat : Int), Vi (Hash.sumErr s)]) rfl (sumN_ok s) hf94 (fun _ _ => trivial) rfl ?_
 refine o_mv rfl rfl ?_
 refine o_ex rfl rfl rfl ?_
 refine o_ex rfl rfl rfl ?_
 refine o_as rfl rfl ?_
 refine o_as rfl rfl ?_
 refine o_nil (q_then (c_seq (c_seq (c_region ?_))))
 refine o_mv rfl rfl ?_
 refine o_p (p_ne rfl rfl) ?_
 refine o_nil (q_then ?_)
 refine c_cond rfl (fun hc1 => ?_) (fun hc1 => ?_)
 ·simp only [bne_iff_ne, ne_eq] at hc1
  refine c_seq (c_region ?_)
  refine o_mv rfl rfl ?_
  refine o_as rfl rfl ?_
  refine o_as rfl rfl ?_
  refine o_nil (q_then (c_ret ?_))
  refine q_then_ret ?_
  have hr0 : ((0 : UInt64) : UInt64) = (Hash.salted s salt) := by
   first | exact (if_neg (by assumption)).symm | exact (if_pos (by assumption)).symm | (symm; assumption)
  refine q_end0 (v := .tuple #[.int .u64 ((0 : UInt64).toNat : Int), Vi (Hash.sumErr s)]) (rt2 rfl (r_tmp rfl) (r_tmp rfl)) (i := 0) rfl ?_
  exact (by have hcc := congrArg (fun (y0 : UInt64) => (.tuple #[.int .u64 (y0.toNat : Int), Vi (Hash.sumErr s)] : Value)) hr0; exact hcc)
 ·simp only [bne_eq_false_iff_eq] at hc1
  refine c_skip (q_then (c_seq (c_region ?_)))
  refine o_mv rfl rfl ?_
  refine o_mv rfl rfl ?_
  refine o_p (pu_xor (p := (Hash.sum s)) (q := salt) rfl rfl) ?_
  refine o_call0 (v := .int .u64 ((Hash.mix ((Hash.sum s) ^^^ salt)).toNat : Int)) rfl (mix_ok ((Hash.sum s) ^^^ salt)) hf137 (fun _ _ => trivial) rfl ?_
  refine o_as rfl rfl ?_
  refine o_as rfl rfl ?_
  refine o_nil (q_then (c_ret ?_))
  have hr0 : ((Hash.mix ((Hash.sum s) ^^^ salt)) : UInt64) = (Hash.salted s salt) := by
   first | exact (if_neg (by assumption)).symm | exact (if_pos (by assumption)).symm | (symm; assumption)
  have hr1 : (0 : Int) = (Hash.sumErr s) := by
   first | exact (if_neg (by assumption)).symm | exact (if_pos (by assumption)).symm | (symm; assumption)
  refine q_end0 (v := .tuple #[.int .u64 ((Hash.mix ((Hash.sum s) ^^^ salt)).toNat : Int), Vi 0]) (rt2 rfl (r_tmp rfl) (r_tmp rfl)) (i := 0) rfl ?_
  exact (by have hcc := congr (congrArg (fun (y0 : UInt64) (y1 : Int) => (.tuple #[.int .u64 (y0.toNat : Int), .int .i64 y1] : Value)) hr0) hr1; exact hcc)

set_option maxHeartbeats 8000000 in
set_option maxRecDepth 100000 in
theorem ssum_ok (l : List Int) (al : Option Addr) (cl : Nat) (hy1 : l.length ≤ 64 ∧ ∀ n ∈ l, 0 ≤ n ∧ n ≤ 1099511627776) : Fn0 Try.prog 58 [.slice al l.length cl] (fun w => Rd tInt w al cl l) (Vi (Sk.sum l)) := by
 refine fn0 (nt := 16) (F0 := [(0, .slice al l.length cl)]) Try.func58 rfl Try.ntmps58 rfl rfl (fun w0 hpre => ?_)
 have hl := hpre
 have hlhl := hl.2.1
 refine c_seq (c_region ?_)
 refine o_as rfl rfl ?_
 refine o_nil (q_then (c_seq (c_seq (c_region ?_))))
 refine o_mv rfl rfl ?_
 refine o_p (p_len_slice rfl rfl Try.underlying37) ?_
 refine o_mv rfl rfl ?_
 refine o_nil (q_then (c_block ?_))
 refine c_loop (St := Int × Nat)
  (fun ⟨all, k⟩ => [(2, Vi all), (5, .slice al l.length cl), (6, Vi (l.length : Int)), (7, Vi (k : Int))])
  (fun ⟨all, k⟩ => [base w0])
  (fun ⟨all, k⟩ => k ≤ l.length ∧ all = Sk.sum (l.take k))
  (fun ⟨all, k⟩ => l.length - k)
  (0, 0) ?_ (sr (sr (sr (sr (Sub.nil _))))) (fun _ hw => hw) ?_
 ·exact ⟨Nat.zero_le _, rfl⟩
 rintro ⟨all, k⟩ hI K hK1
 show SC _ _ Try.prog 16 w0 _ _ [(2, Vi all), (5, .slice al l.length cl), (6, Vi (l.length : Int)), (7, Vi (k : Int))] [base w0]
 refine c_seq (c_region ?_)
 refine o_p (p_lt rfl rfl) ?_
 refine o_nil (q_then (c_seq ?_))
 refine c_cond rfl (fun hc2 => ?_) (fun hc2 => ?_)
 ·simp only [decide_eq_true_eq] at hc2
  have hel := Sk.el_bd hy1.2 (show k < l.length by omega)
  have htb := Sk.take_bd hy1.2 k
  refine c_skip (q_then (c_seq (c_block (c_seq (c_region ?_)))))
  refine o_p (p_indexAddr (L := l) (T := tInt) (i := (k : Int)) rfl rfl (rd_base (i := 0) rfl hl) Try.underlying37 sz3 (by omega) (by omega)) ?_
  refine o_p (p_loadE1 (i := k) (T := tInt) (L := l) (v := Vi (l.getD k default)) rfl (rd_base (i := 0) rfl hl) (by first | assumption | omega) sh3 (congrArg tInt.enc (getd_at (by first | assumption | omega) default))) ?_
  refine o_as rfl rfl ?_
  refine o_nil (q_then (c_region ?_))
  refine o_mv rfl rfl ?_
  refine o_mv rfl rfl ?_
  refine o_p (p_addb rfl rfl (by omega)) ?_
  refine o_as rfl rfl ?_
  refine o_nil ?_
  refine q_block_normal (q_then ?_)
  refine c_region ?_
  refine o_p (p_addb rfl rfl (by omega)) ?_
  refine o_mv rfl rfl ?_
  refine o_nil ?_
  refine q_round hK1 ((all + (l.getD k default)), k + 1) ?_ ?_ ?_ ?_
  ·clear hK1
   exact ⟨by omega, by rw [Sk.sum_take (by omega), hI.2]⟩
  ·(try dsimp only); omega
  ·exact sr (sr (sr (sr (Sub.nil _))))
  ·exact pk [0]
 ·simp only [decide_eq_false_iff_not, Int.not_lt] at hc2
  refine c_exit ?_
  refine q_then_exit (q_then_exit (q_block_exit (q_then ?_)))
  refine c_seq (c_region ?_)
  refine o_mv rfl rfl ?_
  refine o_as rfl rfl ?_
  refine o_nil (q_then (c_ret ?_))
  have hr0 : (all : Int) = (Sk.sum l) := by
   (rw [hI.2]; exact Sk.take_all (by omega))
  refine q_end0 (v := Vi all) (rt1 rfl (r_tmp rfl)) (i := 0) rfl ?_
  exact (by have hcc := congrArg (fun (y0 : Int) => (.int .i64 y0 : Value)) hr0; exact hcc)

set_option maxHeartbeats 8000000 in
set_option maxRecDepth 100000 in
theorem srow1_ok (n : Int) : Fn0 Try.prog 104 [Vi n] (fun _ => True) (.bool (!Sk.okN n)) := by
 refine fn0 (nt := 9) (F0 := [(0, Vi n)]) Try.func104 rfl Try.ntmps104 rfl rfl (fun w0 hpre => ?_)
 refine c_seq (c_region ?_)
 refine o_as rfl rfl ?_
 refine o_nil (q_then (c_seq (c_region ?_)))
 refine o_mv rfl rfl ?_
 refine o_p (p_lt rfl rfl) ?_
 refine o_mv rfl rfl ?_
 refine o_or (p := 8) 3 (decide (1099511627776 < n)) ?_ ?_ ?_
 ·intro hb1 hk
  simp only [decide_eq_false_iff_not, Int.not_lt] at hb1
  refine o_unguard 5 rfl rfl ?_
  refine o_mv rfl rfl ?_
  refine o_unguard 5 rfl rfl ?_
  refine o_p (p_gt rfl rfl) ?_
  refine o_pf rfl rfl rfl ?_
  exact o_sub (sr (Sub.skip rfl (Sub.skip rfl (Sub.skip rfl (Sub.skip rfl (Sub.refl _)))))) hk
 ·intro hb1 hk
  refine o_guard_no rfl 5 rfl rfl rfl rfl rfl ?_
  refine o_guard_no rfl 5 rfl rfl rfl rfl rfl ?_
  refine o_pt rfl rfl rfl ?_
  exact o_sub (sr (Sub.skip rfl (Sub.skip rfl (Sub.skip rfl (Sub.skip rfl (Sub.refl _)))))) hk
 refine o_as rfl rfl ?_
 refine o_nil (q_then (c_ret ?_))
 have hr0 : ((decide (n < 0) || decide (1099511627776 < n)) : Bool) = (!Sk.okN n) := by
  first | (simp only [Sk.okN]; rw [Bool.eq_iff_iff]; simp; done) | (simp only [Sk.okN]; rw [Bool.eq_iff_iff]; simp; omega)
 refine q_end0 (v := .bool (decide (n < 0) || decide (1099511627776 < n))) (rt1 rfl (r_tmp rfl)) (i := 0) rfl ?_
 exact (by have hcc := congrArg (fun (y0 : Bool) => (.bool y0 : Value)) hr0; exact hcc)

set_option maxHeartbeats 8000000 in
set_option maxRecDepth 100000 in
theorem indexFunc_Int_ok (l : List Int) (al : Option Addr) (cl : Nat) (gf : FuncId) (kf : List Value) (f : Int → Bool) (Pf : World → Prop) (stf : ∀ w w', Below w.heap.size w w' → Pf w → Pf w') (okf : ∀ (x : Int), Fn0 Try.prog gf (Vi x :: kf) Pf (.bool (f x))) (hpf : HasFn Try.prog gf) : Fn0 Try.prog 139 [.slice al l.length cl, .func (.func gf) #[] kf.toArray] (fun w => Rd tInt w al cl l ∧ Pf w) (Vi (idxF f l)) := by
 refine fn0 (nt := 19) (F0 := [(0, .slice al l.length cl), (1, .func (.func gf) #[] kf.toArray)]) Try.func139 rfl Try.ntmps139 rfl rfl (fun w0 hpre => ?_)
 obtain ⟨hl, hf⟩ := hpre
 have hlhl := hl.2.1
 refine c_seq (c_region ?_)
 refine o_as rfl rfl ?_
 refine o_nil (q_then (c_seq (c_seq (c_region ?_))))
 refine o_mv rfl rfl ?_
 refine o_p (p_len_slice rfl rfl Try.underlying37) ?_
 refine o_mv rfl rfl ?_
 refine o_nil (q_then (c_block ?_))
 refine c_loop (St := Nat)
  (fun k => [(0, .slice al l.length cl), (1, .func (.func gf) #[] kf.toArray), (7, Vi (l.length : Int)), (8, Vi (k : Int))])
  (fun k => [base w0])
  (fun k => k ≤ l.length ∧ ∀ j (h : j < l.length), j < k → f l[j] = false)
  (fun k => l.length - k)
  0 ?_ (sr (sr (sr (sr (Sub.nil _))))) (fun _ hw => hw) ?_
 ·exact ⟨Nat.zero_le _, fun j _ h => absurd h (by omega)⟩
 rintro k hI K hK1
 obtain ⟨hI1, hI2⟩ := hI
 show SC _ _ Try.prog 19 w0 _ _ [(0, .slice al l.length cl), (1, .func (.func gf) #[] kf.toArray), (7, Vi (l.length : Int)), (8, Vi (k : Int))] [base w0]
 refine c_seq (c_region ?_)
 refine o_p (p_lt rfl rfl) ?_
 refine o_nil (q_then (c_seq ?_))
 refine c_cond rfl (fun hc2 => ?_) (fun hc2 => ?_)
 ·simp only [decide_eq_true_eq] at hc2
  refine c_skip (q_then (c_seq (c_block (c_seq (c_region ?_)))))
  refine o_mv rfl rfl ?_
  refine o_as rfl rfl ?_
  refine o_nil (q_then (c_seq (c_region ?_)))
  refine o_mv rfl rfl ?_
  refine o_mv rfl rfl ?_
  refine o_mv rfl rfl ?_
  refine o_p (p_indexAddr (L := l) (T := tInt) (i := (k : Int)) rfl rfl (rd_base (i := 0) rfl hl) Try.underlying37 sz3 (by omega) (by omega)) ?_
  refine o_p (p_loadE1 (i := k) (T := tInt) (L := l) (v := Vi (l[k])) rfl (rd_base (i := 0) rfl hl) (by first | assumption | omega) sh3 rfl) ?_
  refine o_call0V (vs := [Vi (l[k])]) (caps := kf) (v := .bool (f (l[k]))) rfl rfl (okf (l[k])) hpf (pre_base (i := 0) rfl stf hf) rfl ?_
  refine o_nil (q_then ?_)
  refine c_cond rfl (fun hc3 => ?_) (fun hc3 => ?_)
  ·skip
   refine c_seq (c_region ?_)
   refine o_mv rfl rfl ?_
   refine o_as rfl rfl ?_
   refine o_nil (q_then (c_ret ?_))
   refine q_block_ret (q_then_ret (q_then_ret (q_block_ret (q_then_ret ?_))))
   have hr0 : ((k : Int) : Int) = (idxF f l) := by
    first | exact idxF_found (by omega) (by assumption) hI2 | exact idxF_none (fun j h => hI2 j h (by omega))
   refine q_end0 (v := Vi (k : Int)) (rt1 rfl (r_tmp rfl)) (i := 0) rfl ?_
   exact (by have hcc := congrArg (fun (y0 : Int) => (.int .i64 y0 : Value)) hr0; exact hcc)
  ·skip
   refine c_skip ?_
   refine q_block_normal (q_then ?_)
   refine c_region ?_
   refine o_p (p_addb rfl rfl (by omega)) ?_
   refine o_mv rfl rfl ?_
   refine o_nil ?_
   refine q_round hK1 (k + 1) ?_ ?_ ?_ ?_
   ·clear hK1
    refine ⟨by omega, fun j h h2 => ?_⟩
    by_cases e : j = k
    ·subst e; assumption
    ·exact hI2 j h (by omega)
   ·(try dsimp only); omega
   ·exact sr (sr (sr (sr (Sub.nil _))))
   ·exact pk [0]
 ·simp only [decide_eq_false_iff_not, Int.not_lt] at hc2
  refine c_exit ?_
  refine q_then_exit (q_then_exit (q_block_exit (q_then ?_)))
  refine c_seq (c_region ?_)
  refine o_as rfl rfl ?_
  refine o_nil (q_then (c_ret ?_))
  have hr0 : ((-1) : Int) = (idxF f l) := by
   first | exact idxF_found (by omega) (by assumption) hI2 | exact idxF_none (fun j h => hI2 j h (by omega))
  refine q_end0 (v := Vi (-1)) (rt1 rfl (r_tmp rfl)) (i := 0) rfl ?_
  exact (by have hcc := congrArg (fun (y0 : Int) => (.int .i64 y0 : Value)) hr0; exact hcc)

set_option maxHeartbeats 8000000 in
set_option maxRecDepth 100000 in
theorem containsFunc_Int_ok (l : List Int) (al : Option Addr) (cl : Nat) (gf : FuncId) (kf : List Value) (f : Int → Bool) (Pf : World → Prop) (stf : ∀ w w', Below w.heap.size w w' → Pf w → Pf w') (okf : ∀ (x : Int), Fn0 Try.prog gf (Vi x :: kf) Pf (.bool (f x))) (hpf : HasFn Try.prog gf) : Fn0 Try.prog 103 [.slice al l.length cl, .func (.func gf) #[] kf.toArray] (fun w => Rd tInt w al cl l ∧ Pf w) (.bool (l.any f)) := by
 refine fn0 (nt := 9) (F0 := [(0, .slice al l.length cl), (1, .func (.func gf) #[] kf.toArray)]) Try.func103 rfl Try.ntmps103 rfl rfl (fun w0 hpre => ?_)
 obtain ⟨hl, hf⟩ := hpre
 have hlhl := hl.2.1
 refine c_seq (c_region ?_)
 refine o_as rfl rfl ?_
 refine o_nil (q_then (c_seq (c_region ?_)))
 refine o_mv rfl rfl ?_
 refine o_mv rfl rfl ?_
 refine o_call0 (v := Vi (idxF f l)) rfl (indexFunc_Int_ok l al cl gf kf f Pf stf okf hpf) hf139 (fun w hw => ⟨(rd_base (i := 0) rfl hl) w hw, pre_base (i := 0) rfl stf hf w hw⟩) rfl ?_
 refine o_p (p_ge rfl rfl) ?_
 refine o_as rfl rfl ?_
 refine o_nil (q_then (c_ret ?_))
 have hr0 : (decide (0 ≤ (idxF f l)) : Bool) = (l.any f) := by
  exact (any_idxF f l).symm
 refine q_end0 (v := .bool (decide (0 ≤ (idxF f l)))) (rt1 rfl (r_tmp rfl)) (i := 0) rfl ?_
 exact (by have hcc := congrArg (fun (y0 : Bool) => (.bool y0 : Value)) hr0; exact hcc)

set_option maxHeartbeats 8000000 in
set_option maxRecDepth 100000 in
theorem srow_ok (l : List Int) (al : Option Addr) (cl : Nat) (wide : Int) : Fn0 Try.prog 63 [.slice al l.length cl, Vi wide] (fun w => Rd tInt w al cl l) (Vi (Sk.rowErr l wide)) := by
 refine fn0 (nt := 13) (F0 := [(0, .slice al l.length cl), (1, Vi wide)]) Try.func63 rfl Try.ntmps63 rfl rfl (fun w0 hpre => ?_)
 have hl := hpre
 have hlhl := hl.2.1
 refine c_seq (c_region ?_)
 refine o_as rfl rfl ?_
 refine o_nil (q_then (c_seq (c_block (c_seq (c_region ?_)))))
 refine o_mv rfl rfl ?_
 refine o_p (p_len_slice rfl rfl Try.underlying37) ?_
 refine o_mv rfl rfl ?_
 refine o_p (p_ne rfl rfl) ?_
 refine o_as rfl rfl ?_
 refine o_nil (q_then ?_)
 refine c_cond rfl (fun hc1 => ?_) (fun hc1 => ?_)
 ·simp only [bne_iff_ne, ne_eq] at hc1
  refine c_seq (c_region ?_)
  refine o_as rfl rfl ?_
  refine o_nil (q_then (c_ret ?_))
  refine q_block_ret (q_then_ret ?_)
  have hr0 : (1 : Int) = (Sk.rowErr l wide) := by
   first | exact (Sk.row1 (by assumption)).symm | exact (Sk.row2 (by omega) (by assumption)).symm | exact (Sk.row3 (by omega) (by assumption)).symm
  refine q_end0 (v := Vi 1) (rt1 rfl (r_tmp rfl)) (i := 0) rfl ?_
  exact (by have hcc := congrArg (fun (y0 : Int) => (.int .i64 y0 : Value)) hr0; exact hcc)
 ·simp only [bne_eq_false_iff_eq] at hc1
  refine c_seq (c_region ?_)
  refine o_mv rfl rfl ?_
  refine o_call0 (v := .bool (l.any (fun x : Int => (!Sk.okN x)))) rfl (containsFunc_Int_ok l al cl 104 [] (fun x => (!Sk.okN x)) (fun _ => True) (fun _ _ _ h => h) (fun x => srow1_ok x) hf104) hf103 (fun w hw => ⟨(rd_base (i := 0) rfl hl) w hw, trivial⟩) rfl ?_
  refine o_as rfl rfl ?_
  refine o_nil (q_then ?_)
  refine c_cond rfl (fun hc2 => ?_) (fun hc2 => ?_)
  ·skip
   refine c_seq (c_region ?_)
   refine o_as rfl rfl ?_
   refine o_nil (q_then (c_ret ?_))
   refine q_block_ret (q_then_ret ?_)
   have hr0 : (3 : Int) = (Sk.rowErr l wide) := by
    first | exact (Sk.row1 (by assumption)).symm | exact (Sk.row2 (by omega) (by assumption)).symm | exact (Sk.row3 (by omega) (by assumption)).symm
   refine q_end0 (v := Vi 3) (rt1 rfl (r_tmp rfl)) (i := 0) rfl ?_
   exact (by have hcc := congrArg (fun (y0 : Int) => (.int .i64 y0 : Value)) hr0; exact hcc)
  ·skip
   refine c_skip ?_
   refine q_block_normal (q_then ?_)
   refine c_seq (c_region ?_)
   refine o_as rfl rfl ?_
   refine o_nil (q_then (c_ret ?_))
   have hr0 : (0 : Int) = (Sk.rowErr l wide) := by
    first | exact (Sk.row1 (by assumption)).symm | exact (Sk.row2 (by omega) (by assumption)).symm | exact (Sk.row3 (by omega) (by assumption)).symm
   refine q_end0 (v := Vi 0) (rt1 rfl (r_tmp rfl)) (i := 0) rfl ?_
   exact (by have hcc := congrArg (fun (y0 : Int) => (.int .i64 y0 : Value)) hr0; exact hcc)

set_option maxHeartbeats 8000000 in
set_option maxRecDepth 100000 in
theorem even1_ok (l : List Int) (al : Option Addr) (cl : Nat) (Brows : Nat) (rows : List (List Int)) (arows : Option Addr) (crows : NC) (hy1 : Sk.Vals rows ∧ 1 ≤ rows.length) (hy2 : l.length ≤ 64 ∧ ∀ n ∈ l, 0 ≤ n ∧ n ≤ 1099511627776) : Fn0 Try.prog 100 [.slice al l.length cl, .pointer (some ⟨Brows, 0, none⟩)] (fun w => Rd tInt w al cl l ∧ RdN tInt w arows crows rows ∧ (box Brows [.slice arows rows.length crows.n] 22).A w) (.bool (Sk.sum l != Sk.sum (rows.getD 0 []))) := by
 refine fn0 (nt := 11) (F0 := [(0, .slice al l.length cl), (1, .pointer (some ⟨Brows, 0, none⟩))]) Try.func100 rfl Try.ntmps100 rfl rfl (fun w0 hpre => ?_)
 obtain ⟨hl, hrows, hBrows⟩ := hpre
 have hlhl := hl.2.1
 have hlhrows := hrows.2.1
 refine c_seq (c_region ?_)
 refine o_as rfl rfl ?_
 refine o_nil (q_then (c_seq ?_))
 refine c_draw hmix (by kernel_rfl) ?_
 refine w_mv rfl rfl ?_
 refine w_call0 (v := Vi (Sk.sum l)) rfl (ssum_ok l al cl (by first | assumption | exact hy1.1.row (by omega) | exact hvals.row (by omega))) hf58 (fun w hw => (rd_base (i := 0) rfl hl) w hw) rfl ?_
 refine w_p (p_loadR (v := .slice arows rows.length crows.n) rfl (rbox_base (i := 0) rfl hBrows) sh22 rfl) ?_
 refine w_p (p_indexAddrN (T := tInt) (c := crows) (LL := rows) (i := 0) rfl rfl (rd_baseN (i := 0) rfl hrows) Try.underlying22 sz37 (by first | omega | decide) (by first | omega | decide)) ?_
 refine w_p (p_loadN (T := tInt) (c := crows) (LL := rows) (i := 0) rfl (rd_baseN (i := 0) rfl hrows) (by first | assumption | omega | decide) sh37) ?_
 refine w_call0 (v := Vi (Sk.sum (rows.getD 0 []))) rfl (ssum_ok (rows.getD 0 []) (crows.ra 0) (crows.rc 0) (by first | assumption | exact hy1.1.row (by omega) | exact hvals.row (by omega))) hf58 (fun w hw => (rd_rowN (i := 0) (rd_baseN (i := 0) rfl hrows) (by first | assumption | omega)) w hw) rfl ?_
 refine w_p (p_ne rfl rfl) ?_
 refine w_p (p_assign rfl) ?_
 refine w_nil (q_then (c_ret ?_))
 have hr0 : (((Sk.sum l) != (Sk.sum (rows.getD 0 []))) : Bool) = (Sk.sum l != Sk.sum (rows.getD 0 [])) := by
  first | rfl | simp
 refine q_end0 (v := .bool ((Sk.sum l) != (Sk.sum (rows.getD 0 [])))) (rt1 rfl (r_tmp rfl)) (i := 0) rfl ?_
 exact (by have hcc := congrArg (fun (y0 : Bool) => (.bool y0 : Value)) hr0; exact hcc)

set_option maxHeartbeats 8000000 in
set_option maxRecDepth 100000 in
theorem indexFunc_rows_ok (l : List (List Int)) (al : Option Addr) (cl : NC) (Brows : Nat) (rows : List (List Int)) (arows : Option Addr) (crows : NC) (hy1 : Sk.Vals rows ∧ 1 ≤ rows.length) (hy2 : Sk.Vals l) : Fn0 Try.prog 138 [.slice al l.length cl.n, .func (.func 100) #[] #[.pointer (some ⟨Brows, 0, none⟩)]] (fun w => RdN tInt w al cl l ∧ RdN tInt w arows crows rows ∧ (box Brows [.slice arows rows.length crows.n] 22).A w) (Vi (idxF (fun r => Sk.sum r != Sk.sum (rows.getD 0 [])) l)) := by
 refine fn0 (nt := 19) (F0 := [(0, .slice al l.length cl.n), (1, .func (.func 100) #[] #[.pointer (some ⟨Brows, 0, none⟩)])]) Try.func138 rfl Try.ntmps138 rfl rfl (fun w0 hpre => ?_)
 obtain ⟨hl, hrows, hBrows⟩ := hpre
 have hlhl := hl.2.1
 have hlhrows := hrows.2.1
 refine c_seq (c_region ?_)
 refine o_as rfl rfl ?_
 refine o_nil (q_then (c_seq (c_seq (c_region ?_))))
 refine o_mv rfl rfl ?_
 refine o_p (p_len_slice rfl rfl Try.underlying22) ?_
 refine o_mv rfl rfl ?_
 refine o_nil (q_then (c_block ?_))
 refine c_loop (St := Nat)
  (fun k => [(0, .slice al l.length cl.n), (1, .func (.func 100) #[] #[.pointer (some ⟨Brows, 0, none⟩)]), (7, Vi (l.length : Int)), (8, Vi (k : Int))])
  (fun k => [base w0])
  (fun k => k ≤ l.length ∧ ∀ j, j < k → (fun r => Sk.sum r != Sk.sum (rows.getD 0 [])) (l.getD j []) = false)
  (fun k => l.length - k)
  0 ?_ (sr (sr (sr (sr (Sub.nil _))))) (fun _ hw => hw) ?_
 ·exact ⟨Nat.zero_le _, fun j h => absurd h (Nat.not_lt_zero j)⟩
 rintro k hI K hK1
 obtain ⟨hI1, hI2⟩ := hI
 show SC _ _ Try.prog 19 w0 _ _ [(0, .slice al l.length cl.n), (1, .func (.func 100) #[] #[.pointer (some ⟨Brows, 0, none⟩)]), (7, Vi (l.length : Int)), (8, Vi (k : Int))] [base w0]
 refine c_seq (c_region ?_)
 refine o_p (p_lt rfl rfl) ?_
 refine o_nil (q_then (c_seq ?_))
 refine c_cond rfl (fun hc2 => ?_) (fun hc2 => ?_)
 ·simp only [decide_eq_true_eq] at hc2
  refine c_skip (q_then (c_seq (c_block (c_seq (c_region ?_)))))
  refine o_mv rfl rfl ?_
  refine o_as rfl rfl ?_
  refine o_nil (q_then (c_seq (c_region ?_)))
  refine o_mv rfl rfl ?_
  refine o_mv rfl rfl ?_
  refine o_mv rfl rfl ?_
  refine o_p (p_indexAddrN (T := tInt) (c := cl) (LL := l) (i := (k : Int)) rfl rfl (rd_baseN (i := 0) rfl hl) Try.underlying22 sz37 (by first | omega | decide) (by first | omega | decide)) ?_
  refine o_p (p_loadN (T := tInt) (c := cl) (LL := l) (i := k) rfl (rd_baseN (i := 0) rfl hl) (by first | assumption | omega | decide) sh37) ?_
  refine o_call0V (vs := [.slice (cl.ra k) (l.getD k []).length (cl.rc k)]) (caps := [.pointer (some ⟨Brows, 0, none⟩)]) (v := .bool (Sk.sum (l.getD k []) != Sk.sum (rows.getD 0 []))) rfl rfl (even1_ok (l.getD k []) (cl.ra k) (cl.rc k) Brows rows arows crows (by first | assumption | exact hy1) (by first | assumption | exact hy2.row (by omega))) hf100 (fun w hw => ⟨(rd_rowN (i := k) (rd_baseN (i := 0) rfl hl) (by first | assumption | omega)) w hw, (rd_baseN (i := 0) rfl hrows) w hw, rbox_base (i := 0) rfl hBrows w hw⟩) rfl ?_
  refine o_nil (q_then ?_)
  refine c_cond rfl (fun hc3 => ?_) (fun hc3 => ?_)
  ·simp only [bne_iff_ne, ne_eq] at hc3
   have hsm := hc3
   refine c_seq (c_region ?_)
   refine o_mv rfl rfl ?_
   refine o_as rfl rfl ?_
   refine o_nil (q_then (c_ret ?_))
   refine q_block_ret (q_then_ret (q_then_ret (q_block_ret (q_then_ret ?_))))
   have hr0 : ((k : Int) : Int) = (idxF (fun r => Sk.sum r != Sk.sum (rows.getD 0 [])) l) := by
    first | exact Sk.idx_found (f := (fun r => Sk.sum r != Sk.sum (rows.getD 0 []))) (by omega) (by simpa using hsm) hI2 | exact Sk.idx_none (f := (fun r => Sk.sum r != Sk.sum (rows.getD 0 []))) hI2 (by omega)
   refine q_end0 (v := Vi (k : Int)) (rt1 rfl (r_tmp rfl)) (i := 0) rfl ?_
   exact (by have hcc := congrArg (fun (y0 : Int) => (.int .i64 y0 : Value)) hr0; exact hcc)
  ·simp only [bne_eq_false_iff_eq] at hc3
   have hsm := hc3
   refine c_skip ?_
   refine q_block_normal (q_then ?_)
   refine c_region ?_
   refine o_p (p_addb rfl rfl (by omega)) ?_
   refine o_mv rfl rfl ?_
   refine o_nil ?_
   refine q_round hK1 (k + 1) ?_ ?_ ?_ ?_
   ·clear hK1
    exact ⟨by omega, Sk.idx_step (f := (fun r => Sk.sum r != Sk.sum (rows.getD 0 []))) hI2 (by simpa using hsm)⟩
   ·(try dsimp only); omega
   ·exact sr (sr (sr (sr (Sub.nil _))))
   ·exact pk [0]
 ·simp only [decide_eq_false_iff_not, Int.not_lt] at hc2
  refine c_exit ?_
  refine q_then_exit (q_then_exit (q_block_exit (q_then ?_)))
  refine c_seq (c_region ?_)
  refine o_as rfl rfl ?_
  refine o_nil (q_then (c_ret ?_))
  have hr0 : ((-1) : Int) = (idxF (fun r => Sk.sum r != Sk.sum (rows.getD 0 [])) l) := by
   first | exact Sk.idx_found (f := (fun r => Sk.sum r != Sk.sum (rows.getD 0 []))) (by omega) (by simpa using hsm) hI2 | exact Sk.idx_none (f := (fun r => Sk.sum r != Sk.sum (rows.getD 0 []))) hI2 (by omega)
  refine q_end0 (v := Vi (-1)) (rt1 rfl (r_tmp rfl)) (i := 0) rfl ?_
  exact (by have hcc := congrArg (fun (y0 : Int) => (.int .i64 y0 : Value)) hr0; exact hcc)

set_option maxHeartbeats 8000000 in
set_option maxRecDepth 100000 in
theorem containsFunc_rows_ok (l : List (List Int)) (al : Option Addr) (cl : NC) (Brows : Nat) (rows : List (List Int)) (arows : Option Addr) (crows : NC) (hy1 : Sk.Vals rows ∧ 1 ≤ rows.length) (hy2 : Sk.Vals l) : Fn0 Try.prog 99 [.slice al l.length cl.n, .func (.func 100) #[] #[.pointer (some ⟨Brows, 0, none⟩)]] (fun w => RdN tInt w al cl l ∧ RdN tInt w arows crows rows ∧ (box Brows [.slice arows rows.length crows.n] 22).A w) (.bool (l.any (fun r => Sk.sum r != Sk.sum (rows.getD 0 [])))) := by
 refine fn0 (nt := 9) (F0 := [(0, .slice al l.length cl.n), (1, .func (.func 100) #[] #[.pointer (some ⟨Brows, 0, none⟩)])]) Try.func99 rfl Try.ntmps99 rfl rfl (fun w0 hpre => ?_)
 obtain ⟨hl, hrows, hBrows⟩ := hpre
 have hlhl := hl.2.1
 have hlhrows := hrows.2.1
 refine c_seq (c_region ?_)
 refine o_as rfl rfl ?_
 refine o_nil (q_then (c_seq (c_region ?_)))
 refine o_mv rfl rfl ?_
 refine o_mv rfl rfl ?_
 refine o_call0 (v := Vi (idxF (fun r => Sk.sum r != Sk.sum (rows.getD 0 [])) l)) rfl (indexFunc_rows_ok l al cl Brows rows arows crows (by first | assumption) (by first | assumption)) hf138 (fun w hw => ⟨(rd_baseN (i := 0) rfl hl) w hw, (rd_baseN (i := 0) rfl hrows) w hw, rbox_base (i := 0) rfl hBrows w hw⟩) rfl ?_
 refine o_p (p_ge rfl rfl) ?_
 refine o_as rfl rfl ?_
 refine o_nil (q_then (c_ret ?_))
 have hr0 : (decide (0 ≤ (idxF (fun r => Sk.sum r != Sk.sum (rows.getD 0 [])) l)) : Bool) = (l.any (fun r => Sk.sum r != Sk.sum (rows.getD 0 []))) := by
  exact (any_idxF _ l).symm
 refine q_end0 (v := .bool (decide (0 ≤ (idxF (fun r => Sk.sum r != Sk.sum (rows.getD 0 [])) l)))) (rt1 rfl (r_tmp rfl)) (i := 0) rfl ?_
 exact (by have hcc := congrArg (fun (y0 : Bool) => (.bool y0 : Value)) hr0; exact hcc)

set_option maxHeartbeats 8000000 in
set_option maxRecDepth 100000 in
theorem seven_ok (rows : List (List Int)) (arows : Option Addr) (crows : NC) (hy1 : Sk.Vals rows ∧ 1 ≤ rows.length) : Fn0 Try.prog 57 [.slice arows rows.length crows.n] (fun w => RdN tInt w arows crows rows) (.bool (Sk.even rows)) := by
 refine fn0 (nt := 7) (F0 := [(0, .slice arows rows.length crows.n)]) Try.func57 rfl Try.ntmps57 rfl rfl (fun w0 hpre => ?_)
 have hrows := hpre
 have hlhrows := hrows.2.1
 refine c_seq (c_region ?_)
 refine o_box (v := .slice arows rows.length crows.n) rfl rfl (fun B1 => ?_)
 refine o_as rfl rfl ?_
 refine o_nil (q_then (c_seq (c_region ?_)))
 refine o_p (p_load (i := 0) (v := .slice arows rows.length crows.n) rfl rfl sh22 rfl) ?_
 refine o_p (p_makeFunc (vs := [.pointer (some ⟨B1, 0, none⟩)]) rfl) ?_
 refine o_call0 (v := .bool (rows.any (fun r => Sk.sum r != Sk.sum (rows.getD 0 [])))) rfl (containsFunc_rows_ok rows arows crows B1 rows arows crows (by first | assumption) (by first | assumption | exact hy1.1)) hf99 (fun w hw => ⟨(rd_baseN (i := 1) rfl hrows) w hw, (rd_baseN (i := 1) rfl hrows) w hw, (hw.at (i := 0) rfl).here⟩) rfl ?_
 refine o_p (p_not (b := (rows.any (fun r => Sk.sum r != Sk.sum (rows.getD 0 [])))) rfl) ?_
 refine o_as rfl rfl ?_
 refine o_nil (q_then (c_ret ?_))
 have hr0 : ((!(rows.any (fun r => Sk.sum r != Sk.sum (rows.getD 0 [])))) : Bool) = (Sk.even rows) := by
  rfl
 refine q_end0 (v := .bool (!(rows.any (fun r => Sk.sum r != Sk.sum (rows.getD 0 []))))) (rt1 rfl (r_tmp rfl)) (i := 1) rfl ?_
 exact (by have hcc := congrArg (fun (y0 : Bool) => (.bool y0 : Value)) hr0; exact hcc)

set_option maxHeartbeats 8000000 in
set_option maxRecDepth 100000 in
theorem scheck_ok (s : DSketch) (as_0 : Option Addr) (cs_0 : NC) : Fn0 Try.prog 26 [.agg #[Vi s.wide, .slice as_0 s.counts.length cs_0.n]] (fun w => RdN tInt w as_0 cs_0 s.counts) (Vi (Sk.check s)) := by
 refine fn0 (nt := 44) (F0 := [(0, .agg #[Vi s.wide, .slice as_0 s.counts.length cs_0.n])]) Try.func26 rfl Try.ntmps26 rfl rfl (fun w0 hpre => ?_)
 have hs_0 := hpre
 have hlhs_0 := hs_0.2.1
 refine c_seq (c_region ?_)
 refine o_box (v := .agg #[Vi s.wide, .slice as_0 s.counts.length cs_0.n]) rfl rfl (fun B1 => ?_)
 refine o_as rfl rfl ?_
 refine o_nil (q_then (c_seq (c_block (c_seq (c_region ?_)))))
 refine o_p (p_fieldAddr (j' := 1) rfl fo24_1 rfl) ?_
 refine o_p (p_load (i := 0) (v := .slice as_0 s.counts.length cs_0.n) rfl rfl sh22 rfl) ?_
 refine o_p (p_len_slice rfl rfl Try.underlying22) ?_
 refine o_p (p_eq rfl rfl) ?_
 refine o_as rfl rfl ?_
 refine o_nil (q_then ?_)
 refine c_cond rfl (fun hc2 => ?_) (fun hc2 => ?_)
 ·simp only [beq_iff_eq] at hc2
  refine c_seq (c_region ?_)
  refine o_as rfl rfl ?_
  refine o_nil (q_then (c_ret ?_))
  refine q_block_ret (q_then_ret ?_)
  have hr0 : (1 : Int) = (Sk.check s) := by
   first | exact (Sk.ck1 (by omega)).symm | exact (Sk.ck2 (by omega)).symm | exact (Sk.ck3 (by omega) (by omega) hwd).symm | exact (Sk.ck4 (by omega) (by omega) (by omega) (by omega) hI.2 (by assumption)).symm | exact (Sk.ck5 (by omega) (by omega) (by omega) (k := k) (by omega) hI.2 (by assumption)).symm | exact (Sk.ck6 (by omega) (by omega) (by omega) (k := k) (by omega) hI.2 (by assumption)).symm
  refine q_end0 (v := Vi 1) (rt1 rfl (r_tmp rfl)) (i := 1) rfl ?_
  exact (by have hcc := congrArg (fun (y0 : Int) => (.int .i64 y0 : Value)) hr0; exact hcc)
 ·simp only [beq_eq_false_iff_ne, ne_eq] at hc2
  refine c_seq (c_region ?_)
  refine o_p (p_fieldAddr (j' := 1) rfl fo24_1 rfl) ?_
  refine o_p (p_load (i := 0) (v := .slice as_0 s.counts.length cs_0.n) rfl rfl sh22 rfl) ?_
  refine o_p (p_len_slice rfl rfl Try.underlying22) ?_
  refine o_p (p_gt rfl rfl) ?_
  refine o_as rfl rfl ?_
  refine o_nil (q_then ?_)
  refine c_cond rfl (fun hc3 => ?_) (fun hc3 => ?_)
  ·simp only [decide_eq_true_eq] at hc3
   refine c_seq (c_region ?_)
   refine o_as rfl rfl ?_
   refine o_nil (q_then (c_ret ?_))
   refine q_block_ret (q_then_ret ?_)
   have hr0 : (2 : Int) = (Sk.check s) := by
    first | exact (Sk.ck1 (by omega)).symm | exact (Sk.ck2 (by omega)).symm | exact (Sk.ck3 (by omega) (by omega) hwd).symm | exact (Sk.ck4 (by omega) (by omega) (by omega) (by omega) hI.2 (by assumption)).symm | exact (Sk.ck5 (by omega) (by omega) (by omega) (k := k) (by omega) hI.2 (by assumption)).symm | exact (Sk.ck6 (by omega) (by omega) (by omega) (k := k) (by omega) hI.2 (by assumption)).symm
   refine q_end0 (v := Vi 2) (rt1 rfl (r_tmp rfl)) (i := 1) rfl ?_
   exact (by have hcc := congrArg (fun (y0 : Int) => (.int .i64 y0 : Value)) hr0; exact hcc)
  ·simp only [decide_eq_false_iff_not, Int.not_lt] at hc3
   refine c_seq (c_region ?_)
   refine o_p (p_fieldAddr (j' := 0) rfl fo24_0 rfl) ?_
   refine o_p (p_load (i := 0) (v := Vi s.wide) rfl rfl sh3 rfl) ?_
   refine o_p (p_lt rfl rfl) ?_
   refine o_mv rfl rfl ?_
   refine o_or (p := 24) 4 (decide (64 < s.wide)) ?_ ?_ ?_
   ·intro hb4 hk
    simp only [decide_eq_false_iff_not, Int.not_lt] at hb4
    refine o_unguard 20 rfl rfl ?_
    refine o_p (p_fieldAddr (j' := 0) rfl fo24_0 rfl) ?_
    refine o_unguard 20 rfl rfl ?_
    refine o_p (p_load (i := 0) (v := Vi s.wide) rfl rfl sh3 rfl) ?_
    refine o_unguard 20 rfl rfl ?_
    refine o_p (p_gt rfl rfl) ?_
    refine o_pf rfl rfl rfl ?_
    exact o_sub (sr (Sub.skip rfl (Sub.skip rfl (Sub.skip rfl (Sub.skip rfl (Sub.skip rfl (Sub.refl _))))))) hk
   ·intro hb4 hk
    refine o_guard_no rfl 20 rfl rfl rfl rfl rfl ?_
    refine o_guard_no rfl 20 rfl rfl rfl rfl rfl ?_
    refine o_guard_no rfl 20 rfl rfl rfl rfl rfl ?_
    refine o_pt rfl rfl rfl ?_
    exact o_sub (sr (Sub.skip rfl (Sub.skip rfl (Sub.skip rfl (Sub.skip rfl (Sub.skip rfl (Sub.refl _))))))) hk
   refine o_as rfl rfl ?_
   refine o_nil (q_then ?_)
   refine c_cond rfl (fun hc5 => ?_) (fun hc5 => ?_)
   ·simp only [Bool.or_eq_true, decide_eq_true_eq] at hc5
    have hwd := hc5
    refine c_seq (c_region ?_)
    refine o_as rfl rfl ?_
    refine o_nil (q_then (c_ret ?_))
    refine q_block_ret (q_then_ret ?_)
    have hr0 : (3 : Int) = (Sk.check s) := by
     first | exact (Sk.ck1 (by omega)).symm | exact (Sk.ck2 (by omega)).symm | exact (Sk.ck3 (by omega) (by omega) hwd).symm | exact (Sk.ck4 (by omega) (by omega) (by omega) (by omega) hI.2 (by assumption)).symm | exact (Sk.ck5 (by omega) (by omega) (by omega) (k := k) (by omega) hI.2 (by assumption)).symm | exact (Sk.ck6 (by omega) (by omega) (by omega) (k := k) (by omega) hI.2 (by assumption)).symm
    refine q_end0 (v := Vi 3) (rt1 rfl (r_tmp rfl)) (i := 1) rfl ?_
    exact (by have hcc := congrArg (fun (y0 : Int) => (.int .i64 y0 : Value)) hr0; exact hcc)
   ·simp only [Bool.or_eq_false_iff, decide_eq_false_iff_not, Int.not_lt] at hc5
    have hwd := hc5
    refine c_skip ?_
    refine q_block_normal (q_then ?_)
    refine c_seq (c_seq (c_region ?_))
    refine o_p (p_fieldAddr (j' := 1) rfl fo24_1 rfl) ?_
    refine o_p (p_load (i := 0) (v := .slice as_0 s.counts.length cs_0.n) rfl rfl sh22 rfl) ?_
    refine o_p (p_len_slice rfl rfl Try.underlying22) ?_
    refine o_mv rfl rfl ?_
    refine o_nil (q_then (c_block ?_))
    refine c_loop (St := Nat)
     (fun k => [(1, .pointer (some ⟨B1, 0, none⟩)), (26, .slice as_0 s.counts.length cs_0.n), (27, Vi (s.counts.length : Int)), (28, Vi (k : Int))])
     (fun k => [box B1 [Vi s.wide, .slice as_0 s.counts.length cs_0.n] 24, base w0])
     (fun k => k ≤ s.counts.length ∧ ∀ i, i < k → Sk.rowErr (s.counts.getD i []) s.wide = 0)
     (fun k => s.counts.length - k)
     0 ?_ (sr (sr (sr (sr (Sub.nil _))))) (fun _ hw => hw) ?_
    ·exact ⟨Nat.zero_le _, fun j h => absurd h (Nat.not_lt_zero j)⟩
    rintro k hI K hK6
    show SC _ _ Try.prog 44 w0 _ _ [(1, .pointer (some ⟨B1, 0, none⟩)), (26, .slice as_0 s.counts.length cs_0.n), (27, Vi (s.counts.length : Int)), (28, Vi (k : Int))] [box B1 [Vi s.wide, .slice as_0 s.counts.length cs_0.n] 24, base w0]
    refine c_seq (c_region ?_)
    refine o_p (p_lt rfl rfl) ?_
    refine o_nil (q_then (c_seq ?_))
    refine c_cond rfl (fun hc7 => ?_) (fun hc7 => ?_)
    ·simp only [decide_eq_true_eq] at hc7
     have hkl := hc7
     refine c_skip (q_then (c_seq (c_block (c_seq (c_region ?_)))))
     refine o_p (p_indexAddrN (T := tInt) (c := cs_0) (LL := s.counts) (i := (k : Int)) rfl rfl (rd_baseN (i := 1) rfl hs_0) Try.underlying22 sz37 (by first | omega | decide) (by first | omega | decide)) ?_
     refine o_p (p_loadN (T := tInt) (c := cs_0) (LL := s.counts) (i := k) rfl (rd_baseN (i := 1) rfl hs_0) (by first | assumption | omega | decide) sh37) ?_
     refine o_as rfl rfl ?_
     refine o_nil (q_then (c_seq (c_region ?_)))
     refine o_mv rfl rfl ?_
     refine o_p (p_fieldAddr (j' := 0) rfl fo24_0 rfl) ?_
     refine o_p (p_load (i := 0) (v := Vi s.wide) rfl rfl sh3 rfl) ?_
     refine o_call0 (v := Vi (Sk.rowErr (s.counts.getD k []) s.wide)) rfl (srow_ok (s.counts.getD k []) (cs_0.ra k) (cs_0.rc k) s.wide) hf63 (fun w hw => (rd_rowN (i := k) (rd_baseN (i := 1) rfl hs_0) (by first | assumption | omega)) w hw) rfl ?_
     refine o_as rfl rfl ?_
     refine o_nil (q_then (c_seq (c_region ?_)))
     refine o_mv rfl rfl ?_
     refine o_p (p_ne rfl rfl) ?_
     refine o_nil (q_then ?_)
     refine c_cond rfl (fun hc8 => ?_) (fun hc8 => ?_)
     ·simp only [bne_iff_ne, ne_eq] at hc8
      refine c_seq (c_region ?_)
      refine o_mv rfl rfl ?_
      refine o_as rfl rfl ?_
      refine o_nil (q_then (c_ret ?_))
      refine q_block_ret (q_then_ret (q_then_ret (q_block_ret (q_then_ret ?_))))
      have hr0 : ((Sk.rowErr (s.counts.getD k []) s.wide) : Int) = (Sk.check s) := by
       first | exact (Sk.ck1 (by omega)).symm | exact (Sk.ck2 (by omega)).symm | exact (Sk.ck3 (by omega) (by omega) hwd).symm | exact (Sk.ck4 (by omega) (by omega) (by omega) (by omega) hI.2 (by assumption)).symm | exact (Sk.ck5 (by omega) (by omega) (by omega) (k := k) (by omega) hI.2 (by assumption)).symm | exact (Sk.ck6 (by omega) (by omega) (by omega) (k := k) (by omega) hI.2 (by assumption)).symm
      refine q_end0 (v := Vi (Sk.rowErr (s.counts.getD k []) s.wide)) (rt1 rfl (r_tmp rfl)) (i := 1) rfl ?_
      exact (by have hcc := congrArg (fun (y0 : Int) => (.int .i64 y0 : Value)) hr0; exact hcc)
     ·simp only [bne_eq_false_iff_eq] at hc8
      refine c_skip ?_
      refine q_block_normal (q_then ?_)
      refine c_region ?_
      refine o_p (p_addb rfl rfl (by omega)) ?_
      refine o_mv rfl rfl ?_
      refine o_nil ?_
      refine q_round hK6 (k + 1) ?_ ?_ ?_ ?_
      ·clear hK6
       exact ⟨by omega, Sk.all_step hI.2 (by assumption)⟩
      ·(try dsimp only); omega
      ·exact sr (sr (sr (sr (Sub.nil _))))
      ·exact pk [0, 1]
    ·simp only [decide_eq_false_iff_not, Int.not_lt] at hc7
     have hform := Sk.form_of (by omega) (by omega) (by omega) (k := k) (by omega) hI.2
     refine c_exit ?_
     refine q_then_exit (q_then_exit (q_block_exit (q_then ?_)))
     refine c_seq (c_seq (c_region ?_))
     refine o_p (p_fieldAddr (j' := 1) rfl fo24_1 rfl) ?_
     refine o_p (p_load (i := 0) (v := .slice as_0 s.counts.length cs_0.n) rfl rfl sh22 rfl) ?_
     refine o_call0 (v := .bool (Sk.even s.counts)) rfl (seven_ok s.counts as_0 cs_0 (by first | assumption | exact ⟨hform.vals, hform.pos⟩ | exact ⟨(Sk.half_form hok.toForm).vals, (Sk.half_form hok.toForm).pos⟩)) hf57 (fun w hw => (rd_baseN (i := 1) rfl hs_0) w hw) rfl ?_
     refine o_p (p_not (b := (Sk.even s.counts)) rfl) ?_
     refine o_nil (q_then ?_)
     refine c_cond rfl (fun hc9 => ?_) (fun hc9 => ?_)
     ·simp only [Bool.not_eq_true'] at hc9
      refine c_seq (c_region ?_)
      refine o_as rfl rfl ?_
      refine o_nil (q_then (c_ret ?_))
      refine q_then_ret ?_
      have hr0 : (4 : Int) = (Sk.check s) := by
       first | exact (Sk.ck1 (by omega)).symm | exact (Sk.ck2 (by omega)).symm | exact (Sk.ck3 (by omega) (by omega) hwd).symm | exact (Sk.ck4 (by omega) (by omega) (by omega) (by omega) hI.2 (by assumption)).symm | exact (Sk.ck5 (by omega) (by omega) (by omega) (k := k) (by omega) hI.2 (by assumption)).symm | exact (Sk.ck6 (by omega) (by omega) (by omega) (k := k) (by omega) hI.2 (by assumption)).symm
      refine q_end0 (v := Vi 4) (rt1 rfl (r_tmp rfl)) (i := 1) rfl ?_
      exact (by have hcc := congrArg (fun (y0 : Int) => (.int .i64 y0 : Value)) hr0; exact hcc)
     ·simp only [Bool.not_eq_false'] at hc9
      refine c_skip (q_then (c_seq (c_region ?_)))
      refine o_as rfl rfl ?_
      refine o_nil (q_then (c_ret ?_))
      have hr0 : (0 : Int) = (Sk.check s) := by
       first | exact (Sk.ck1 (by omega)).symm | exact (Sk.ck2 (by omega)).symm | exact (Sk.ck3 (by omega) (by omega) hwd).symm | exact (Sk.ck4 (by omega) (by omega) (by omega) (by omega) hI.2 (by assumption)).symm | exact (Sk.ck5 (by omega) (by omega) (by omega) (k := k) (by omega) hI.2 (by assumption)).symm | exact (Sk.ck6 (by omega) (by omega) (by omega) (k := k) (by omega) hI.2 (by assumption)).symm
      refine q_end0 (v := Vi 0) (rt1 rfl (r_tmp rfl)) (i := 1) rfl ?_
      exact (by have hcc := congrArg (fun (y0 : Int) => (.int .i64 y0 : Value)) hr0; exact hcc)

set_option maxHeartbeats 8000000 in
set_option maxRecDepth 100000 in
theorem scheckK_ok (s : DSketch) (as_0 : Option Addr) (cs_0 : NC) (key : ByteArray) : Fn0 Try.prog 51 [.agg #[Vi s.wide, .slice as_0 s.counts.length cs_0.n], .string key] (fun w => RdN tInt w as_0 cs_0 s.counts) (Vi (Sk.keyErr s key)) := by
 refine fn0 (nt := 19) (F0 := [(0, .agg #[Vi s.wide, .slice as_0 s.counts.length cs_0.n]), (1, .string key)]) Try.func51 rfl Try.ntmps51 rfl rfl (fun w0 hpre => ?_)
 have hs_0 := hpre
 have hlhs_0 := hs_0.2.1
 refine c_seq (c_region ?_)
 refine o_box (v := .agg #[Vi s.wide, .slice as_0 s.counts.length cs_0.n]) rfl rfl (fun B1 => ?_)
 refine o_as rfl rfl ?_
 refine o_nil (q_then (c_seq (c_seq (c_region ?_))))
 refine o_p (p_load_agg (i := 0) (vs := [Vi s.wide, .slice as_0 s.counts.length cs_0.n]) rfl rfl sh24 rfl rfl) ?_
 refine o_call0 (v := Vi (Sk.check s)) rfl (scheck_ok s as_0 cs_0) hf26 (fun w hw => (rd_baseN (i := 1) rfl hs_0) w hw) rfl ?_
 refine o_as rfl rfl ?_
 refine o_nil (q_then (c_seq (c_region ?_)))
 refine o_mv rfl rfl ?_
 refine o_p (p_ne rfl rfl) ?_
 refine o_nil (q_then ?_)
 refine c_cond rfl (fun hc2 => ?_) (fun hc2 => ?_)
 ·simp only [bne_iff_ne, ne_eq] at hc2
  refine c_seq (c_region ?_)
  refine o_mv rfl rfl ?_
  refine o_as rfl rfl ?_
  refine o_nil (q_then (c_ret ?_))
  refine q_then_ret ?_
  have hr0 : ((Sk.check s) : Int) = (Sk.keyErr s key) := by
   first | exact (if_pos (by assumption)).symm | exact (if_neg (by simpa using (by assumption : Sk.check s = 0))).symm
  refine q_end0 (v := Vi (Sk.check s)) (rt1 rfl (r_tmp rfl)) (i := 1) rfl ?_
  exact (by have hcc := congrArg (fun (y0 : Int) => (.int .i64 y0 : Value)) hr0; exact hcc)
 ·simp only [bne_eq_false_iff_eq] at hc2
  refine c_skip (q_then (c_seq (c_region ?_)))
  refine o_mv rfl rfl ?_
  refine o_call0 (v := .tuple #[.int .u64 ((Hash.sum key).toNat : Int), Vi (Hash.sumErr key)]) rfl (sumN_ok key) hf94 (fun _ _ => trivial) rfl ?_
  refine o_mv rfl rfl ?_
  refine o_ex rfl rfl rfl ?_
  refine o_ex rfl rfl rfl ?_
  refine o_as rfl rfl ?_
  refine o_as rfl rfl ?_
  refine o_nil (q_then (c_seq (c_region ?_)))
  refine o_mv rfl rfl ?_
  refine o_as rfl rfl ?_
  refine o_nil (q_then (c_ret ?_))
  have hr0 : ((Hash.sumErr key) : Int) = (Sk.keyErr s key) := by
   first | exact (if_pos (by assumption)).symm | exact (if_neg (by simpa using (by assumption : Sk.check s = 0))).symm
  refine q_end0 (v := Vi (Hash.sumErr key)) (rt1 rfl (r_tmp rfl)) (i := 1) rfl ?_
  exact (by have hcc := congrArg (fun (y0 : Int) => (.int .i64 y0 : Value)) hr0; exact hcc)

set_option maxHeartbeats 8000000 in
set_option maxRecDepth 100000 in
theorem sat_ok (key : ByteArray) (row : Int) (wide : Int) : Fn0 Try.prog 54 [.string key, Vi row, Vi wide] (fun _ => True) (Vi (Sk.place key row wide)) := by
 refine fn0 (nt := 19) (F0 := [(0, .string key), (1, Vi row), (2, Vi wide)]) Try.func54 rfl Try.ntmps54 rfl rfl (fun w0 hpre => ?_)
 refine c_seq (c_region ?_)
 refine o_as rfl rfl ?_
 refine o_nil (q_then (c_seq (c_region ?_)))
 refine o_mv rfl rfl ?_
 refine o_mv rfl rfl ?_
 refine o_p (pu_conv (z := row) rfl Try.underlying3 Try.underlying100) ?_
 refine o_call0 (v := .tuple #[.int .u64 ((Hash.salted key (toU row)).toNat : Int), Vi (Hash.sumErr key)]) rfl (saltedN_ok key (toU row)) hf97 (fun _ _ => trivial) rfl ?_
 refine o_mv rfl rfl ?_
 refine o_ex rfl rfl rfl ?_
 refine o_ex rfl rfl rfl ?_
 refine o_as rfl rfl ?_
 refine o_as rfl rfl ?_
 refine o_nil (q_then (c_seq (c_region ?_)))
 refine o_mv rfl rfl ?_
 refine o_mv rfl rfl ?_
 refine o_call0 (v := Vi (Hash.rawFold (Hash.salted key (toU row)) wide)) rfl (rawFold_ok (Hash.salted key (toU row)) wide) hf98 (fun _ _ => trivial) rfl ?_
 refine o_as rfl rfl ?_
 refine o_nil (q_then (c_ret ?_))
 have hr0 : ((Hash.rawFold (Hash.salted key (toU row)) wide) : Int) = (Sk.place key row wide) := by
  rfl
 refine q_end0 (v := Vi (Hash.rawFold (Hash.salted key (toU row)) wide)) (rt1 rfl (r_tmp rfl)) (i := 0) rfl ?_
 exact (by have hcc := congrArg (fun (y0 : Int) => (.int .i64 y0 : Value)) hr0; exact hcc)

set_option maxHeartbeats 8000000 in
set_option maxRecDepth 100000 in
theorem smax_ok (l : List Int) (al : Option Addr) (cl : Nat) (hy1 : 1 ≤ l.length) : Fn0 Try.prog 96 [.slice al l.length cl] (fun w => Rd tInt w al cl l) (Vi (Sk.maxL l)) := by
 refine fn0 (nt := 25) (F0 := [(0, .slice al l.length cl)]) Try.func96 rfl Try.ntmps96 rfl rfl (fun w0 hpre => ?_)
 have hl := hpre
 have hlhl := hl.2.1
 refine c_seq (c_region ?_)
 refine o_as rfl rfl ?_
 refine o_nil (q_then (c_seq (c_seq (c_region ?_))))
 refine o_mv rfl rfl ?_
 refine o_p (p_len_slice rfl rfl Try.underlying37) ?_
 refine o_p (p_lt rfl rfl) ?_
 refine o_nil (q_then ?_)
 refine c_cond rfl (fun hc1 => ?_) (fun hc1 => ?_)
 ·simp only [decide_eq_true_eq] at hc1
  exfalso; omega
 ·simp only [decide_eq_false_iff_not, Int.not_lt] at hc1
  refine c_skip (q_then (c_seq (c_region ?_)))
  refine o_mv rfl rfl ?_
  refine o_p (p_indexAddr (L := l) (T := tInt) (i := 0) rfl rfl (rd_base (i := 0) rfl hl) Try.underlying37 sz3 (by omega) (by omega)) ?_
  refine o_p (p_loadE1 (i := 0) (T := tInt) (L := l) (v := Vi (l.getD 0 default)) rfl (rd_base (i := 0) rfl hl) (by first | assumption | omega) sh3 (congrArg tInt.enc (getd_at (by first | assumption | omega) default))) ?_
  refine o_as rfl rfl ?_
  refine o_nil (q_then (c_seq (c_seq (c_region ?_))))
  refine o_as rfl rfl ?_
  refine o_nil (q_then (c_block ?_))
  refine c_loop (St := Int × Nat)
   (fun ⟨m, i⟩ => [(0, .slice al l.length cl), (3, Vi m), (4, Vi (i : Int))])
   (fun ⟨m, i⟩ => [base w0])
   (fun ⟨m, i⟩ => i ≤ l.length ∧ 1 ≤ i ∧ m = Sk.maxTo l i)
   (fun ⟨m, i⟩ => l.length - i)
   ((l.getD 0 default), 1) ?_ (sr (sr (sr (Sub.nil _)))) (fun _ hw => hw) ?_
  ·exact ⟨by omega, Nat.le_refl _, (Int.max_self _).symm⟩
  rintro ⟨m, i⟩ hI K hK2
  show SC _ _ Try.prog 25 w0 _ _ [(0, .slice al l.length cl), (3, Vi m), (4, Vi (i : Int))] [base w0]
  refine c_seq (c_seq (c_region ?_))
  refine o_mv rfl rfl ?_
  refine o_mv rfl rfl ?_
  refine o_p (p_len_slice rfl rfl Try.underlying37) ?_
  refine o_p (p_lt rfl rfl) ?_
  refine o_nil (q_then ?_)
  refine c_cond rfl (fun hc3 => ?_) (fun hc3 => ?_)
  ·simp only [decide_eq_true_eq] at hc3
   refine c_skip (q_then (c_seq (c_block (c_region ?_))))
   refine o_mv rfl rfl ?_
   refine o_mv rfl rfl ?_
   refine o_mv rfl rfl ?_
   refine o_p (p_indexAddr (L := l) (T := tInt) (i := (i : Int)) rfl rfl (rd_base (i := 0) rfl hl) Try.underlying37 sz3 (by omega) (by omega)) ?_
   refine o_p (p_loadE1 (i := i) (T := tInt) (L := l) (v := Vi (l.getD i default)) rfl (rd_base (i := 0) rfl hl) (by first | assumption | omega) sh3 (congrArg tInt.enc (getd_at (by first | assumption | omega) default))) ?_
   refine o_p (p_max (p := m) (q := (l.getD i default)) rfl rfl) ?_
   refine o_as rfl rfl ?_
   refine o_nil ?_
   refine q_block_normal (q_then ?_)
   refine c_region ?_
   refine o_mv rfl rfl ?_
   refine o_p (p_addb rfl rfl (by omega)) ?_
   refine o_as rfl rfl ?_
   refine o_nil ?_
   refine q_round hK2 ((max m (l.getD i default)), i + 1) ?_ ?_ ?_ ?_
   ·clear hK2
    exact ⟨by omega, by omega, by rw [hI.2.2]; rfl⟩
   ·(try dsimp only); omega
   ·exact sr (sr (sr (Sub.nil _)))
   ·exact pk [0]
  ·simp only [decide_eq_false_iff_not, Int.not_lt] at hc3
   refine c_exit ?_
   refine q_then_exit (q_then_exit (q_block_exit (q_then ?_)))
   refine c_seq (c_region ?_)
   refine o_mv rfl rfl ?_
   refine o_as rfl rfl ?_
   refine o_nil (q_then (c_ret ?_))
   have hr0 : (m : Int) = (Sk.maxL l) := by
    (have hle := hI.1; rw [hI.2.2, show i = l.length by omega]; rfl)
   refine q_end0 (v := Vi m) (rt1 rfl (r_tmp rfl)) (i := 0) rfl ?_
   exact (by have hcc := congrArg (fun (y0 : Int) => (.int .i64 y0 : Value)) hr0; exact hcc)
end Go.Proofs.Ytnmbkopnopaigaa
