/- The walks, printed by a program from the translation and a specification. -/
import Derived.Test.YtfncgfcehkalnaaBlF
import Derived.Test.YtfncgfcehkalnaaBlLaw
namespace Go.Proofs.Ytfncgfcehkalnaa
open Go.Sx Go.RowKit
set_option maxHeartbeats 8000000 in
set_option maxRecDepth 100000 in
theorem mix_ok (n : UInt64) : Fn0 Try.prog 85 [.int .u64 (n.toNat : Int)] (fun _ => True) (.int .u64 ((Hash.mix n).toNat : Int)) := by
 refine fn0 (nt := 17) (F0 := [(0, .int .u64 (n.toNat : Int))]) Try.func85 rfl Try.ntmps85 rfl rfl (fun w0 hpre => ?_)
 refine c_seq (c_region ?_)
 refine o_as rfl rfl ?_
 refine o_nil (q_then (c_seq (c_region ?_)))
 refine o_mv rfl rfl ?_
 refine o_mv rfl rfl ?_
 refine o_p (pu_shr (p := n) (m := 30) rfl rfl (by decide)) ?_
 refine o_p (pu_xor (p := n) (q := (shrU n 30)) rfl rfl) ?_
 refine o_p (pu_mul (p := (n ^^^ (shrU n 30))) (q := (13787848793156543929 : UInt64)) rfl rfl) ?_
 refine o_as rfl rfl ?_
 refine o_nil (q_then (c_seq (c_region ?_)))
 refine o_mv rfl rfl ?_
 refine o_mv rfl rfl ?_
 refine o_p (pu_shr (p := ((n ^^^ (shrU n 30)) * (13787848793156543929 : UInt64))) (m := 27) rfl rfl (by decide)) ?_
 refine o_p (pu_xor (p := ((n ^^^ (shrU n 30)) * (13787848793156543929 : UInt64))) (q := (shrU ((n ^^^ (shrU n 30)) * (13787848793156543929 : UInt64)) 27)) rfl rfl) ?_
 refine o_p (pu_mul (p := (((n ^^^ (shrU n 30)) * (13787848793156543929 : UInt64)) ^^^ (shrU ((n ^^^ (shrU n 30)) * (13787848793156543929 : UInt64)) 27))) (q := (10723151780598845931 : UInt64)) rfl rfl) ?_
 refine o_as rfl rfl ?_
 refine o_nil (q_then (c_seq (c_region ?_)))
 refine o_mv rfl rfl ?_
 refine o_mv rfl rfl ?_
 refine o_p (pu_shr (p := ((((n ^^^ (shrU n 30)) * (13787848793156543929 : UInt64)) ^^^ (shrU ((n ^^^ (shrU n 30)) * (13787848793156543929 : UInt64)) 27)) * (10723151780598845931 : UInt64))) (m := 31) rfl rfl (by decide)) ?_
 refine o_p (pu_xor (p := ((((n ^^^ (shrU n 30)) * (13787848793156543929 : UInt64)) ^^^ (shrU ((n ^^^ (shrU n 30)) * (13787848793156543929 : UInt64)) 27)) * (10723151780598845931 : UInt64))) (q := (shrU ((((n ^^^ (shrU n 30)) * (13787848793156543929 : UInt64)) ^^^ (shrU ((n ^^^ (shrU n 30)) * (13787848793156543929 : UInt64)) 27)) * (10723151780598845931 : UInt64)) 31)) rfl rfl) ?_
 refine o_as rfl rfl ?_
 refine o_nil (q_then (c_ret ?_))
 refine q_end0 (v := .int .u64 ((((((n ^^^ (shrU n 30)) * (13787848793156543929 : UInt64)) ^^^ (shrU ((n ^^^ (shrU n 30)) * (13787848793156543929 : UInt64)) 27)) * (10723151780598845931 : UInt64)) ^^^ (shrU ((((n ^^^ (shrU n 30)) * (13787848793156543929 : UInt64)) ^^^ (shrU ((n ^^^ (shrU n 30)) * (13787848793156543929 : UInt64)) 27)) * (10723151780598845931 : UInt64)) 31)).toNat : Int)) (rt1 rfl (r_tmp rfl)) (i := 0) rfl ?_
 rfl

set_option maxHeartbeats 8000000 in
set_option maxRecDepth 100000 in
theorem raw_ok (s : ByteArray) : Fn0 Try.prog 84 [.string s] (fun w => s.size ≤ 9223372036854775807) (.int .u64 ((Hash.raw s).toNat : Int)) := by
 refine fn0 (nt := 19) (F0 := [(0, .string s)]) Try.func84 rfl Try.ntmps84 rfl rfl (fun w0 hpre => ?_)
 have hs := hpre
 refine c_seq (c_region ?_)
 refine o_as rfl rfl ?_
 refine o_nil (q_then (c_seq (c_region ?_)))
 refine o_as rfl rfl ?_
 refine o_nil (q_then (c_seq (c_seq (c_region ?_))))
 refine o_mv rfl rfl ?_
 refine o_p (p_len_string rfl rfl Try.underlying9) ?_
 refine o_mv rfl rfl ?_
 refine o_nil (q_then (c_block ?_))
 refine c_loop (St := UInt64 × Nat)
  (fun ⟨n, k⟩ => [(0, .string s), (3, .int .u64 (n.toNat : Int)), (6, Vi (s.size : Int)), (7, Vi (k : Int))])
  (fun ⟨n, k⟩ => [base w0])
  (fun ⟨n, k⟩ => k ≤ s.size ∧ n = Hash.rawTo s k)
  (fun ⟨n, k⟩ => s.size - k)
  ((14695981039346656037 : UInt64), 0) ?_ (sr (sr (sr (sr (Sub.nil _))))) (fun _ hw => hw) ?_
 ·exact ⟨Nat.zero_le _, rfl⟩
 rintro ⟨n, k⟩ hI K hK1
 obtain ⟨hk, ho⟩ := hI
 show SC _ _ Try.prog 19 w0 _ _ [(0, .string s), (3, .int .u64 (n.toNat : Int)), (6, Vi (s.size : Int)), (7, Vi (k : Int))] [base w0]
 refine c_seq (c_region ?_)
 refine o_p (p_lt rfl rfl) ?_
 refine o_nil (q_then (c_seq ?_))
 refine c_cond rfl (fun hc2 => ?_) (fun hc2 => ?_)
 ·simp only [decide_eq_true_eq] at hc2
  refine c_skip (q_then (c_seq (c_block (c_seq (c_region ?_)))))
  refine o_mv rfl rfl ?_
  refine o_as rfl rfl ?_
  refine o_nil (q_then (c_region ?_))
  refine o_mv rfl rfl ?_
  refine o_mv rfl rfl ?_
  refine o_mv rfl rfl ?_
  refine o_p (p_indexStr (z := (k : Int)) (i := k) rfl rfl Try.underlying9 (by omega) (by omega)) ?_
  refine o_p (pu_convB (c := (byteAt s k)) rfl Try.underlying5 Try.underlying81) ?_
  refine o_p (pu_xor (p := n) (q := (byteAt s k).toUInt64) rfl rfl) ?_
  refine o_p (pu_mul (p := (n ^^^ (byteAt s k).toUInt64)) (q := (1099511628211 : UInt64)) rfl rfl) ?_
  refine o_as rfl rfl ?_
  refine o_nil ?_
  refine q_block_normal (q_then ?_)
  refine c_region ?_
  refine o_p (p_addb rfl rfl (by omega)) ?_
  refine o_mv rfl rfl ?_
  refine o_nil ?_
  refine q_round hK1 (((n ^^^ (byteAt s k).toUInt64) * (1099511628211 : UInt64)), k + 1) ?_ ?_ ?_ ?_
  ·clear hK1
   exact ⟨by omega, by rw [ho]; rfl⟩
  ·(try dsimp only); omega
  ·exact sr (sr (sr (sr (Sub.nil _))))
  ·exact pk [0]
 ·simp only [decide_eq_false_iff_not, Int.not_lt] at hc2
  refine c_exit ?_
  refine q_then_exit (q_then_exit (q_block_exit (q_then ?_)))
  refine c_seq (c_region ?_)
  refine o_mv rfl rfl ?_
  refine o_as rfl rfl ?_
  refine o_nil (q_then (c_ret ?_))
  refine q_end0 (v := .int .u64 (n.toNat : Int)) (rt1 rfl (r_tmp rfl)) (i := 0) rfl ?_
  rw [show n = Hash.raw s by unfold Hash.raw; rw [ho]; congr 1; omega]

set_option maxHeartbeats 8000000 in
set_option maxRecDepth 100000 in
theorem sumN_ok (s : ByteArray) : Fn0 Try.prog 52 [.string s] (fun _ => True) (.tuple #[.int .u64 ((Hash.sum s).toNat : Int), Vi (Hash.sumErr s)]) := by
 refine fn0 (nt := 9) (F0 := [(0, .string s)]) Try.func52 rfl Try.ntmps52 rfl rfl (fun w0 hpre => ?_)
 refine c_seq (c_region ?_)
 refine o_as rfl rfl ?_
 refine o_as rfl rfl ?_
 refine o_nil (q_then (c_seq (c_seq (c_region ?_))))
 refine o_mv rfl rfl ?_
 refine o_p (p_len_string rfl rfl Try.underlying9) ?_
 refine o_p (p_gt rfl rfl) ?_
 refine o_nil (q_then ?_)
 refine c_cond rfl (fun hc1 => ?_) (fun hc1 => ?_)
 ·simp only [decide_eq_true_eq] at hc1
  refine c_seq (c_region ?_)
  refine o_as rfl rfl ?_
  refine o_as rfl rfl ?_
  refine o_nil (q_then (c_ret ?_))
  refine q_then_ret ?_
  have hr0 : ((0 : UInt64) : UInt64) = (Hash.sum s) := by
   first | rw [show Hash.sum s = 0 from if_pos (by omega), show Hash.sumErr s = 2 from if_pos (by omega)] | rw [show Hash.sum s = Hash.raw s from if_neg (by omega)] | rw [show Hash.sumErr s = 0 from if_neg (by omega)] | exact (if_pos (by omega)).symm | exact (if_neg (by omega)).symm
  have hr1 : (2 : Int) = (Hash.sumErr s) := by
   first | rw [show Hash.sum s = 0 from if_pos (by omega), show Hash.sumErr s = 2 from if_pos (by omega)] | rw [show Hash.sum s = Hash.raw s from if_neg (by omega)] | rw [show Hash.sumErr s = 0 from if_neg (by omega)] | exact (if_pos (by omega)).symm | exact (if_neg (by omega)).symm
  refine q_end0 (v := .tuple #[.int .u64 ((0 : UInt64).toNat : Int), Vi 2]) (rt2 rfl (r_tmp rfl) (r_tmp rfl)) (i := 0) rfl ?_
  exact (by have hcc := congr (congrArg (fun (y0 : UInt64) (y1 : Int) => (.tuple #[.int .u64 (y0.toNat : Int), .int .i64 y1] : Value)) hr0) hr1; exact hcc)
 ·simp only [decide_eq_false_iff_not, Int.not_lt] at hc1
  refine c_skip (q_then (c_seq (c_region ?_)))
  refine o_mv rfl rfl ?_
  refine o_call0 (v := .int .u64 ((Hash.raw s).toNat : Int)) rfl (raw_ok s) hf84 (fun w hw => (by first | assumption | omega | decide | (rw [ByteArray.size_append]; omega) | simp)) rfl ?_
  refine o_as rfl rfl ?_
  refine o_as rfl rfl ?_
  refine o_nil (q_then (c_ret ?_))
  have hr0 : ((Hash.raw s) : UInt64) = (Hash.sum s) := by
   first | rw [show Hash.sum s = 0 from if_pos (by omega), show Hash.sumErr s = 2 from if_pos (by omega)] | rw [show Hash.sum s = Hash.raw s from if_neg (by omega)] | rw [show Hash.sumErr s = 0 from if_neg (by omega)] | exact (if_pos (by omega)).symm | exact (if_neg (by omega)).symm
  have hr1 : (0 : Int) = (Hash.sumErr s) := by
   first | rw [show Hash.sum s = 0 from if_pos (by omega), show Hash.sumErr s = 2 from if_pos (by omega)] | rw [show Hash.sum s = Hash.raw s from if_neg (by omega)] | rw [show Hash.sumErr s = 0 from if_neg (by omega)] | exact (if_pos (by omega)).symm | exact (if_neg (by omega)).symm
  refine q_end0 (v := .tuple #[.int .u64 ((Hash.raw s).toNat : Int), Vi 0]) (rt2 rfl (r_tmp rfl) (r_tmp rfl)) (i := 0) rfl ?_
  exact (by have hcc := congr (congrArg (fun (y0 : UInt64) (y1 : Int) => (.tuple #[.int .u64 (y0.toNat : Int), .int .i64 y1] : Value)) hr0) hr1; exact hcc)

set_option maxHeartbeats 8000000 in
set_option maxRecDepth 100000 in
theorem rawFold_ok (n : UInt64) (most : Int) : Fn0 Try.prog 54 [.int .u64 (n.toNat : Int), Vi most] (fun _ => True) (Vi (Hash.rawFold n most)) := by
 refine fn0 (nt := 12) (F0 := [(0, .int .u64 (n.toNat : Int)), (1, Vi most)]) Try.func54 rfl Try.ntmps54 rfl rfl (fun w0 hpre => ?_)
 refine c_seq (c_region ?_)
 refine o_as rfl rfl ?_
 refine o_nil (q_then (c_seq (c_region ?_)))
 refine o_mv rfl rfl ?_
 refine o_p (pu_shr (p := n) (m := 32) rfl rfl (by decide)) ?_
 refine o_mv rfl rfl ?_
 refine o_p (pu_conv (z := most) rfl Try.underlying3 Try.underlying81) ?_
 refine o_p (pu_mul (p := (shrU n 32)) (q := (toU most)) rfl rfl) ?_
 refine o_p (pu_shr (p := ((shrU n 32) * (toU most))) (m := 32) rfl rfl (by decide)) ?_
 refine o_p (p_conv (z := ((shrU ((shrU n 32) * (toU most)) 32).toNat : Int)) rfl Try.underlying81 Try.underlying3) ?_
 refine o_as rfl rfl ?_
 refine o_nil (q_then (c_ret ?_))
 refine q_end0 (v := Vi (IntKind.i64.wrap ((shrU ((shrU n 32) * (toU most)) 32).toNat : Int))) (rt1 rfl (r_tmp rfl)) (i := 0) rfl ?_
 rfl

set_option maxHeartbeats 8000000 in
set_option maxRecDepth 100000 in
theorem saltedN_ok (s : ByteArray) (salt : UInt64) : Fn0 Try.prog 53 [.string s, .int .u64 (salt.toNat : Int)] (fun _ => True) (.tuple #[.int .u64 ((Hash.salted s salt).toNat : Int), Vi (Hash.sumErr s)]) := by
 refine fn0 (nt := 20) (F0 := [(0, .string s), (1, .int .u64 (salt.toNat : Int))]) Try.func53 rfl Try.ntmps53 rfl rfl (fun w0 hpre => ?_)
 refine c_seq (c_region ?_)
 refine o_as rfl rfl ?_
 refine o_as rfl rfl ?_
 refine o_nil (q_then (c_seq (c_region ?_)))
 refine o_mv rfl rfl ?_
 refine o_call0 (v := .tuple #[.int .u64 ((Hash.sum s).toNat : Int), Vi (Hash.sumErr s)]) rfl (sumN_ok s) hf52 (fun _ _ => trivial) rfl ?_
 refine o_mv rfl rfl ?_
 refine o_ex rfl rfl rfl ?_
 refine o_ex rfl rfl rfl ?_
 refine o_as rfl rfl ?_
 refine o_as rfl rfl ?_
 refine o_nil (q_then (c_seq (c_seq (c_region ?_))))
 refine o_mv rfl rfl ?_
 refine o_p (p_ne rfl rfl) ?_
 refine o_nil (q_then ?_)
 refine c_cond rfl (fun hc1 => ?_) (fun hc1 => ?_)
 ·simp only [bne_iff_ne, ne_eq] at hc1
  refine c_seq (c_region ?_)
  refine o_mv rfl rfl ?_
  refine o_as rfl rfl ?_
  refine o_as rfl rfl ?_
  refine o_nil (q_then (c_ret ?_))
  refine q_then_ret ?_
  have hr0 : ((0 : UInt64) : UInt64) = (Hash.salted s salt) := by
   first | exact (if_neg (by assumption)).symm | exact (if_pos (by assumption)).symm | (symm; assumption)
  refine q_end0 (v := .tuple #[.int .u64 ((0 : UInt64).toNat : Int), Vi (Hash.sumErr s)]) (rt2 rfl (r_tmp rfl) (r_tmp rfl)) (i := 0) rfl ?_
  exact (by have hcc := congrArg (fun (y0 : UInt64) => (.tuple #[.int .u64 (y0.toNat : Int), Vi (Hash.sumErr s)] : Value)) hr0; exact hcc)
 ·simp only [bne_eq_false_iff_eq] at hc1
  refine c_skip (q_then (c_seq (c_region ?_)))
  refine o_mv rfl rfl ?_
  refine o_mv rfl rfl ?_
  refine o_p (pu_xor (p := (Hash.sum s)) (q := salt) rfl rfl) ?_
  refine o_call0 (v := .int .u64 ((Hash.mix ((Hash.sum s) ^^^ salt)).toNat : Int)) rfl (mix_ok ((Hash.sum s) ^^^ salt)) hf85 (fun _ _ => trivial) rfl ?_
  refine o_as rfl rfl ?_
  refine o_as rfl rfl ?_
  refine o_nil (q_then (c_ret ?_))
  have hr0 : ((Hash.mix ((Hash.sum s) ^^^ salt)) : UInt64) = (Hash.salted s salt) := by
   first | exact (if_neg (by assumption)).symm | exact (if_pos (by assumption)).symm | (symm; assumption)
  have hr1 : (0 : Int) = (Hash.sumErr s) := by
   first | exact (if_neg (by assumption)).symm | exact (if_pos (by assumption)).symm | (symm; assumption)
  refine q_end0 (v := .tuple #[.int .u64 ((Hash.mix ((Hash.sum s) ^^^ salt)).toNat : Int), Vi 0]) (rt2 rfl (r_tmp rfl) (r_tmp rfl)) (i := 0) rfl ?_
  exact (by have hcc := congr (congrArg (fun (y0 : UInt64) (y1 : Int) => (.tuple #[.int .u64 (y0.toNat : Int), .int .i64 y1] : Value)) hr0) hr1; exact hcc)

set_option maxHeartbeats 8000000 in
set_option maxRecDepth 100000 in
theorem indexFunc_Int_ok (l : List Int) (al : Option Addr) (cl : Nat) (gf : FuncId) (kf : List Value) (f : Int → Bool) (Pf : World → Prop) (stf : ∀ w w', Below w.heap.size w w' → Pf w → Pf w') (okf : ∀ (x : Int), Fn0 Try.prog gf (Vi x :: kf) Pf (.bool (f x))) (hpf : HasFn Try.prog gf) : Fn0 Try.prog 56 [.slice al l.length cl, .func (.func gf) #[] kf.toArray] (fun w => Rd tInt w al cl l ∧ Pf w) (Vi (idxF f l)) := by
 refine fn0 (nt := 19) (F0 := [(0, .slice al l.length cl), (1, .func (.func gf) #[] kf.toArray)]) Try.func56 rfl Try.ntmps56 rfl rfl (fun w0 hpre => ?_)
 obtain ⟨hl, hf⟩ := hpre
 have hlhl := hl.2.1
 refine c_seq (c_region ?_)
 refine o_as rfl rfl ?_
 refine o_nil (q_then (c_seq (c_seq (c_region ?_))))
 refine o_mv rfl rfl ?_
 refine o_p (p_len_slice rfl rfl Try.underlying22) ?_
 refine o_mv rfl rfl ?_
 refine o_nil (q_then (c_block ?_))
 refine c_loop (St := Nat)
  (fun k => [(0, .slice al l.length cl), (1, .func (.func gf) #[] kf.toArray), (7, Vi (l.length : Int)), (8, Vi (k : Int))])
  (fun k => [base w0])
  (fun k => k ≤ l.length ∧ ∀ j (h : j < l.length), j < k → f l[j] = false)
  (fun k => l.length - k)
  0 ?_ (sr (sr (sr (sr (Sub.nil _))))) (fun _ hw => hw) ?_
 ·exact ⟨Nat.zero_le _, fun j _ h => absurd h (by omega)⟩
 rintro k hI K hK1
 obtain ⟨hI1, hI2⟩ := hI
 show SC _ _ Try.prog 19 w0 _ _ [(0, .slice al l.length cl), (1, .func (.func gf) #[] kf.toArray), (7, Vi (l.length : Int)), (8, Vi (k : Int))] [base w0]
 refine c_seq (c_region ?_)
 refine o_p (p_lt rfl rfl) ?_
 refine o_nil (q_then (c_seq ?_))
 refine c_cond rfl (fun hc2 => ?_) (fun hc2 => ?_)
 ·simp only [decide_eq_true_eq] at hc2
  refine c_skip (q_then (c_seq (c_block (c_seq (c_region ?_)))))
  refine o_mv rfl rfl ?_
  refine o_as rfl rfl ?_
  refine o_nil (q_then (c_seq (c_region ?_)))
  refine o_mv rfl rfl ?_
  refine o_mv rfl rfl ?_
  refine o_mv rfl rfl ?_
  refine o_p (p_indexAddr (L := l) (T := tInt) (i := (k : Int)) rfl rfl (rd_base (i := 0) rfl hl) Try.underlying22 sz3 (by omega) (by omega)) ?_
  refine o_p (p_loadE1 (i := k) (T := tInt) (L := l) (v := Vi (l[k])) rfl (rd_base (i := 0) rfl hl) (by first | assumption | omega) sh3 rfl) ?_
  refine o_call0V (vs := [Vi (l[k])]) (caps := kf) (v := .bool (f (l[k]))) rfl rfl (okf (l[k])) hpf (pre_base (i := 0) rfl stf hf) rfl ?_
  refine o_nil (q_then ?_)
  refine c_cond rfl (fun hc3 => ?_) (fun hc3 => ?_)
  ·skip
   refine c_seq (c_region ?_)
   refine o_mv rfl rfl ?_
   refine o_as rfl rfl ?_
   refine o_nil (q_then (c_ret ?_))
   refine q_block_ret (q_then_ret (q_then_ret (q_block_ret (q_then_ret ?_))))
   have hr0 : ((k : Int) : Int) = (idxF f l) := by
    first | exact idxF_found (by omega) (by assumption) hI2 | exact idxF_none (fun j h => hI2 j h (by omega))
   refine q_end0 (v := Vi (k : Int)) (rt1 rfl (r_tmp rfl)) (i := 0) rfl ?_
   exact (by have hcc := congrArg (fun (y0 : Int) => (.int .i64 y0 : Value)) hr0; exact hcc)
  ·skip
   refine c_skip ?_
   refine q_block_normal (q_then ?_)
   refine c_region ?_
   refine o_p (p_addb rfl rfl (by omega)) ?_
   refine o_mv rfl rfl ?_
   refine o_nil ?_
   refine q_round hK1 (k + 1) ?_ ?_ ?_ ?_
   ·clear hK1
    refine ⟨by omega, fun j h h2 => ?_⟩
    by_cases e : j = k
    ·subst e; assumption
    ·exact hI2 j h (by omega)
   ·(try dsimp only); omega
   ·exact sr (sr (sr (sr (Sub.nil _))))
   ·exact pk [0]
 ·simp only [decide_eq_false_iff_not, Int.not_lt] at hc2
  refine c_exit ?_
  refine q_then_exit (q_then_exit (q_block_exit (q_then ?_)))
  refine c_seq (c_region ?_)
  refine o_as rfl rfl ?_
  refine o_nil (q_then (c_ret ?_))
  have hr0 : ((-1) : Int) = (idxF f l) := by
   first | exact idxF_found (by omega) (by assumption) hI2 | exact idxF_none (fun j h => hI2 j h (by omega))
  refine q_end0 (v := Vi (-1)) (rt1 rfl (r_tmp rfl)) (i := 0) rfl ?_
  exact (by have hcc := congrArg (fun (y0 : Int) => (.int .i64 y0 : Value)) hr0; exact hcc)

set_option maxHeartbeats 8000000 in
set_option maxRecDepth 100000 in
theorem containsFunc_Int_ok (l : List Int) (al : Option Addr) (cl : Nat) (gf : FuncId) (kf : List Value) (f : Int → Bool) (Pf : World → Prop) (stf : ∀ w w', Below w.heap.size w w' → Pf w → Pf w') (okf : ∀ (x : Int), Fn0 Try.prog gf (Vi x :: kf) Pf (.bool (f x))) (hpf : HasFn Try.prog gf) : Fn0 Try.prog 33 [.slice al l.length cl, .func (.func gf) #[] kf.toArray] (fun w => Rd tInt w al cl l ∧ Pf w) (.bool (l.any f)) := by
 refine fn0 (nt := 9) (F0 := [(0, .slice al l.length cl), (1, .func (.func gf) #[] kf.toArray)]) Try.func33 rfl Try.ntmps33 rfl rfl (fun w0 hpre => ?_)
 obtain ⟨hl, hf⟩ := hpre
 have hlhl := hl.2.1
 refine c_seq (c_region ?_)
 refine o_as rfl rfl ?_
 refine o_nil (q_then (c_seq (c_region ?_)))
 refine o_mv rfl rfl ?_
 refine o_mv rfl rfl ?_
 refine o_call0 (v := Vi (idxF f l)) rfl (indexFunc_Int_ok l al cl gf kf f Pf stf okf hpf) hf56 (fun w hw => ⟨(rd_base (i := 0) rfl hl) w hw, pre_base (i := 0) rfl stf hf w hw⟩) rfl ?_
 refine o_p (p_ge rfl rfl) ?_
 refine o_as rfl rfl ?_
 refine o_nil (q_then (c_ret ?_))
 have hr0 : (decide (0 ≤ (idxF f l)) : Bool) = (l.any f) := by
  exact (any_idxF f l).symm
 refine q_end0 (v := .bool (decide (0 ≤ (idxF f l)))) (rt1 rfl (r_tmp rfl)) (i := 0) rfl ?_
 exact (by have hcc := congrArg (fun (y0 : Bool) => (.bool y0 : Value)) hr0; exact hcc)

set_option maxHeartbeats 8000000 in
set_option maxRecDepth 100000 in
theorem grow_int_ok (l : List Int) (al : Option Addr) (cl : Nat) (Sl : Nat → Prop) (n : Int) (hy1 : l.length = 0 ∧ cl = 0 ∧ 0 ≤ n ∧ n ≤ 1000000) : FnX Try.prog 86 [.slice al l.length cl, Vi n] [own tInt Sl al cl l] (fun _ => True) (Option Addr × Nat × (Nat → Prop)) (fun p => .slice p.1 l.length p.2.1) (fun p => [own tInt p.2.2 p.1 p.2.1 l]) := by
 refine fnX (nt := 27) (F0 := [(0, .slice al l.length cl), (1, Vi n)]) Try.func86 rfl Try.ntmps86 rfl rfl (fun w0 hpre => ?_)
 refine c_know (fun w hw => own_len (i := 1) (T := tInt) hw rfl) (fun hlown_l => ?_)
 obtain ⟨hcown_l, hlown_l⟩ := hlown_l
 refine c_seq (c_region ?_)
 refine o_as rfl rfl ?_
 refine o_nil (q_then (c_seq (c_seq (c_region ?_))))
 refine o_mv rfl rfl ?_
 refine o_p (p_lt rfl rfl) ?_
 refine o_nil (q_then ?_)
 refine c_cond rfl (fun hc1 => ?_) (fun hc1 => ?_)
 ·simp only [decide_eq_true_eq] at hc1
  exfalso; omega
 ·simp only [decide_eq_false_iff_not, Int.not_lt] at hc1
  refine c_skip (q_then (c_seq (c_seq (c_region ?_))))
  refine o_mv rfl rfl ?_
  refine o_mv rfl rfl ?_
  refine o_p (p_cap_slice rfl rfl Try.underlying22) ?_
  refine o_mv rfl rfl ?_
  refine o_p (p_len_slice rfl rfl Try.underlying22) ?_
  refine o_p (p_subb rfl rfl (by omega)) ?_
  refine o_p (p_subb rfl rfl (by omega)) ?_
  refine o_as rfl rfl ?_
  refine o_nil (q_then (c_seq (c_region ?_)))
  refine o_mv rfl rfl ?_
  refine o_p (p_gt rfl rfl) ?_
  refine o_nil (q_then ?_)
  refine c_cond rfl (fun hc2 => ?_) (fun hc2 => ?_)
  ·simp only [decide_eq_true_eq] at hc2
   refine c_region ?_
   refine o_mv rfl rfl ?_
   refine o_mv rfl rfl ?_
   refine o_p (p_cap_slice rfl rfl Try.underlying22) ?_
   refine o_p (p_sliceH (L := l) (T := tInt) (h := (cl : Int)) rfl rfl Try.underlying22 sz3 (by omega) (by omega) (rd_own (i := 1) rfl)) ?_
   refine o_mv rfl rfl ?_
   refine o_appendZ (i := 1) (m := cl) (k := n.toNat) (L := l) (T := tInt) (z := 0) rfl rfl rfl (by omega) Try.underlying22 Try.underlying3 el3 ze3 rfl (by decide) (by omega) rfl (fun a3 c4 S5 => ?_)
   refine o_know (fun w hw => own_len (i := 0) (T := tInt) hw rfl) (fun hlz7 => ?_)
   refine o_mv rfl rfl ?_
   refine o_p (p_len_slice rfl rfl Try.underlying22) ?_
   refine o_p (p_sliceH (L := ((l.take cl) ++ (List.replicate n.toNat 0))) (T := tInt) (h := (l.length : Int)) rfl rfl Try.underlying22 sz3 (by omega) (by omega) (rd_own (i := 0) rfl)) ?_
   refine o_as rfl rfl ?_
   refine o_nil (q_then (c_seq (c_region ?_)))
   refine o_mv rfl rfl ?_
   refine o_as rfl rfl ?_
   refine o_nil (q_then (c_ret ?_))
   refine q_shrinkC (i := 0) (hi := (l.length : Int).toNat) (T := tInt) rfl (by omega) ?_
   have hr0 : ((((l.take cl) ++ (List.replicate n.toNat 0)).take ((l.length : Int).toNat)) : List Int) = l := by
    first | rfl | (rw [List.eq_nil_of_length_eq_zero hy1.1]; simp)
   refine q_endX (p := (a3, c4, S5)) (rt1 rfl (r_tmp rfl)) ?_ (fun w hw => ?_)
   ·exact (by have hcc := congrArg (fun (y0 : List Int) => (.slice a3 y0.length c4 : Value)) hr0; exact hcc)
   ·have h2 := hw.pick (H' := [outer w0 [own tInt Sl al cl l], own tInt S5 a3 c4 (((l.take cl) ++ (List.replicate n.toNat 0)).take ((l.length : Int).toNat))]) [1, 0] (by decide) rfl
    exact Eq.mp (congrArg (fun z => HeapIs w0 ((outer w0 [own tInt Sl al cl l]) :: z) w) ((by have hcc := congrArg (fun (y0 : List Int) => ([own tInt S5 a3 c4 y0] : List Ent)) hr0; exact hcc))) h2
  ·simp only [decide_eq_false_iff_not, Int.not_lt] at hc2
   refine c_skip (q_then (c_seq (c_region ?_)))
   refine o_mv rfl rfl ?_
   refine o_as rfl rfl ?_
   refine o_nil (q_then (c_ret ?_))
   refine q_endX (p := (al, cl, Sl)) (rt1 rfl (r_tmp rfl)) ?_ (fun w hw => ?_)
   ·exact rfl
   ·have h2 := hw.pick (H' := [outer w0 [own tInt Sl al cl l], own tInt Sl al cl l]) [0, 1] (by decide) rfl
    exact Eq.mp (congrArg (fun z => HeapIs w0 ((outer w0 [own tInt Sl al cl l]) :: z) w) (rfl)) h2

set_option maxHeartbeats 8000000 in
set_option maxRecDepth 100000 in
theorem concat_int_ok (l : List Hdr) (al : Option Addr) (cl : Nat) (hy1 : (catH l).length ≤ 1000000) : FnM Try.prog 55 [.slice al l.length cl] (fun w => Rd tHdr w al cl l ∧ (∀ h ∈ l, Rd tInt w h.a h.cap h.L)) (Option Addr × Nat) (fun p => .slice p.1 (catH l).length p.2) (fun p S w => SlO tInt S w p.1 p.2 (catH l)) := by
 refine fnM (nt := 36) (F0 := [(0, .slice al l.length cl)]) Try.func55 rfl Try.ntmps55 rfl rfl (fun w0 hpre => ?_)
 obtain ⟨hl, hrl⟩ := hpre
 have hlhl := hl.2.1
 refine c_seq (c_region ?_)
 refine o_as rfl rfl ?_
 refine o_nil (q_then (c_seq (c_region ?_)))
 refine o_as rfl rfl ?_
 refine o_nil (q_then (c_seq (c_seq (c_region ?_))))
 refine o_mv rfl rfl ?_
 refine o_p (p_len_slice rfl rfl Try.underlying112) ?_
 refine o_mv rfl rfl ?_
 refine o_nil (q_then (c_block ?_))
 refine c_loop (St := Int × Nat)
  (fun ⟨size, k⟩ => [(0, .slice al l.length cl), (3, Vi size), (9, .slice al l.length cl), (10, Vi (l.length : Int)), (11, Vi (k : Int))])
  (fun ⟨size, k⟩ => [base w0])
  (fun ⟨size, k⟩ => k ≤ l.length ∧ size = ((catH (l.take k)).length : Int))
  (fun ⟨size, k⟩ => l.length - k)
  (0, 0) ?_ (sr (sr (sr (sr (sr (Sub.nil _)))))) (fun _ hw => hw) ?_
 ·exact ⟨Nat.zero_le _, by simp [catH]⟩
 rintro ⟨size, k⟩ hI K hK1
 show SC _ _ Try.prog 36 w0 _ _ [(0, .slice al l.length cl), (3, Vi size), (9, .slice al l.length cl), (10, Vi (l.length : Int)), (11, Vi (k : Int))] [base w0]
 refine c_seq (c_region ?_)
 refine o_p (p_lt rfl rfl) ?_
 refine o_nil (q_then (c_seq ?_))
 refine c_cond rfl (fun hc2 => ?_) (fun hc2 => ?_)
 ·simp only [decide_eq_true_eq] at hc2
  have hst := congrArg List.length (catH_step (l := l) (k := k) (by omega))
  rw [List.length_append] at hst
  have hle1 := catH_le l (k + 1)
  refine c_skip (q_then (c_seq (c_block (c_seq (c_region ?_)))))
  refine o_p (p_indexAddr (L := l) (T := tHdr) (i := (k : Int)) rfl rfl (rd_base (i := 0) rfl hl) Try.underlying112 sz22 (by omega) (by omega)) ?_
  refine o_p (p_loadE1 (i := k) (T := tHdr) (L := l) (v := .slice ((l[k]).a) ((l[k]).L).length ((l[k]).cap)) rfl (rd_base (i := 0) rfl hl) (by first | assumption | omega) sh22 rfl) ?_
  refine o_as rfl rfl ?_
  refine o_nil (q_then (c_seq (c_region ?_)))
  refine o_mv rfl rfl ?_
  refine o_mv rfl rfl ?_
  refine o_p (p_len_slice rfl rfl Try.underlying22) ?_
  refine o_p (p_addb rfl rfl (by omega)) ?_
  refine o_as rfl rfl ?_
  refine o_nil (q_then (c_seq (c_region ?_)))
  refine o_mv rfl rfl ?_
  refine o_p (p_lt rfl rfl) ?_
  refine o_nil (q_then ?_)
  refine c_cond rfl (fun hc3 => ?_) (fun hc3 => ?_)
  ·simp only [decide_eq_true_eq] at hc3
   exfalso; omega
  ·simp only [decide_eq_false_iff_not, Int.not_lt] at hc3
   refine c_skip ?_
   refine q_block_normal (q_then ?_)
   refine c_region ?_
   refine o_p (p_addb rfl rfl (by omega)) ?_
   refine o_mv rfl rfl ?_
   refine o_nil ?_
   refine q_round hK1 ((size + (((l[k]).L).length : Int)), k + 1) ?_ ?_ ?_ ?_
   ·clear hK1
    exact ⟨by omega, by omega⟩
   ·(try dsimp only); omega
   ·exact sr (sr (sr (sr (sr (Sub.nil _)))))
   ·exact pk [0]
 ·simp only [decide_eq_false_iff_not, Int.not_lt] at hc2
  have hle0 := catH_le l k
  refine c_exit ?_
  refine q_then_exit (q_then_exit (q_block_exit (q_then ?_)))
  refine c_seq (c_region ?_)
  refine o_mv rfl rfl ?_
  refine o_ownNil tInt ?_
  refine o_callX (pre := [own tInt (fun _ => False) none 0 ([])]) (R := [base w0]) rfl (grow_int_ok ([]) none 0 (fun _ => False) size (by first | exact ⟨rfl, rfl, by omega, by omega⟩)) hf86 rfl (fun _ _ => trivial) rfl ?_
  rintro ⟨a5, c6, S7⟩
  refine o_asH (H' := [own tInt S7 a5 c6 ([]), base w0]) rfl ?_
  refine o_as rfl rfl ?_
  refine o_nil (q_then (c_seq (c_seq (c_region ?_))))
  refine o_mv rfl rfl ?_
  refine o_p (p_len_slice rfl rfl Try.underlying112) ?_
  refine o_mv rfl rfl ?_
  refine o_nil (q_then (c_block ?_))
  refine c_loop (St := List Int × Option Addr × Nat × (Nat → Prop) × Nat)
   (fun ⟨ns, ans, cns, Sns, k2⟩ => [(6, .slice ans ns.length cns), (25, .slice al l.length cl), (26, Vi (l.length : Int)), (27, Vi (k2 : Int))])
   (fun ⟨ns, ans, cns, Sns, k2⟩ => [own tInt Sns ans cns ns, base w0])
   (fun ⟨ns, ans, cns, Sns, k2⟩ => k2 ≤ l.length ∧ ns = catH (l.take k2))
   (fun ⟨ns, ans, cns, Sns, k2⟩ => l.length - k2)
   (([]), a5, c6, S7, 0) ?_ (sr (sr (sr (sr (Sub.nil _))))) (fun _ hw => hw) ?_
  ·exact ⟨Nat.zero_le _, by simp [catH]⟩
  rintro ⟨ns, ans, cns, Sns, k2⟩ hI K hK9
  have hnl : ns.length = (catH (l.take k2)).length := by rw [hI.2]
  show SC _ _ Try.prog 36 w0 _ _ [(6, .slice ans ns.length cns), (25, .slice al l.length cl), (26, Vi (l.length : Int)), (27, Vi (k2 : Int))] [own tInt Sns ans cns ns, base w0]
  refine c_seq (c_region ?_)
  refine o_p (p_lt rfl rfl) ?_
  refine o_nil (q_then (c_seq ?_))
  refine c_cond rfl (fun hc10 => ?_) (fun hc10 => ?_)
  ·simp only [decide_eq_true_eq] at hc10
   have hst := congrArg List.length (catH_step (l := l) (k := k2) (by omega))
   rw [List.length_append] at hst
   have hle1 := catH_le l (k2 + 1)
   refine c_skip (q_then (c_seq (c_block (c_seq (c_region ?_)))))
   refine o_p (p_indexAddr (L := l) (T := tHdr) (i := (k2 : Int)) rfl rfl (rd_base (i := 1) rfl hl) Try.underlying112 sz22 (by omega) (by omega)) ?_
   refine o_p (p_loadE1 (i := k2) (T := tHdr) (L := l) (v := .slice ((l[k2]).a) ((l[k2]).L).length ((l[k2]).cap)) rfl (rd_base (i := 1) rfl hl) (by first | assumption | omega) sh22 rfl) ?_
   refine o_as rfl rfl ?_
   refine o_nil (q_then (c_region ?_))
   refine o_mv rfl rfl ?_
   refine o_mv rfl rfl ?_
   refine o_append (i := 0) (L := ns) (M := (l[k2]).L) (T := tInt) rfl rfl rfl (rd_base (i := 1) rfl (hrl _ (List.getElem_mem (by first | assumption | omega)))) Try.underlying22 Try.underlying22 (by intro k h; cases h) el3 (by intro z; simp [tInt, one1]) (by decide) (by first | omega | (simp only [List.length_cons, List.length_nil]; omega) | (simp only [List.length_append, List.length_cons, List.length_nil, List.length_take, List.length_drop]; omega)) rfl (fun a11 c12 S13 => ?_)
   refine o_as rfl rfl ?_
   refine o_nil ?_
   refine q_block_normal (q_then ?_)
   refine c_region ?_
   refine o_p (p_addb rfl rfl (by omega)) ?_
   refine o_mv rfl rfl ?_
   refine o_nil ?_
   refine q_round hK9 ((ns ++ (l[k2]).L), a11, c12, S13, k2 + 1) ?_ ?_ ?_ ?_
   ·clear hK9
    exact ⟨by omega, (congrArg (fun z => z ++ _) hI.2).trans (catH_step (by omega)).symm⟩
   ·(try dsimp only); omega
   ·exact sr (sr (sr (sr (Sub.nil _))))
   ·exact pk [0, 1]
  ·simp only [decide_eq_false_iff_not, Int.not_lt] at hc10
   refine c_exit ?_
   refine q_then_exit (q_then_exit (q_block_exit (q_then ?_)))
   refine c_seq (c_region ?_)
   refine o_mv rfl rfl ?_
   refine o_as rfl rfl ?_
   refine o_nil (q_then (c_ret ?_))
   have hr0 : (ns : List Int) = (catH l) := by
    exact hI.2.trans (catH_all (by omega))
   refine q_endM (p := (ans, cns)) Sns (rt1 rfl (r_tmp rfl)) (i := 1) rfl ?_ ?_ ?_
   ·exact (by have hcc := congrArg (fun (y0 : List Int) => (.slice ans y0.length cns : Value)) hr0; exact hcc)
   ·exact fun w hw => hw.above (i := 1) (j := 0) (by decide) rfl rfl
   ·intro w hw; exact Eq.mp (congrArg (fun y => SlO tInt _ w ans cns y) hr0) ((hw.at (i := 0) rfl).here)
theorem concat2_ok (x : List Int) (ax : Option Addr) (cx : Nat) (y : List Int) (ay : Option Addr) (cy : Nat) (al : Option Addr) (cl : Nat) (hy1 : x.length + y.length ≤ 1000000) :
  FnM Try.prog 55 [.slice al [(⟨ax, cx, x⟩ : Hdr), (⟨ay, cy, y⟩ : Hdr)].length cl] (fun w => Rd tHdr w al cl [(⟨ax, cx, x⟩ : Hdr), (⟨ay, cy, y⟩ : Hdr)] ∧ Rd tInt w ax cx x ∧ Rd tInt w ay cy y) (Option Addr × Nat) (fun p => .slice p.1 (x ++ y).length p.2) (fun p S w => SlO tInt S w p.1 p.2 (x ++ y)) := fun w hw => by
 have h := concat_int_ok [(⟨ax, cx, x⟩ : Hdr), (⟨ay, cy, y⟩ : Hdr)] al cl (by simp [catH]; omega) w ⟨hw.1, by intro h hm; simp only [List.mem_cons, List.not_mem_nil, or_false] at hm; rcases hm with rfl | rfl; exact hw.2.1; exact hw.2.2⟩
 rw [show catH [(⟨ax, cx, x⟩ : Hdr), (⟨ay, cy, y⟩ : Hdr)] = x ++ y by simp [catH]] at h
 exact h
end Go.Proofs.Ytfncgfcehkalnaa
