/- The walks, printed by a program from the translation and a specification. -/
import Derived.Test.YthecfjipaepcgaaTaF
import Derived.Test.YthecfjipaepcgaaTaLaw
namespace Go.Proofs.Ythecfjipaepcgaa
open Go.Sx Go.RowKit
set_option maxHeartbeats 8000000 in
set_option maxRecDepth 100000 in
theorem mix_ok (n : UInt64) : Fn0 Try.prog 92 [.int .u64 (n.toNat : Int)] (fun _ => True) (.int .u64 ((Hash.mix n).toNat : Int)) := by
 refine fn0 (nt := 17) (F0 := [(0, .int .u64 (n.toNat : Int))]) Try.func92 rfl Try.ntmps92 rfl rfl (fun w0 hpre => ?_)
 refine c_seq (c_region ?_)
 refine o_as rfl rfl ?_
 refine o_nil (q_then (c_seq (c_region ?_)))
 refine o_mv rfl rfl ?_
 refine o_mv rfl rfl ?_
 refine o_p (pu_shr (p := n) (m := 30) rfl rfl (by decide)) ?_
 refine o_p (pu_xor (p := n) (q := (shrU n 30)) rfl rfl) ?_
 refine o_p (pu_mul (p := (n ^^^ (shrU n 30))) (q := (13787848793156543929 : UInt64)) rfl rfl) ?_
 refine o_as rfl rfl ?_
 refine o_nil (q_then (c_seq (c_region ?_)))
 refine o_mv rfl rfl ?_
 refine o_mv rfl rfl ?_
 refine o_p (pu_shr (p := ((n ^^^ (shrU n 30)) * (13787848793156543929 : UInt64))) (m := 27) rfl rfl (by decide)) ?_
 refine o_p (pu_xor (p := ((n ^^^ (shrU n 30)) * (13787848793156543929 : UInt64))) (q := (shrU ((n ^^^ (shrU n 30)) * (13787848793156543929 : UInt64)) 27)) rfl rfl) ?_
 refine o_p (pu_mul (p := (((n ^^^ (shrU n 30)) * (13787848793156543929 : UInt64)) ^^^ (shrU ((n ^^^ (shrU n 30)) * (13787848793156543929 : UInt64)) 27))) (q := (10723151780598845931 : UInt64)) rfl rfl) ?_
 refine o_as rfl rfl ?_
 refine o_nil (q_then (c_seq (c_region ?_)))
 refine o_mv rfl rfl ?_
 refine o_mv rfl rfl ?_
 refine o_p (pu_shr (p := ((((n ^^^ (shrU n 30)) * (13787848793156543929 : UInt64)) ^^^ (shrU ((n ^^^ (shrU n 30)) * (13787848793156543929 : UInt64)) 27)) * (10723151780598845931 : UInt64))) (m := 31) rfl rfl (by decide)) ?_
 refine o_p (pu_xor (p := ((((n ^^^ (shrU n 30)) * (13787848793156543929 : UInt64)) ^^^ (shrU ((n ^^^ (shrU n 30)) * (13787848793156543929 : UInt64)) 27)) * (10723151780598845931 : UInt64))) (q := (shrU ((((n ^^^ (shrU n 30)) * (13787848793156543929 : UInt64)) ^^^ (shrU ((n ^^^ (shrU n 30)) * (13787848793156543929 : UInt64)) 27)) * (10723151780598845931 : UInt64)) 31)) rfl rfl) ?_
 refine o_as rfl rfl ?_
 refine o_nil (q_then (c_ret ?_))
 refine q_end0 (v := .int .u64 ((((((n ^^^ (shrU n 30)) * (13787848793156543929 : UInt64)) ^^^ (shrU ((n ^^^ (shrU n 30)) * (13787848793156543929 : UInt64)) 27)) * (10723151780598845931 : UInt64)) ^^^ (shrU ((((n ^^^ (shrU n 30)) * (13787848793156543929 : UInt64)) ^^^ (shrU ((n ^^^ (shrU n 30)) * (13787848793156543929 : UInt64)) 27)) * (10723151780598845931 : UInt64)) 31)).toNat : Int)) (rt1 rfl (r_tmp rfl)) (i := 0) rfl ?_
 rfl

set_option maxHeartbeats 8000000 in
set_option maxRecDepth 100000 in
theorem raw_ok (s : ByteArray) : Fn0 Try.prog 72 [.string s] (fun w => s.size ≤ 9223372036854775807) (.int .u64 ((Hash.raw s).toNat : Int)) := by
 refine fn0 (nt := 19) (F0 := [(0, .string s)]) Try.func72 rfl Try.ntmps72 rfl rfl (fun w0 hpre => ?_)
 have hs := hpre
 refine c_seq (c_region ?_)
 refine o_as rfl rfl ?_
 refine o_nil (q_then (c_seq (c_region ?_)))
 refine o_as rfl rfl ?_
 refine o_nil (q_then (c_seq (c_seq (c_region ?_))))
 refine o_mv rfl rfl ?_
 refine o_p (p_len_string rfl rfl Try.underlying9) ?_
 refine o_mv rfl rfl ?_
 refine o_nil (q_then (c_block ?_))
 refine c_loop (St := UInt64 × Nat)
  (fun ⟨n, k⟩ => [(0, .string s), (3, .int .u64 (n.toNat : Int)), (6, Vi (s.size : Int)), (7, Vi (k : Int))])
  (fun ⟨n, k⟩ => [base w0])
  (fun ⟨n, k⟩ => k ≤ s.size ∧ n = Hash.rawTo s k)
  (fun ⟨n, k⟩ => s.size - k)
  ((14695981039346656037 : UInt64), 0) ?_ (sr (sr (sr (sr (Sub.nil _))))) (fun _ hw => hw) ?_
 ·exact ⟨Nat.zero_le _, rfl⟩
 rintro ⟨n, k⟩ hI K hK1
 obtain ⟨hk, ho⟩ := hI
 show SC _ _ Try.prog 19 w0 _ _ [(0, .string s), (3, .int .u64 (n.toNat : Int)), (6, Vi (s.size : Int)), (7, Vi (k : Int))] [base w0]
 refine c_seq (c_region ?_)
 refine o_p (p_lt rfl rfl) ?_
 refine o_nil (q_then (c_seq ?_))
 refine c_cond rfl (fun hc2 => ?_) (fun hc2 => ?_)
 ·simp only [decide_eq_true_eq] at hc2
  refine c_skip (q_then (c_seq (c_block (c_seq (c_region ?_)))))
  refine o_mv rfl rfl ?_
  refine o_as rfl rfl ?_
  refine o_nil (q_then (c_region ?_))
  refine o_mv rfl rfl ?_
  refine o_mv rfl rfl ?_
  refine o_mv rfl rfl ?_
  refine o_p (p_indexStr (z := (k : Int)) (i := k) rfl rfl Try.underlying9 (by omega) (by omega)) ?_
  refine o_p (pu_convB (c := (byteAt s k)) rfl Try.underlying5 Try.underlying59) ?_
  refine o_p (pu_xor (p := n) (q := (byteAt s k).toUInt64) rfl rfl) ?_
  refine o_p (pu_mul (p := (n ^^^ (byteAt s k).toUInt64)) (q := (1099511628211 : UInt64)) rfl rfl) ?_
  refine o_as rfl rfl ?_
  refine o_nil ?_
  refine q_block_normal (q_then ?_)
  refine c_region ?_
  refine o_p (p_addb rfl rfl (by omega)) ?_
  refine o_mv rfl rfl ?_
  refine o_nil ?_
  refine q_round hK1 (((n ^^^ (byteAt s k).toUInt64) * (1099511628211 : UInt64)), k + 1) ?_ ?_ ?_ ?_
  ·clear hK1
   exact ⟨by omega, by rw [ho]; rfl⟩
  ·(try dsimp only); omega
  ·exact sr (sr (sr (sr (Sub.nil _))))
  ·exact pk [0]
 ·simp only [decide_eq_false_iff_not, Int.not_lt] at hc2
  refine c_exit ?_
  refine q_then_exit (q_then_exit (q_block_exit (q_then ?_)))
  refine c_seq (c_region ?_)
  refine o_mv rfl rfl ?_
  refine o_as rfl rfl ?_
  refine o_nil (q_then (c_ret ?_))
  refine q_end0 (v := .int .u64 (n.toNat : Int)) (rt1 rfl (r_tmp rfl)) (i := 0) rfl ?_
  rw [show n = Hash.raw s by unfold Hash.raw; rw [ho]; congr 1; omega]

set_option maxHeartbeats 8000000 in
set_option maxRecDepth 100000 in
theorem rawFold_ok (n : UInt64) (most : Int) : Fn0 Try.prog 91 [.int .u64 (n.toNat : Int), Vi most] (fun _ => True) (Vi (Hash.rawFold n most)) := by
 refine fn0 (nt := 12) (F0 := [(0, .int .u64 (n.toNat : Int)), (1, Vi most)]) Try.func91 rfl Try.ntmps91 rfl rfl (fun w0 hpre => ?_)
 refine c_seq (c_region ?_)
 refine o_as rfl rfl ?_
 refine o_nil (q_then (c_seq (c_region ?_)))
 refine o_mv rfl rfl ?_
 refine o_p (pu_shr (p := n) (m := 32) rfl rfl (by decide)) ?_
 refine o_mv rfl rfl ?_
 refine o_p (pu_conv (z := most) rfl Try.underlying3 Try.underlying59) ?_
 refine o_p (pu_mul (p := (shrU n 32)) (q := (toU most)) rfl rfl) ?_
 refine o_p (pu_shr (p := ((shrU n 32) * (toU most))) (m := 32) rfl rfl (by decide)) ?_
 refine o_p (p_conv (z := ((shrU ((shrU n 32) * (toU most)) 32).toNat : Int)) rfl Try.underlying59 Try.underlying3) ?_
 refine o_as rfl rfl ?_
 refine o_nil (q_then (c_ret ?_))
 refine q_end0 (v := Vi (IntKind.i64.wrap ((shrU ((shrU n 32) * (toU most)) 32).toNat : Int))) (rt1 rfl (r_tmp rfl)) (i := 0) rfl ?_
 rfl

set_option maxHeartbeats 8000000 in
set_option maxRecDepth 100000 in
theorem thome_ok (key : ByteArray) (slots : Int) (hy1 : key.size ≤ 40) : Fn0 Try.prog 60 [.string key, Vi slots] (fun _ => True) (Vi (Tab.home key slots)) := by
 refine fn0 (nt := 10) (F0 := [(0, .string key), (1, Vi slots)]) Try.func60 rfl Try.ntmps60 rfl rfl (fun w0 hpre => ?_)
 refine c_seq (c_region ?_)
 refine o_as rfl rfl ?_
 refine o_nil (q_then (c_seq (c_region ?_)))
 refine o_mv rfl rfl ?_
 refine o_call0 (v := .int .u64 ((Hash.raw key).toNat : Int)) rfl (raw_ok key) hf72 (fun w hw => (by first | assumption | omega | decide | (rw [ByteArray.size_append]; omega) | simp)) rfl ?_
 refine o_call0 (v := .int .u64 ((Hash.mix (Hash.raw key)).toNat : Int)) rfl (mix_ok (Hash.raw key)) hf92 (fun _ _ => trivial) rfl ?_
 refine o_mv rfl rfl ?_
 refine o_call0 (v := Vi (Hash.rawFold (Hash.mix (Hash.raw key)) slots)) rfl (rawFold_ok (Hash.mix (Hash.raw key)) slots) hf91 (fun _ _ => trivial) rfl ?_
 refine o_as rfl rfl ?_
 refine o_nil (q_then (c_ret ?_))
 have hr0 : ((Hash.rawFold (Hash.mix (Hash.raw key)) slots) : Int) = (Tab.home key slots) := by
  rfl
 refine q_end0 (v := Vi (Hash.rawFold (Hash.mix (Hash.raw key)) slots)) (rt1 rfl (r_tmp rfl)) (i := 0) rfl ?_
 exact (by have hcc := congrArg (fun (y0 : Int) => (.int .i64 y0 : Value)) hr0; exact hcc)

set_option maxHeartbeats 8000000 in
set_option maxRecDepth 100000 in
theorem tright_ok (value : Int) : Fn0 Try.prog 56 [Vi value] (fun _ => True) (.bool (Tab.okVal value)) := by
 refine fn0 (nt := 9) (F0 := [(0, Vi value)]) Try.func56 rfl Try.ntmps56 rfl rfl (fun w0 hpre => ?_)
 refine c_seq (c_region ?_)
 refine o_as rfl rfl ?_
 refine o_nil (q_then (c_seq (c_region ?_)))
 refine o_mv rfl rfl ?_
 refine o_p (p_ge rfl rfl) ?_
 refine o_mv rfl rfl ?_
 refine o_and (p := 8) 3 (decide (value ≤ 1099511627776)) ?_ ?_ ?_
 ·intro hb1 hk
  simp only [decide_eq_true_eq] at hb1
  refine o_unguard 5 rfl rfl ?_
  refine o_mv rfl rfl ?_
  refine o_unguard 5 rfl rfl ?_
  refine o_p (p_le rfl rfl) ?_
  refine o_pt rfl rfl rfl ?_
  exact o_sub (sr (Sub.skip rfl (Sub.skip rfl (Sub.skip rfl (Sub.skip rfl (Sub.refl _)))))) hk
 ·intro hb1 hk
  refine o_guard_no rfl 5 rfl rfl rfl rfl rfl ?_
  refine o_guard_no rfl 5 rfl rfl rfl rfl rfl ?_
  refine o_pf rfl rfl rfl ?_
  exact o_sub (sr (Sub.skip rfl (Sub.skip rfl (Sub.skip rfl (Sub.skip rfl (Sub.refl _)))))) hk
 refine o_as rfl rfl ?_
 refine o_nil (q_then (c_ret ?_))
 have hr0 : ((decide ((-1099511627776) ≤ value) && decide (value ≤ 1099511627776)) : Bool) = (Tab.okVal value) := by
  rfl
 refine q_end0 (v := .bool (decide ((-1099511627776) ≤ value) && decide (value ≤ 1099511627776))) (rt1 rfl (r_tmp rfl)) (i := 0) rfl ?_
 exact (by have hcc := congrArg (fun (y0 : Bool) => (.bool y0 : Value)) hr0; exact hcc)

set_option maxHeartbeats 8000000 in
set_option maxRecDepth 100000 in
theorem tone_ok (s : DSlot) : Fn0 Try.prog 65 [.agg #[.bool s.used, .string s.key, Vi s.value]] (fun _ => True) (Vi (Tab.one s)) := by
 refine fn0 (nt := 23) (F0 := [(0, .agg #[.bool s.used, .string s.key, Vi s.value])]) Try.func65 rfl Try.ntmps65 rfl rfl (fun w0 hpre => ?_)
 refine c_seq (c_region ?_)
 refine o_box (v := .agg #[.bool s.used, .string s.key, Vi s.value]) rfl rfl (fun B1 => ?_)
 refine o_as rfl rfl ?_
 refine o_nil (q_then (c_seq (c_block (c_seq (c_region ?_)))))
 refine o_p (p_fieldAddr (j' := 0) rfl fo33_0 rfl) ?_
 refine o_p (p_load (i := 0) (v := .bool s.used) rfl rfl sh4 rfl) ?_
 refine o_p (p_not (b := s.used) rfl) ?_
 refine o_mv rfl rfl ?_
 refine o_and (p := 11) 4 (!((s.used == false) && (decide (s.key = ByteArray.empty) && (s.value == 0)))) ?_ ?_ ?_
 ·intro hb2 hk
  simp only [Bool.not_eq_true'] at hb2
  refine o_unguard 7 rfl rfl ?_
  refine o_p (p_load_agg (i := 0) (vs := [.bool s.used, .string s.key, Vi s.value]) rfl rfl sh33 rfl rfl) ?_
  refine o_unguard 7 rfl rfl ?_
  refine o_p (p_build (cells := [.bool false, .string ByteArray.empty, Vi 0]) fp33 ze33 rfl rfl) ?_
  refine o_unguard 7 rfl rfl ?_
  refine o_p (p_neStruct (xs := [.bool s.used, .string s.key, Vi s.value]) (ys := [.bool false, .string ByteArray.empty, Vi 0]) (r := ((s.used == false) && (decide (s.key = ByteArray.empty) && (s.value == 0)))) rfl rfl eqS33) ?_
  refine o_pt rfl rfl rfl ?_
  exact o_sub (sr (Sub.skip rfl (Sub.skip rfl (Sub.skip rfl (Sub.skip rfl (Sub.skip rfl (Sub.refl _))))))) hk
 ·intro hb2 hk
  refine o_guard_no rfl 7 rfl rfl rfl rfl rfl ?_
  refine o_guard_no rfl 7 rfl rfl rfl rfl rfl ?_
  refine o_guard_no rfl 7 rfl rfl rfl rfl rfl ?_
  refine o_pf rfl rfl rfl ?_
  exact o_sub (sr (Sub.skip rfl (Sub.skip rfl (Sub.skip rfl (Sub.skip rfl (Sub.skip rfl (Sub.refl _))))))) hk
 refine o_as rfl rfl ?_
 refine o_nil (q_then ?_)
 refine c_cond rfl (fun hc3 => ?_) (fun hc3 => ?_)
 ·simp only [Bool.and_eq_true, Bool.not_eq_true', Bool.and_eq_false_iff, beq_eq_false_iff_ne, ne_eq, decide_eq_false_iff_not] at hc3
  refine c_seq (c_region ?_)
  refine o_as rfl rfl ?_
  refine o_nil (q_then (c_ret ?_))
  refine q_block_ret (q_then_ret ?_)
  have hr0 : (1 : Int) = (Tab.one s) := by
   first | exact Tab.one1 (s := s) (by assumption) | exact Tab.one2 (s := s) (by assumption) (by assumption) | exact Tab.one3 (s := s) (by assumption) (by assumption)
  refine q_end0 (v := Vi 1) (rt1 rfl (r_tmp rfl)) (i := 1) rfl ?_
  exact (by have hcc := congrArg (fun (y0 : Int) => (.int .i64 y0 : Value)) hr0; exact hcc)
 ·simp only [Bool.and_eq_false_iff, Bool.not_eq_false', Bool.and_eq_true, beq_iff_eq, decide_eq_true_eq] at hc3
  refine c_seq (c_region ?_)
  refine o_p (p_fieldAddr (j' := 1) rfl fo33_1 rfl) ?_
  refine o_p (p_load (i := 0) (v := .string s.key) rfl rfl sh9 rfl) ?_
  refine o_p (p_len_string rfl rfl Try.underlying9) ?_
  refine o_p (p_gt rfl rfl) ?_
  refine o_mv rfl rfl ?_
  refine o_or (p := 22) 5 (!(Tab.okVal s.value)) ?_ ?_ ?_
  ·intro hb4 hk
   simp only [decide_eq_false_iff_not, Int.not_lt] at hb4
   refine o_unguard 17 rfl rfl ?_
   refine o_p (p_fieldAddr (j' := 2) rfl fo33_2 rfl) ?_
   refine o_unguard 17 rfl rfl ?_
   refine o_p (p_load (i := 0) (v := Vi s.value) rfl rfl sh3 rfl) ?_
   refine o_unguard 17 rfl rfl ?_
   refine o_call0 (v := .bool (Tab.okVal s.value)) rfl (tright_ok s.value) hf56 (fun _ _ => trivial) rfl ?_
   refine o_unguard 17 rfl rfl ?_
   refine o_p (p_not (b := (Tab.okVal s.value)) rfl) ?_
   refine o_pf rfl rfl rfl ?_
   exact o_sub (sr (Sub.skip rfl (Sub.skip rfl (Sub.skip rfl (Sub.skip rfl (Sub.skip rfl (Sub.skip rfl (Sub.refl _)))))))) hk
  ·intro hb4 hk
   refine o_guard_no rfl 17 rfl rfl rfl rfl rfl ?_
   refine o_guard_no rfl 17 rfl rfl rfl rfl rfl ?_
   refine o_guard_no rfl 17 rfl rfl rfl rfl rfl ?_
   refine o_guard_no rfl 17 rfl rfl rfl rfl rfl ?_
   refine o_pt rfl rfl rfl ?_
   exact o_sub (sr (Sub.skip rfl (Sub.skip rfl (Sub.skip rfl (Sub.skip rfl (Sub.skip rfl (Sub.skip rfl (Sub.refl _)))))))) hk
  refine o_as rfl rfl ?_
  refine o_nil (q_then ?_)
  refine c_cond rfl (fun hc5 => ?_) (fun hc5 => ?_)
  ·simp only [Bool.or_eq_true, decide_eq_true_eq, Bool.not_eq_true'] at hc5
   refine c_seq (c_region ?_)
   refine o_as rfl rfl ?_
   refine o_nil (q_then (c_ret ?_))
   refine q_block_ret (q_then_ret ?_)
   have hr0 : (3 : Int) = (Tab.one s) := by
    first | exact Tab.one1 (s := s) (by assumption) | exact Tab.one2 (s := s) (by assumption) (by assumption) | exact Tab.one3 (s := s) (by assumption) (by assumption)
   refine q_end0 (v := Vi 3) (rt1 rfl (r_tmp rfl)) (i := 1) rfl ?_
   exact (by have hcc := congrArg (fun (y0 : Int) => (.int .i64 y0 : Value)) hr0; exact hcc)
  ·simp only [Bool.or_eq_false_iff, decide_eq_false_iff_not, Int.not_lt, Bool.not_eq_false'] at hc5
   refine c_skip ?_
   refine q_block_normal (q_then ?_)
   refine c_seq (c_region ?_)
   refine o_as rfl rfl ?_
   refine o_nil (q_then (c_ret ?_))
   have hr0 : (0 : Int) = (Tab.one s) := by
    first | exact Tab.one1 (s := s) (by assumption) | exact Tab.one2 (s := s) (by assumption) (by assumption) | exact Tab.one3 (s := s) (by assumption) (by assumption)
   refine q_end0 (v := Vi 0) (rt1 rfl (r_tmp rfl)) (i := 1) rfl ?_
   exact (by have hcc := congrArg (fun (y0 : Int) => (.int .i64 y0 : Value)) hr0; exact hcc)

set_option maxHeartbeats 8000000 in
set_option maxRecDepth 100000 in
theorem round1_ok (slots : Int) (Ba : Nat) (from_ : Int) (Bb : Nat) (hy1 : 1 ≤ slots ∧ slots ≤ 64 ∧ 0 ≤ from_ ∧ from_ ≤ 64) : ItOk Try.prog 90 [.pointer (some ⟨Ba, 0, none⟩), .pointer (some ⟨Bb, 0, none⟩)] (fun e w => ((box Ba [Vi slots] 3).A w ∧ (outer w [e]).S Ba) ∧ ((box Bb [Vi from_] 3).A w ∧ (outer w [e]).S Bb)) Unit (fun x k => [Vi (Tab.place from_ slots k)]) (fun x k => []) (slots.toNat) := by
 refine fnIt (nt := 18) (F1 := [(1, .pointer (some ⟨Ba, 0, none⟩)), (2, .pointer (some ⟨Bb, 0, none⟩))]) Try.func90 rfl Try.ntmps90 rfl rfl ?_
 intro l_ φ ψ e0 w0 hpre hφ Y
 obtain ⟨hb_Ba, hb_Bb⟩ := hpre
 refine c_seq (c_region ?_)
 refine o_p (p_loadR (v := Vi slots) rfl (rbox_outer (i := 0) rfl hb_Ba) sh3 rfl) ?_
 refine o_mv rfl rfl ?_
 refine o_nil (q_then (c_block ?_))
 refine c_loop (St := Nat × Ent)
  (fun ⟨k, e⟩ => [(0, .func (.yield l_) #[] #[]), (1, .pointer (some ⟨Ba, 0, none⟩)), (2, .pointer (some ⟨Bb, 0, none⟩)), (5, Vi slots), (6, Vi (k : Int))])
  (fun ⟨k, e⟩ => [outer w0 [e0], e])
  (fun ⟨k, e⟩ => k ≤ slots.toNat ∧ φ k e)
  (fun ⟨k, e⟩ => slots.toNat - k)
  (0, e0) ?_ (sr (sr (sr (sr (sr (Sub.nil _)))))) (fun _ hw => hw) ?_
 ·exact ⟨Nat.zero_le _, hφ⟩
 rintro ⟨k, e⟩ hI K hK1
 show SC _ _ Try.prog 18 w0 _ _ [(0, .func (.yield l_) #[] #[]), (1, .pointer (some ⟨Ba, 0, none⟩)), (2, .pointer (some ⟨Bb, 0, none⟩)), (5, Vi slots), (6, Vi (k : Int))] [outer w0 [e0], e]
 refine c_seq (c_region ?_)
 refine o_p (p_lt rfl rfl) ?_
 refine o_nil (q_then (c_seq ?_))
 refine c_cond rfl (fun hc2 => ?_) (fun hc2 => ?_)
 ·simp only [decide_eq_true_eq] at hc2
  refine c_skip (q_then (c_seq (c_block (c_seq (c_region ?_)))))
  refine o_mv rfl rfl ?_
  refine o_as rfl rfl ?_
  refine o_nil (q_then (c_seq ?_))
  refine c_regionY ?_
  refine o_mv rfl rfl ?_
  refine o_p (p_loadR (v := Vi from_) rfl (rbox_outer (i := 0) rfl hb_Bb) sh3 rfl) ?_
  refine o_mv rfl rfl ?_
  refine o_p (p_addb rfl rfl (by omega)) ?_
  refine o_p (p_loadR (v := Vi slots) rfl (rbox_outer (i := 0) rfl hb_Ba) sh3 rfl) ?_
  refine o_p (p_rem (p := (from_ + (k : Int))) (q := slots) rfl rfl (by omega)) ?_
  refine o_yield (l := l_) (vs := [Vi ((from_ + (k : Int)).tmod slots)]) (φ := φ (k + 1)) (ψ := ψ) rfl rfl (fun W hW => Y () k e W (by omega) hI.2 hW) rfl (fun e_3 he4 => ?_) (fun e_3 he4 => ?_)
  ·have hend := he4
   refine o_p (p_not (b := true) rfl) ?_
   refine o_nil (q_then ?_)
   refine c_false rfl ?_
   refine c_skip ?_
   refine q_block_normal (q_then ?_)
   refine c_region ?_
   refine o_p (p_addb rfl rfl (by omega)) ?_
   refine o_mv rfl rfl ?_
   refine o_nil ?_
   refine q_round hK1 (k + 1, e_3) ?_ ?_ ?_ ?_
   ·clear hK1
    exact ⟨by omega, hend⟩
   ·(try dsimp only); omega
   ·exact sr (sr (sr (sr (sr (Sub.nil _)))))
   ·exact pk [0, 1]
  ·have hend := he4
   refine o_p (p_not (b := false) rfl) ?_
   refine o_nil (q_then ?_)
   refine c_true rfl ?_
   refine c_ret ?_
   refine q_block_ret (q_then_ret (q_then_ret (q_block_ret ?_)))
   refine q_endI (e := e_3) (rt0 rfl) ?_ (fun w hw => hw.pick (H' := [outer w0 [e0], e_3]) [0, 1] (by decide) rfl)
   first | exact .inr hend | exact .inl (it_fin hI.2 (by omega))
 ·simp only [decide_eq_false_iff_not, Int.not_lt] at hc2
  refine c_exit ?_
  refine q_then_exit (q_then_exit (q_block_exit ?_))
  refine q_endI (e := e) (rt0 rfl) ?_ (fun w hw => hw.pick (H' := [outer w0 [e0], e]) [0, 1] (by decide) rfl)
  first | exact .inr hend | exact .inl (it_fin hI.2 (by omega))

set_option maxHeartbeats 8000000 in
set_option maxRecDepth 100000 in
theorem tround_ok (slots : Int) (from_ : Int) : FnX Try.prog 59 [Vi slots, Vi from_] [] (fun _ => True) (Nat × Nat) (fun p => .func (.func 90) #[] #[.pointer (some ⟨p.1, 0, none⟩), .pointer (some ⟨p.2, 0, none⟩)]) (fun p => [box p.1 [Vi slots] 3, box p.2 [Vi from_] 3]) := by
 refine fnX (nt := 6) (F0 := [(0, Vi slots), (1, Vi from_)]) Try.func59 rfl Try.ntmps59 rfl rfl (fun w0 hpre => ?_)
 refine c_seq (c_region ?_)
 refine o_box (v := Vi slots) rfl rfl (fun B1 => ?_)
 refine o_box (v := Vi from_) rfl rfl (fun B2 => ?_)
 refine o_as rfl rfl ?_
 refine o_nil (q_then (c_seq (c_region ?_)))
 refine o_p (p_makeFunc (vs := [.pointer (some ⟨B1, 0, none⟩), .pointer (some ⟨B2, 0, none⟩)]) rfl) ?_
 refine o_as rfl rfl ?_
 refine o_nil (q_then (c_ret ?_))
 refine q_endX (p := (B1, B2)) (rt1 rfl (r_tmp rfl)) rfl (fun w hw => ?_)
 exact hw.pick (H' := [outer w0 [], box B1 [Vi slots] 3, box B2 [Vi from_] 3]) [2, 1, 0] (by decide) rfl
end Go.Proofs.Ythecfjipaepcgaa
