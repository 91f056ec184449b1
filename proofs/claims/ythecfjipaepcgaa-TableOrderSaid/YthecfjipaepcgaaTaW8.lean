/- The walks, printed by a program from the translation and a specification. -/
import Derived.Test.YthecfjipaepcgaaTaF
import Derived.Test.YthecfjipaepcgaaTaLaw
import Derived.Test.YthecfjipaepcgaaTaLaw3
namespace Go.Proofs.Ythecfjipaepcgaa
open Go.Sx Go.RowKit
set_option maxHeartbeats 8000000 in
set_option maxRecDepth 100000 in
theorem sameSlots_ok (a : List DSlot) (aa : Option Addr) (ca : Nat) (b : List DSlot) (ab : Option Addr) (cb : Nat) : Fn0 Try.prog 26 [.slice aa a.length ca, .slice ab b.length cb] (fun w => Rd tSlot w aa ca a ∧ Rd tSlot w ab cb b) (.bool (decide (a = b))) := by
 refine fn0 (nt := 26) (F0 := [(0, .slice aa a.length ca), (1, .slice ab b.length cb)]) Try.func26 rfl Try.ntmps26 rfl rfl (fun w0 hpre => ?_)
 obtain ⟨ha, hb⟩ := hpre
 have hlha := ha.2.1
 have hlhb := hb.2.1
 refine c_seq (c_region ?_)
 refine o_as rfl rfl ?_
 refine o_nil (q_then (c_seq (c_seq (c_region ?_))))
 refine o_mv rfl rfl ?_
 refine o_p (p_len_slice rfl rfl Try.underlying22) ?_
 refine o_mv rfl rfl ?_
 refine o_p (p_len_slice rfl rfl Try.underlying22) ?_
 refine o_p (p_ne rfl rfl) ?_
 refine o_nil (q_then ?_)
 refine c_cond rfl (fun hc1 => ?_) (fun hc1 => ?_)
 ·simp only [bne_iff_ne, ne_eq] at hc1
  refine c_seq (c_region ?_)
  refine o_as rfl rfl ?_
  refine o_nil (q_then (c_ret ?_))
  refine q_then_ret ?_
  have hr0 : (false : Bool) = (decide (a = b)) := by
   first | exact Tab.same_len (by assumption) | exact Tab.same_no2 (by assumption) | exact Tab.same_yes hI (by omega) (by omega)
  refine q_end0 (v := .bool false) (rt1 rfl (r_tmp rfl)) (i := 0) rfl ?_
  exact (by have hcc := congrArg (fun (y0 : Bool) => (.bool y0 : Value)) hr0; exact hcc)
 ·simp only [bne_eq_false_iff_eq] at hc1
  refine c_skip (q_then (c_seq (c_seq (c_region ?_))))
  refine o_as rfl rfl ?_
  refine o_nil (q_then (c_block ?_))
  refine c_loop (St := Nat)
   (fun i => [(0, .slice aa a.length ca), (1, .slice ab b.length cb), (5, Vi (i : Int))])
   (fun i => [base w0])
   (fun i => i ≤ a.length ∧ ∀ j, j < i → a.getD j default = b.getD j default)
   (fun i => a.length - i)
   0 ?_ (sr (sr (sr (Sub.nil _)))) (fun _ hw => hw) ?_
  ·exact ⟨Nat.zero_le _, fun j h => absurd h (Nat.not_lt_zero j)⟩
  rintro i hI K hK2
  show SC _ _ Try.prog 26 w0 _ _ [(0, .slice aa a.length ca), (1, .slice ab b.length cb), (5, Vi (i : Int))] [base w0]
  refine c_seq (c_seq (c_region ?_))
  refine o_mv rfl rfl ?_
  refine o_mv rfl rfl ?_
  refine o_p (p_len_slice rfl rfl Try.underlying22) ?_
  refine o_p (p_lt rfl rfl) ?_
  refine o_nil (q_then ?_)
  refine c_cond rfl (fun hc3 => ?_) (fun hc3 => ?_)
  ·simp only [decide_eq_true_eq] at hc3
   refine c_skip (q_then (c_seq (c_block (c_seq ?_))))
   refine c_draw hmix (by kernel_rfl) ?_
   refine w_mv rfl rfl ?_
   refine w_mv rfl rfl ?_
   refine w_p (p_indexAddr (L := a) (T := tSlot) (i := (i : Int)) rfl rfl (rd_base (i := 0) rfl ha) Try.underlying22 sz33 (by omega) (by omega)) ?_
   refine w_p (p_loadEn (i := i) (T := tSlot) (L := a) (vs := [.bool ((a.getD i default).used), .string ((a.getD i default).key), Vi ((a.getD i default).value)]) rfl (rd_base (i := 0) rfl ha) (by first | assumption | omega) sh33 (congrArg tSlot.enc (getd_at (by first | assumption | omega) default))) ?_
   refine w_mv rfl rfl ?_
   refine w_mv rfl rfl ?_
   refine w_p (p_indexAddr (L := b) (T := tSlot) (i := (i : Int)) rfl rfl (rd_base (i := 0) rfl hb) Try.underlying22 sz33 (by omega) (by omega)) ?_
   refine w_p (p_loadEn (i := i) (T := tSlot) (L := b) (vs := [.bool ((b.getD i default).used), .string ((b.getD i default).key), Vi ((b.getD i default).value)]) rfl (rd_base (i := 0) rfl hb) (by first | assumption | omega) sh33 (congrArg tSlot.enc (getd_at (by first | assumption | omega) default))) ?_
   refine w_p (p_neStruct (xs := [.bool ((a.getD i default).used), .string ((a.getD i default).key), Vi ((a.getD i default).value)]) (ys := [.bool ((b.getD i default).used), .string ((b.getD i default).key), Vi ((b.getD i default).value)]) (r := (((a.getD i default).used == (b.getD i default).used) && (decide ((a.getD i default).key = (b.getD i default).key) && ((a.getD i default).value == (b.getD i default).value)))) rfl rfl eqS33) ?_
   refine w_nil (q_then ?_)
   refine c_cond rfl (fun hc4 => ?_) (fun hc4 => ?_)
   ·simp only [Bool.not_eq_true', Bool.and_eq_false_iff, beq_eq_false_iff_ne, ne_eq, decide_eq_false_iff_not] at hc4
    refine c_seq (c_region ?_)
    refine o_as rfl rfl ?_
    refine o_nil (q_then (c_ret ?_))
    refine q_block_ret (q_then_ret (q_then_ret (q_block_ret (q_then_ret ?_))))
    have hr0 : (false : Bool) = (decide (a = b)) := by
     first | exact Tab.same_len (by assumption) | exact Tab.same_no2 (by assumption) | exact Tab.same_yes hI (by omega) (by omega)
    refine q_end0 (v := .bool false) (rt1 rfl (r_tmp rfl)) (i := 0) rfl ?_
    exact (by have hcc := congrArg (fun (y0 : Bool) => (.bool y0 : Value)) hr0; exact hcc)
   ·simp only [Bool.not_eq_false', Bool.and_eq_true, beq_iff_eq, decide_eq_true_eq] at hc4
    refine c_skip ?_
    refine q_block_normal (q_then ?_)
    refine c_region ?_
    refine o_mv rfl rfl ?_
    refine o_p (p_addb rfl rfl (by omega)) ?_
    refine o_as rfl rfl ?_
    refine o_nil ?_
    refine q_round hK2 (i + 1) ?_ ?_ ?_ ?_
    ·clear hK2
     exact ⟨by omega, Tab.same_next hI.2 (Tab.slot_ext (by assumption))⟩
    ·(try dsimp only); omega
    ·exact sr (sr (sr (Sub.nil _)))
    ·exact pk [0]
  ·simp only [decide_eq_false_iff_not, Int.not_lt] at hc3
   refine c_exit ?_
   refine q_then_exit (q_then_exit (q_block_exit (q_then ?_)))
   refine c_seq (c_region ?_)
   refine o_as rfl rfl ?_
   refine o_nil (q_then (c_ret ?_))
   have hr0 : (true : Bool) = (decide (a = b)) := by
    first | exact Tab.same_len (by assumption) | exact Tab.same_no2 (by assumption) | exact Tab.same_yes hI (by omega) (by omega)
   refine q_end0 (v := .bool true) (rt1 rfl (r_tmp rfl)) (i := 0) rfl ?_
   exact (by have hcc := congrArg (fun (y0 : Bool) => (.bool y0 : Value)) hr0; exact hcc)
end Go.Proofs.Ythecfjipaepcgaa
