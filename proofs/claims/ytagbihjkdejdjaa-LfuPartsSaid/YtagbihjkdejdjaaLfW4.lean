/- The walks, printed by a program from the translation and a specification. -/
import Derived.Test.YtagbihjkdejdjaaLfF
import Derived.Test.YtagbihjkdejdjaaLfLaw5
import Derived.Test.YtagbihjkdejdjaaLfW1
namespace Go.Proofs.Ytagbihjkdejdjaa
open Go.Sx Go.RowKit
set_option maxHeartbeats 8000000 in
set_option maxRecDepth 100000 in
theorem fowned_ok (u : DUses) (au_0 : Option Addr) (cu_0 : Nat) (hy1 : u.list.length ≤ 1000000) : FnX Try.prog 50 [.agg #[.int .i64 u.room, .slice au_0 u.list.length cu_0]] [] (fun w => SlR tUse (outer w []).S w au_0 cu_0 u.list) (Nat × Option Addr × Nat × (Nat → Prop)) (fun p => .pointer (some ⟨p.1, 0, none⟩)) (fun p => [box p.1 [.int .i64 u.room, .slice p.2.1 u.list.length p.2.2.1] 90, own tUse p.2.2.2 p.2.1 p.2.2.1 u.list]) := by
  refine fnX (nt := 10) (F0 := [(0, .agg #[.int .i64 u.room, .slice au_0 u.list.length cu_0])]) Try.func50 rfl Try.ntmps50 rfl rfl (fun w0 hpre => ?_)
  have hu_0 := hpre
  have hlhu_0 := hu_0.2.1
  refine c_seq ?_
  refine c_region ?_
  refine o_box (v := .agg #[.int .i64 u.room, .slice au_0 u.list.length cu_0]) rfl rfl (fun B1 => ?_)
  refine o_pure (p_assign (v := .pointer none) rfl) rfl rfl rfl ?_
  refine o_nil ?_
  refine q_then ?_
  refine c_seq ?_
  refine c_region ?_
  refine o_pure (p_fieldAddr (B := B1) (j := 0) (j' := 1) rfl fo24_1 rfl) rfl rfl rfl ?_
  refine o_pure (p_load (i := 0) (v := .slice au_0 u.list.length cu_0) rfl rfl sh22 rfl) rfl rfl rfl ?_
  refine o_callM rfl (clone_Use_ok u.list au_0 cu_0 (by first | assumption | omega | (simp only [List.length_append, List.length_take, List.length_drop]; omega))) hf75 (fun w hw => (rd_outer (i := 1) rfl hu_0) w hw) rfl (fun _ _ _ _ ha hA => SlO.agree ha hA) ?_
  rintro ⟨a4, c5⟩ S2
  refine o_know (fun w hw => own_len (i := 0) (T := tUse) hw rfl) (fun hlr6 => ?_)
  refine o_pure (p_fieldAddr (B := B1) (j := 0) (j' := 1) rfl fo24_1 rfl) rfl rfl rfl ?_
  refine o_store (i := 1) (v := .slice a4 u.list.length c5) (cs' := [.int .i64 u.room, .slice a4 u.list.length c5]) rfl rfl rfl sz22 rfl rfl rfl ?_
  refine o_nil ?_
  refine q_then ?_
  refine c_seq ?_
  refine c_region ?_
  refine o_pure (p_load_agg (i := 1) (vs := [.int .i64 u.room, .slice a4 u.list.length c5]) rfl rfl sh24 rfl rfl) rfl rfl rfl ?_
  refine o_pure (p_build (cells := [.int .i64 u.room, .slice a4 u.list.length c5]) fp90 ze90 rfl rfl) rfl rfl rfl ?_
  refine o_box (v := .agg #[.int .i64 u.room, .slice a4 u.list.length c5]) rfl rfl (fun B7 => ?_)
  refine o_pure (p_assign (v := .pointer (some ⟨B7, 0, none⟩)) rfl) rfl rfl rfl ?_
  refine o_nil ?_
  refine q_then ?_
  refine c_ret ?_
  refine q_endX (p := (B7, a4, c5, S2)) (rt1 rfl (r_tmp rfl)) ?_ (fun w hw => ?_)
  · exact rfl
  · have h2 := hw.pick (H' := [outer w0 [], box B7 [.int .i64 u.room, .slice a4 u.list.length c5] 90, own tUse S2 a4 c5 u.list]) [3, 0, 1] (by decide) rfl
    exact Eq.mp (congrArg (fun z => HeapIs w0 ((outer w0 []) :: z) w) (rfl)) h2

set_option maxHeartbeats 8000000 in
set_option maxRecDepth 100000 in
theorem fleast_ok (Bb : Nat) (u : DUses) (au_0 : Option Addr) (cu_0 : Nat) : Fn0 Try.prog 53 [.pointer (some ⟨Bb, 0, none⟩)] (fun w => Rd tUse w au_0 cu_0 u.list ∧ (box Bb [.int .i64 u.room, .slice au_0 u.list.length cu_0] 90).A w) (.int .i64 (Lfu.least u.list : Int)) := by
  refine fn0 (nt := 32) (F0 := [(0, .pointer (some ⟨Bb, 0, none⟩))]) Try.func53 rfl Try.ntmps53 rfl rfl (fun w0 hpre => ?_)
  obtain ⟨hb_0, hBb⟩ := hpre
  have hlhb_0 := hb_0.2.1
  refine c_seq ?_
  refine c_region ?_
  refine o_pure (p_assign (v := .int .i64 0) rfl) rfl rfl rfl ?_
  refine o_nil ?_
  refine q_then ?_
  refine c_seq ?_
  refine c_region ?_
  refine o_pure (p_assign (v := .int .i64 0) rfl) rfl rfl rfl ?_
  refine o_nil ?_
  refine q_then ?_
  refine c_seq ?_
  refine c_seq ?_
  refine c_region ?_
  refine o_pure (p_move (v := .pointer (some ⟨Bb, 0, none⟩)) rfl) rfl rfl rfl ?_
  refine o_pure (p_nilCheck rfl) rfl rfl rfl ?_
  refine o_pure (p_fieldAddr (B := Bb) (j := 0) (j' := 0) rfl fo90_0 rfl) rfl rfl rfl ?_
  refine o_pure (p_fieldAddr (B := Bb) (j := 0) (j' := 1) rfl fo24_1 rfl) rfl rfl rfl ?_
  refine o_pure (p_loadR (v := .slice au_0 u.list.length cu_0) rfl (rbox_base (i := 0) rfl hBb) sh22 rfl) rfl rfl rfl ?_
  refine o_pure (p_len_slice (len := u.list.length) rfl rfl Try.underlying22) rfl rfl rfl ?_
  refine o_pure (p_move (v := .int .i64 0) rfl) rfl rfl rfl ?_
  refine o_nil ?_
  refine q_then ?_
  refine c_block ?_
  refine c_loop (St := Int × Nat)
    (fun ⟨best, k⟩ => [(0, .pointer (some ⟨Bb, 0, none⟩)), (3, .int .i64 best), (10, .slice au_0 u.list.length cu_0), (11, .int .i64 (u.list.length : Int)), (12, .int .i64 (k : Int))])
    (fun ⟨best, k⟩ => [base w0])
    (fun ⟨best, k⟩ => Lfu.BInv u.list best k)
    (fun ⟨best, k⟩ => u.list.length - k)
    (0, 0) ?_ (Sub.cons rfl (Sub.cons rfl (Sub.cons rfl (Sub.cons rfl (Sub.cons rfl (Sub.nil _)))))) (fun _ hw => hw) ?_
  · exact Lfu.BInv.start u.list
  rintro ⟨best, k⟩ hI K hK1
  show SC _ _ Try.prog 32 w0 _ _ [(0, .pointer (some ⟨Bb, 0, none⟩)), (3, .int .i64 best), (10, .slice au_0 u.list.length cu_0), (11, .int .i64 (u.list.length : Int)), (12, .int .i64 (k : Int))] [base w0]
  refine c_seq ?_
  refine c_region ?_
  refine o_pure (p_lt (p := (k : Int)) (q := (u.list.length : Int)) rfl rfl) rfl rfl rfl ?_
  refine o_nil ?_
  refine q_then ?_
  refine c_seq ?_
  refine c_cond (b := decide ((k : Int) < (u.list.length : Int))) rfl (fun hc2 => ?_) (fun hc2 => ?_)
  · simp only [decide_eq_true_eq] at hc2
    have hbd := hI.bd (by omega)
    refine c_skip ?_
    refine q_then ?_
    refine c_seq ?_
    refine c_block ?_
    refine c_seq ?_
    refine c_region ?_
    refine o_pure (p_move (v := .int .i64 (k : Int)) rfl) rfl rfl rfl ?_
    refine o_pure (p_indexAddr (L := u.list) (T := tUse) (i := (k : Int)) rfl rfl (rd_base (i := 0) rfl hb_0) Try.underlying22 sz42 (by omega) (by omega)) rfl rfl rfl ?_
    refine o_pure (p_loadEn (i := k) (T := tUse) (L := u.list) (vs := [.int .i64 ((u.list[k]).key), .int .i64 ((u.list[k]).count)]) rfl (rd_base (i := 0) rfl hb_0) (by first | assumption | omega) sh42 rfl) rfl rfl rfl ?_
    refine o_alloc ze42 rfl (fun B3 => ?_)
    refine o_pure (p_assign (v := .int .i64 (k : Int)) rfl) rfl rfl rfl ?_
    refine o_storeN (i := 0) (vs := [.int .i64 ((u.list[k]).key), .int .i64 ((u.list[k]).count)]) (cs' := [.int .i64 ((u.list[k]).key), .int .i64 ((u.list[k]).count)]) rfl rfl rfl sz42 rfl rfl rfl rfl ?_
    refine o_nil ?_
    refine q_then ?_
    refine c_seq ?_
    refine c_draw hmix (by kernel_rfl) ?_
    refine w_pure (p_fieldAddr (B := B3) (j := 0) (j' := 1) rfl fo42_1 rfl) rfl rfl rfl ?_
    refine w_pure (p_load (i := 0) (v := .int .i64 ((u.list[k]).count)) rfl rfl sh3 rfl) rfl rfl rfl ?_
    refine w_pure (p_move (v := .pointer (some ⟨Bb, 0, none⟩)) rfl) rfl rfl rfl ?_
    refine w_pure (p_nilCheck rfl) rfl rfl rfl ?_
    refine w_pure (p_fieldAddr (B := Bb) (j := 0) (j' := 0) rfl fo90_0 rfl) rfl rfl rfl ?_
    refine w_pure (p_fieldAddr (B := Bb) (j := 0) (j' := 1) rfl fo24_1 rfl) rfl rfl rfl ?_
    refine w_pure (p_loadR (v := .slice au_0 u.list.length cu_0) rfl (rbox_base (i := 1) rfl hBb) sh22 rfl) rfl rfl rfl ?_
    refine w_pure (p_move (v := .int .i64 best) rfl) rfl rfl rfl ?_
    refine w_pure (p_indexAddr (L := u.list) (T := tUse) (i := best) rfl rfl (rd_base (i := 1) rfl hb_0) Try.underlying22 sz42 (by omega) (by omega)) rfl rfl rfl ?_
    refine w_pure (p_fieldAddrE rfl fo42_1) rfl rfl rfl ?_
    refine w_pure (p_loadF (i := best.toNat) (j := 1) (T := tUse) (L := u.list) (v := .int .i64 ((u.list[best.toNat]).count)) rfl (rd_base (i := 1) rfl hb_0) (by first | assumption | omega) sh3 rfl) rfl rfl rfl ?_
    refine w_pure (p_le (p := (u.list[k]).count) (q := (u.list[best.toNat]).count) rfl rfl) rfl rfl rfl ?_
    refine w_nil ?_
    refine q_then ?_
    refine c_cond (b := decide ((u.list[k]).count ≤ (u.list[best.toNat]).count)) rfl (fun hc4 => ?_) (fun hc4 => ?_)
    · simp only [decide_eq_true_eq] at hc4
      refine c_region ?_
      refine o_pure (p_move (v := .int .i64 (k : Int)) rfl) rfl rfl rfl ?_
      refine o_pure (p_assign (v := .int .i64 (k : Int)) rfl) rfl rfl rfl ?_
      refine o_nil ?_
      refine q_block_normal (q_then ?_)
      refine c_region ?_
      refine o_pure (p_addb (p := (k : Int)) (q := 1) rfl rfl (by omega)) rfl rfl rfl ?_
      refine o_pure (p_move (v := .int .i64 ((k : Int) + 1)) rfl) rfl rfl rfl ?_
      refine o_nil ?_
      refine q_round hK1 ((k : Int), k + 1) ?_ ?_ ?_ ?_
      · clear hK1
        first | exact hI.less (by omega) (by omega) (by assumption) | exact hI.not (by omega) (by omega) (by omega)
      · (try dsimp only); omega
      · exact Sub.cons rfl (Sub.cons rfl (Sub.cons rfl (Sub.cons rfl (Sub.cons rfl (Sub.nil _)))))
      · exact fun _ hw => HeapIs.pick hw [1] (by decide) rfl
    · simp only [decide_eq_false_iff_not, Int.not_le] at hc4
      refine c_skip ?_
      refine q_block_normal (q_then ?_)
      refine c_region ?_
      refine o_pure (p_addb (p := (k : Int)) (q := 1) rfl rfl (by omega)) rfl rfl rfl ?_
      refine o_pure (p_move (v := .int .i64 ((k : Int) + 1)) rfl) rfl rfl rfl ?_
      refine o_nil ?_
      refine q_round hK1 (best, k + 1) ?_ ?_ ?_ ?_
      · clear hK1
        first | exact hI.less (by omega) (by omega) (by assumption) | exact hI.not (by omega) (by omega) (by omega)
      · (try dsimp only); omega
      · exact Sub.cons rfl (Sub.cons rfl (Sub.cons rfl (Sub.cons rfl (Sub.cons rfl (Sub.nil _)))))
      · exact fun _ hw => HeapIs.pick hw [1] (by decide) rfl
  · simp only [decide_eq_false_iff_not, Int.not_lt] at hc2
    refine c_exit ?_
    refine q_then_exit (q_then_exit (q_block_exit (q_then ?_)))
    refine c_seq ?_
    refine c_region ?_
    refine o_pure (p_move (v := .int .i64 best) rfl) rfl rfl rfl ?_
    refine o_pure (p_assign (v := .int .i64 best) rfl) rfl rfl rfl ?_
    refine o_nil ?_
    refine q_then ?_
    refine c_ret ?_
    have hr0 : (best : Int) = (Lfu.least u.list : Int) := by
      exact hI.done (by omega)
    refine q_end0 (v := .int .i64 best) (rt1 rfl (r_tmp rfl)) (i := 0) rfl ?_
    exact (by have hcc := congrArg (fun (y0 : Int) => (.int .i64 y0 : Value)) hr0; exact hcc)

set_option maxHeartbeats 8000000 in
set_option maxRecDepth 100000 in
theorem ftake_ok (u : DUses) (Bu : Nat) (au_0 : Option Addr) (cu_0 : Nat) (Su_0 : Nat → Prop) (i : Int) (hy1 : 0 ≤ i ∧ i < (u.list.length : Int) ∧ u.list.length ≤ 1000000) : FnX Try.prog 78 [.pointer (some ⟨Bu, 0, none⟩), .int .i64 i] [box Bu [.int .i64 u.room, .slice au_0 u.list.length cu_0] 90, own tUse Su_0 au_0 cu_0 u.list] (fun _ => True) (Option Addr × Nat × (Nat → Prop)) (fun p => .agg #[.int .i64 ((u.list.getD i.toNat default).key), .int .i64 ((u.list.getD i.toNat default).count)]) (fun p => [box Bu [.int .i64 u.room, .slice p.1 (u.list.take i.toNat ++ u.list.drop (i + 1).toNat).length p.2.1] 90, own tUse p.2.2 p.1 p.2.1 (u.list.take i.toNat ++ u.list.drop (i + 1).toNat)]) := by
  refine fnX (nt := 28) (F0 := [(0, .pointer (some ⟨Bu, 0, none⟩)), (1, .int .i64 i)]) Try.func78 rfl Try.ntmps78 rfl rfl (fun w0 hpre => ?_)
  refine c_know (fun w hw => own_len (i := 2) (T := tUse) hw rfl) (fun hlown_u_0 => ?_)
  obtain ⟨hcown_u_0, hlown_u_0⟩ := hlown_u_0
  refine c_seq ?_
  refine c_region ?_
  refine o_alloc ze42 rfl (fun B1 => ?_)
  refine o_nil ?_
  refine q_then ?_
  refine c_seq ?_
  refine c_region ?_
  refine o_pure (p_move (v := .pointer (some ⟨Bu, 0, none⟩)) rfl) rfl rfl rfl ?_
  refine o_pure (p_nilCheck rfl) rfl rfl rfl ?_
  refine o_pure (p_fieldAddr (B := Bu) (j := 0) (j' := 0) rfl fo90_0 rfl) rfl rfl rfl ?_
  refine o_pure (p_fieldAddr (B := Bu) (j := 0) (j' := 1) rfl fo24_1 rfl) rfl rfl rfl ?_
  refine o_pure (p_load (i := 2) (v := .slice au_0 u.list.length cu_0) rfl rfl sh22 rfl) rfl rfl rfl ?_
  refine o_pure (p_move (v := .int .i64 i) rfl) rfl rfl rfl ?_
  refine o_pure (p_indexAddr (L := u.list) (T := tUse) (i := i) rfl rfl (rd_own (i := 3) rfl) Try.underlying22 sz42 (by omega) (by omega)) rfl rfl rfl ?_
  refine o_pure (p_loadEn (i := i.toNat) (T := tUse) (L := u.list) (vs := [.int .i64 ((u.list[i.toNat]).key), .int .i64 ((u.list[i.toNat]).count)]) rfl (rd_own (i := 3) rfl) (by first | assumption | omega) sh42 rfl) rfl rfl rfl ?_
  refine o_alloc ze42 rfl (fun B2 => ?_)
  refine o_storeN (i := 0) (vs := [.int .i64 ((u.list[i.toNat]).key), .int .i64 ((u.list[i.toNat]).count)]) (cs' := [.int .i64 ((u.list[i.toNat]).key), .int .i64 ((u.list[i.toNat]).count)]) rfl rfl rfl sz42 rfl rfl rfl rfl ?_
  refine o_nil ?_
  refine q_then ?_
  refine c_seq ?_
  refine c_region ?_
  refine o_pure (p_move (v := .pointer (some ⟨Bu, 0, none⟩)) rfl) rfl rfl rfl ?_
  refine o_pure (p_move (v := .pointer (some ⟨Bu, 0, none⟩)) rfl) rfl rfl rfl ?_
  refine o_pure (p_nilCheck rfl) rfl rfl rfl ?_
  refine o_pure (p_fieldAddr (B := Bu) (j := 0) (j' := 0) rfl fo90_0 rfl) rfl rfl rfl ?_
  refine o_pure (p_fieldAddr (B := Bu) (j := 0) (j' := 1) rfl fo24_1 rfl) rfl rfl rfl ?_
  refine o_pure (p_load (i := 3) (v := .slice au_0 u.list.length cu_0) rfl rfl sh22 rfl) rfl rfl rfl ?_
  refine o_pure (p_move (v := .int .i64 i) rfl) rfl rfl rfl ?_
  refine o_pure (p_move (v := .int .i64 i) rfl) rfl rfl rfl ?_
  refine o_pure (p_addb (p := i) (q := 1) rfl rfl (by omega)) rfl rfl rfl ?_
  refine o_pick (H' := [own tUse Su_0 au_0 cu_0 u.list, box B2 [.int .i64 ((u.list[i.toNat]).key), .int .i64 ((u.list[i.toNat]).count)] 42, box B1 [.int .i64 0, .int .i64 0] 42, outer w0 [box Bu [.int .i64 u.room, .slice au_0 u.list.length cu_0] 90, own tUse Su_0 au_0 cu_0 u.list], box Bu [.int .i64 u.room, .slice au_0 u.list.length cu_0] 90]) [4, 0, 1, 2, 3] (by decide) rfl ?_
  refine o_callX (pre := [own tUse Su_0 au_0 cu_0 u.list]) (R := [box B2 [.int .i64 ((u.list[i.toNat]).key), .int .i64 ((u.list[i.toNat]).count)] 42, box B1 [.int .i64 0, .int .i64 0] 42, outer w0 [box Bu [.int .i64 u.room, .slice au_0 u.list.length cu_0] 90, own tUse Su_0 au_0 cu_0 u.list], box Bu [.int .i64 u.room, .slice au_0 u.list.length cu_0] 90]) rfl (delete_Use_ok u.list au_0 cu_0 Su_0 i (i + 1) (by omega)) hf92 rfl (fun _ _ => trivial) rfl ?_
  rintro ⟨a3, c4, S5⟩
  refine o_asH (H' := [own tUse S5 a3 c4 (u.list.take i.toNat ++ u.list.drop (i + 1).toNat), box B2 [.int .i64 ((u.list[i.toNat]).key), .int .i64 ((u.list[i.toNat]).count)] 42, box B1 [.int .i64 0, .int .i64 0] 42, outer w0 [box Bu [.int .i64 u.room, .slice au_0 u.list.length cu_0] 90, own tUse Su_0 au_0 cu_0 u.list], box Bu [.int .i64 u.room, .slice au_0 u.list.length cu_0] 90]) rfl ?_
  refine o_pure (p_nilCheck rfl) rfl rfl rfl ?_
  refine o_pure (p_fieldAddr (B := Bu) (j := 0) (j' := 0) rfl fo90_0 rfl) rfl rfl rfl ?_
  refine o_pure (p_fieldAddr (B := Bu) (j := 0) (j' := 1) rfl fo24_1 rfl) rfl rfl rfl ?_
  refine o_store (i := 4) (v := .slice a3 (u.list.take i.toNat ++ u.list.drop (i + 1).toNat).length c4) (cs' := [.int .i64 u.room, .slice a3 (u.list.take i.toNat ++ u.list.drop (i + 1).toNat).length c4]) rfl rfl rfl sz22 rfl rfl rfl ?_
  refine o_nil ?_
  refine q_then ?_
  refine c_seq ?_
  refine c_region ?_
  refine o_pure (p_load_agg (i := 1) (vs := [.int .i64 ((u.list[i.toNat]).key), .int .i64 ((u.list[i.toNat]).count)]) rfl rfl sh42 rfl rfl) rfl rfl rfl ?_
  refine o_storeN (i := 2) (vs := [.int .i64 ((u.list[i.toNat]).key), .int .i64 ((u.list[i.toNat]).count)]) (cs' := [.int .i64 ((u.list[i.toNat]).key), .int .i64 ((u.list[i.toNat]).count)]) rfl rfl rfl sz42 rfl rfl rfl rfl ?_
  refine o_nil ?_
  refine q_then ?_
  refine c_ret ?_
  have hr2 : ((u.list[i.toNat]).key : Int) = (u.list.getD i.toNat default).key := by
    first | rfl | (simp [List.getD, show i.toNat < u.list.length by omega]; done)
  have hr3 : ((u.list[i.toNat]).count : Int) = (u.list.getD i.toNat default).count := by
    first | rfl | (simp [List.getD, show i.toNat < u.list.length by omega]; done)
  refine q_endX (p := (a3, c4, S5)) (rt1 rfl (r_cell (i := 2) rfl rfl sh42 rfl)) ?_ (fun w hw => ?_)
  · exact (by have hcc := congr (congrArg (fun (y2 : Int) (y3 : Int) => (.agg #[.int .i64 y2, .int .i64 y3] : Value)) hr2) hr3; exact hcc)
  · have h2 := hw.pick (H' := [outer w0 [box Bu [.int .i64 u.room, .slice au_0 u.list.length cu_0] 90, own tUse Su_0 au_0 cu_0 u.list], box Bu [.int .i64 u.room, .slice a3 (u.list.take i.toNat ++ u.list.drop (i + 1).toNat).length c4] 90, own tUse S5 a3 c4 (u.list.take i.toNat ++ u.list.drop (i + 1).toNat)]) [3, 4, 0] (by decide) rfl
    exact Eq.mp (congrArg (fun z => HeapIs w0 ((outer w0 [box Bu [.int .i64 u.room, .slice au_0 u.list.length cu_0] 90, own tUse Su_0 au_0 cu_0 u.list]) :: z) w) ((by have hcc := congr (congrArg (fun (y2 : Int) (y3 : Int) => ([box Bu [.int .i64 u.room, .slice a3 (u.list.take i.toNat ++ u.list.drop (i + 1).toNat).length c4] 90, own tUse S5 a3 c4 (u.list.take i.toNat ++ u.list.drop (i + 1).toNat)] : List Ent)) hr2) hr3; exact hcc))) h2

set_option maxHeartbeats 8000000 in
set_option maxRecDepth 100000 in
theorem ftouch1_ok (x : DUse) (Bk : Nat) (key : Int) : Fn0 Try.prog 77 [.agg #[.int .i64 x.key, .int .i64 x.count], .pointer (some ⟨Bk, 0, none⟩)] (fun w => (box Bk [.int .i64 key] 3).A w) (.bool (x.key == key)) := by
  refine fn0 (nt := 8) (F0 := [(0, .agg #[.int .i64 x.key, .int .i64 x.count]), (1, .pointer (some ⟨Bk, 0, none⟩))]) Try.func77 rfl Try.ntmps77 rfl rfl (fun w0 hpre => ?_)
  have hBk := hpre
  refine c_seq ?_
  refine c_region ?_
  refine o_box (v := .agg #[.int .i64 x.key, .int .i64 x.count]) rfl rfl (fun B1 => ?_)
  refine o_pure (p_assign (v := .bool false) rfl) rfl rfl rfl ?_
  refine o_nil ?_
  refine q_then ?_
  refine c_seq ?_
  refine c_region ?_
  refine o_pure (p_fieldAddr (B := B1) (j := 0) (j' := 0) rfl fo42_0 rfl) rfl rfl rfl ?_
  refine o_pure (p_load (i := 0) (v := .int .i64 x.key) rfl rfl sh3 rfl) rfl rfl rfl ?_
  refine o_pure (p_loadR (v := .int .i64 key) rfl (rbox_base (i := 1) rfl hBk) sh3 rfl) rfl rfl rfl ?_
  refine o_pure (p_eq (p := x.key) (q := key) rfl rfl) rfl rfl rfl ?_
  refine o_pure (p_assign (v := .bool (x.key == key)) rfl) rfl rfl rfl ?_
  refine o_nil ?_
  refine q_then ?_
  refine c_ret ?_
  refine q_end0 (v := .bool (x.key == key)) (rt1 rfl (r_tmp rfl)) (i := 1) rfl ?_
  exact rfl
end Go.Proofs.Ytagbihjkdejdjaa
