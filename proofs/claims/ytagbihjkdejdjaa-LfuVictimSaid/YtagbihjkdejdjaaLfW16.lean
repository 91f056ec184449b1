/- The walks, printed by a program from the translation and a specification. -/
import Derived.Test.YtagbihjkdejdjaaLfF
import Derived.Test.YtagbihjkdejdjaaLfLaw5
import Derived.Test.YtagbihjkdejdjaaLfW14
namespace Go.Proofs.Ytagbihjkdejdjaa
open Go.Sx Go.RowKit
set_option maxHeartbeats 8000000 in
set_option maxRecDepth 100000 in
theorem lfuVictim_ok (u : DUses) (au_0 : Option Addr) (cu_0 : Nat) (key : Int) : Fn0 Try.prog 4 [.agg #[.int .i64 u.room, .slice au_0 u.list.length cu_0], .int .i64 key] (fun w => Rd tUse w au_0 cu_0 u.list) (.bool true) := by
  refine fn0 (nt := 135) (F0 := [(0, .agg #[.int .i64 u.room, .slice au_0 u.list.length cu_0]), (1, .int .i64 key)]) Try.func4 rfl Try.ntmps4 rfl rfl (fun w0 hpre => ?_)
  have hu_0 := hpre
  have hlhu_0 := hu_0.2.1
  refine c_seq ?_
  refine c_region ?_
  refine o_box (v := .agg #[.int .i64 u.room, .slice au_0 u.list.length cu_0]) rfl rfl (fun B1 => ?_)
  refine o_pure (p_assign (v := .bool false) rfl) rfl rfl rfl ?_
  refine o_nil ?_
  refine q_then ?_
  refine c_seq ?_
  refine c_region ?_
  refine o_pure (p_load_agg (i := 0) (vs := [.int .i64 u.room, .slice au_0 u.list.length cu_0]) rfl rfl sh24 rfl rfl) rfl rfl rfl ?_
  refine o_pure (p_move (v := .int .i64 key) rfl) rfl rfl rfl ?_
  refine o_callM rfl (faccess_ok u au_0 cu_0 key) hf15 (fun w hw => (rd_base (i := 1) rfl hu_0) w hw) rfl (fun _ _ _ _ ha hA => SlO.agree ha hA) ?_
  rintro ⟨a4, c5⟩ S2
  refine o_know (fun w hw => own_len (i := 0) (T := tUse) hw rfl) (fun hlr6 => ?_)
  refine o_pure (p_move (v := .tuple #[.agg #[.int .i64 (((Lfu.access u key).1).room), .slice a4 (((Lfu.access u key).1).list).length c5], .bool ((Lfu.access u key).2.1), .int .i64 ((Lfu.access u key).2.2), .int .i64 (Lfu.accessErr u key)]) rfl) rfl rfl rfl ?_
  refine o_pure (p_extract (vs := [.agg #[.int .i64 (((Lfu.access u key).1).room), .slice a4 (((Lfu.access u key).1).list).length c5], .bool ((Lfu.access u key).2.1), .int .i64 ((Lfu.access u key).2.2), .int .i64 (Lfu.accessErr u key)]) (v := .agg #[.int .i64 (((Lfu.access u key).1).room), .slice a4 (((Lfu.access u key).1).list).length c5]) rfl rfl) rfl rfl rfl ?_
  refine o_pure (p_extract (vs := [.agg #[.int .i64 (((Lfu.access u key).1).room), .slice a4 (((Lfu.access u key).1).list).length c5], .bool ((Lfu.access u key).2.1), .int .i64 ((Lfu.access u key).2.2), .int .i64 (Lfu.accessErr u key)]) (v := .bool ((Lfu.access u key).2.1)) rfl rfl) rfl rfl rfl ?_
  refine o_pure (p_extract (vs := [.agg #[.int .i64 (((Lfu.access u key).1).room), .slice a4 (((Lfu.access u key).1).list).length c5], .bool ((Lfu.access u key).2.1), .int .i64 ((Lfu.access u key).2.2), .int .i64 (Lfu.accessErr u key)]) (v := .int .i64 ((Lfu.access u key).2.2)) rfl rfl) rfl rfl rfl ?_
  refine o_pure (p_extract (vs := [.agg #[.int .i64 (((Lfu.access u key).1).room), .slice a4 (((Lfu.access u key).1).list).length c5], .bool ((Lfu.access u key).2.1), .int .i64 ((Lfu.access u key).2.2), .int .i64 (Lfu.accessErr u key)]) (v := .int .i64 (Lfu.accessErr u key)) rfl rfl) rfl rfl rfl ?_
  refine o_alloc ze24 rfl (fun B7 => ?_)
  refine o_storeN (i := 0) (vs := [.int .i64 (((Lfu.access u key).1).room), .slice a4 (((Lfu.access u key).1).list).length c5]) (cs' := [.int .i64 (((Lfu.access u key).1).room), .slice a4 (((Lfu.access u key).1).list).length c5]) rfl rfl rfl sz24 rfl rfl rfl rfl ?_
  refine o_pure (p_assign (v := .bool ((Lfu.access u key).2.1)) rfl) rfl rfl rfl ?_
  refine o_pure (p_assign (v := .int .i64 ((Lfu.access u key).2.2)) rfl) rfl rfl rfl ?_
  refine o_pure (p_assign (v := .int .i64 (Lfu.accessErr u key)) rfl) rfl rfl rfl ?_
  refine o_nil ?_
  refine q_then ?_
  refine c_seq ?_
  refine c_seq ?_
  refine c_region ?_
  refine o_call0 (v := .bool true) rfl (lfuBegun_ok ) hf24 (fun _ _ => trivial) rfl ?_
  refine o_pure (p_not (b := true) rfl) rfl rfl rfl ?_
  refine o_nil ?_
  refine q_then ?_
  refine c_false rfl ?_
  refine c_skip ?_
  refine q_then ?_
  refine c_seq ?_
  refine c_seq ?_
  refine c_region ?_
  refine o_pure (p_move (v := .int .i64 (Lfu.accessErr u key)) rfl) rfl rfl rfl ?_
  refine o_pure (p_ne (p := (Lfu.accessErr u key)) (q := 0) rfl rfl) rfl rfl rfl ?_
  refine o_nil ?_
  refine q_then ?_
  refine c_cond (b := ((Lfu.accessErr u key) != 0)) rfl (fun hc8 => ?_) (fun hc8 => ?_)
  · simp only [bne_iff_ne, ne_eq] at hc8
    refine c_seq ?_
    refine c_region ?_
    refine o_pure (p_fieldAddr (B := B7) (j := 0) (j' := 1) rfl fo24_1 rfl) rfl rfl rfl ?_
    refine o_pure (p_load (i := 0) (v := .slice a4 (((Lfu.access u key).1).list).length c5) rfl rfl sh22 rfl) rfl rfl rfl ?_
    refine o_pure (p_len_slice (len := (((Lfu.access u key).1).list).length) rfl rfl Try.underlying22) rfl rfl rfl ?_
    refine o_pure (p_eq (p := ((((Lfu.access u key).1).list).length : Int)) (q := 0) rfl rfl) rfl rfl rfl ?_
    refine o_pure (p_assign (v := .bool (((((Lfu.access u key).1).list).length : Int) == 0)) rfl) rfl rfl rfl ?_
    refine o_nil ?_
    refine q_then ?_
    refine c_ret ?_
    refine q_then_ret ?_
    have hr0 : ((((((Lfu.access u key).1).list).length : Int) == 0) : Bool) = true := by
      first | rfl | (rw [Lfu.acc_bad (by assumption)]; rfl) | (rw [r6]; rcases r2 with r2 | r2 <;> simp [r1, r2, r3, r4])
    refine q_end0 (v := .bool (((((Lfu.access u key).1).list).length : Int) == 0)) (rt1 rfl (r_tmp rfl)) (i := 3) rfl ?_
    exact (by have hcc := congrArg (fun (y0 : Bool) => (.bool y0 : Value)) hr0; exact hcc)
  · simp only [bne_eq_false_iff_eq] at hc8
    have hacc := hc8
    refine c_skip ?_
    refine q_then ?_
    refine c_seq ?_
    refine c_region ?_
    refine o_pure (p_assign (v := .int .i64 0) rfl) rfl rfl rfl ?_
    refine o_pure (p_assign (v := .bool false) rfl) rfl rfl rfl ?_
    refine o_nil ?_
    refine q_then ?_
    refine c_seq ?_
    refine c_seq ?_
    refine c_region ?_
    refine o_pure (p_assign (v := .int .i64 0) rfl) rfl rfl rfl ?_
    refine o_nil ?_
    refine q_then ?_
    refine c_block ?_
    refine c_loop (St := Int × Bool × Nat)
      (fun ⟨count, there, i⟩ => [(1, .int .i64 key), (2, .pointer (some ⟨B1, 0, none⟩)), (5, .pointer (some ⟨B7, 0, none⟩)), (6, .bool ((Lfu.access u key).2.1)), (7, .int .i64 ((Lfu.access u key).2.2)), (9, .int .i64 count), (10, .bool there), (11, .int .i64 (i : Int))])
      (fun ⟨count, there, i⟩ => [box B7 [.int .i64 (((Lfu.access u key).1).room), .slice a4 (((Lfu.access u key).1).list).length c5] 24, own tUse S2 a4 c5 (((Lfu.access u key).1).list), box B1 [.int .i64 u.room, .slice au_0 u.list.length cu_0] 24, base w0])
      (fun ⟨count, there, i⟩ => Lfu.VInv u (Lfu.access u key).2.2 count there i)
      (fun ⟨count, there, i⟩ => u.list.length - i)
      (0, false, 0) ?_ (Sub.cons rfl (Sub.cons rfl (Sub.cons rfl (Sub.cons rfl (Sub.cons rfl (Sub.cons rfl (Sub.cons rfl (Sub.cons rfl (Sub.nil _))))))))) (fun _ hw => hw) ?_
    · exact Lfu.VInv.start _ _
    rintro ⟨count, there, i⟩ hI K hK9
    have hle := hI.le
    have hV := hI
    show SC _ _ Try.prog 135 w0 _ _ [(1, .int .i64 key), (2, .pointer (some ⟨B1, 0, none⟩)), (5, .pointer (some ⟨B7, 0, none⟩)), (6, .bool ((Lfu.access u key).2.1)), (7, .int .i64 ((Lfu.access u key).2.2)), (9, .int .i64 count), (10, .bool there), (11, .int .i64 (i : Int))] [box B7 [.int .i64 (((Lfu.access u key).1).room), .slice a4 (((Lfu.access u key).1).list).length c5] 24, own tUse S2 a4 c5 (((Lfu.access u key).1).list), box B1 [.int .i64 u.room, .slice au_0 u.list.length cu_0] 24, base w0]
    refine c_seq ?_
    refine c_seq ?_
    refine c_region ?_
    refine o_pure (p_move (v := .int .i64 (i : Int)) rfl) rfl rfl rfl ?_
    refine o_pure (p_fieldAddr (B := B1) (j := 0) (j' := 1) rfl fo24_1 rfl) rfl rfl rfl ?_
    refine o_pure (p_load (i := 2) (v := .slice au_0 u.list.length cu_0) rfl rfl sh22 rfl) rfl rfl rfl ?_
    refine o_pure (p_len_slice (len := u.list.length) rfl rfl Try.underlying22) rfl rfl rfl ?_
    refine o_pure (p_lt (p := (i : Int)) (q := (u.list.length : Int)) rfl rfl) rfl rfl rfl ?_
    refine o_nil ?_
    refine q_then ?_
    refine c_cond (b := decide ((i : Int) < (u.list.length : Int))) rfl (fun hc10 => ?_) (fun hc10 => ?_)
    · simp only [decide_eq_true_eq] at hc10
      refine c_skip ?_
      refine q_then ?_
      refine c_seq ?_
      refine c_block ?_
      refine c_seq ?_
      refine c_region ?_
      refine o_pure (p_fieldAddr (B := B1) (j := 0) (j' := 1) rfl fo24_1 rfl) rfl rfl rfl ?_
      refine o_pure (p_load (i := 2) (v := .slice au_0 u.list.length cu_0) rfl rfl sh22 rfl) rfl rfl rfl ?_
      refine o_pure (p_move (v := .int .i64 (i : Int)) rfl) rfl rfl rfl ?_
      refine o_pure (p_indexAddr (L := u.list) (T := tUse) (i := (i : Int)) rfl rfl (rd_base (i := 3) rfl hu_0) Try.underlying22 sz42 (by omega) (by omega)) rfl rfl rfl ?_
      refine o_pure (p_fieldAddrE rfl fo42_0) rfl rfl rfl ?_
      refine o_pure (p_loadF (i := i) (j := 0) (T := tUse) (L := u.list) (v := .int .i64 ((u.list[i]).key)) rfl (rd_base (i := 3) rfl hu_0) (by first | assumption | omega) sh3 rfl) rfl rfl rfl ?_
      refine o_pure (p_move (v := .int .i64 ((Lfu.access u key).2.2)) rfl) rfl rfl rfl ?_
      refine o_pure (p_eq (p := (u.list[i]).key) (q := ((Lfu.access u key).2.2)) rfl rfl) rfl rfl rfl ?_
      refine o_nil ?_
      refine q_then ?_
      refine c_cond (b := ((u.list[i]).key == ((Lfu.access u key).2.2))) rfl (fun hc11 => ?_) (fun hc11 => ?_)
      · simp only [beq_iff_eq] at hc11
        refine c_region ?_
        refine o_pure (p_fieldAddr (B := B1) (j := 0) (j' := 1) rfl fo24_1 rfl) rfl rfl rfl ?_
        refine o_pure (p_load (i := 2) (v := .slice au_0 u.list.length cu_0) rfl rfl sh22 rfl) rfl rfl rfl ?_
        refine o_pure (p_move (v := .int .i64 (i : Int)) rfl) rfl rfl rfl ?_
        refine o_pure (p_indexAddr (L := u.list) (T := tUse) (i := (i : Int)) rfl rfl (rd_base (i := 3) rfl hu_0) Try.underlying22 sz42 (by omega) (by omega)) rfl rfl rfl ?_
        refine o_pure (p_fieldAddrE rfl fo42_1) rfl rfl rfl ?_
        refine o_pure (p_loadF (i := i) (j := 1) (T := tUse) (L := u.list) (v := .int .i64 ((u.list[i]).count)) rfl (rd_base (i := 3) rfl hu_0) (by first | assumption | omega) sh3 rfl) rfl rfl rfl ?_
        refine o_pure (p_assign (v := .int .i64 ((u.list[i]).count)) rfl) rfl rfl rfl ?_
        refine o_pure (p_assign (v := .bool true) rfl) rfl rfl rfl ?_
        refine o_nil ?_
        refine q_block_normal (q_then ?_)
        refine c_region ?_
        refine o_pure (p_move (v := .int .i64 (i : Int)) rfl) rfl rfl rfl ?_
        refine o_pure (p_addb (p := (i : Int)) (q := 1) rfl rfl (by omega)) rfl rfl rfl ?_
        refine o_pure (p_assign (v := .int .i64 ((i : Int) + 1)) rfl) rfl rfl rfl ?_
        refine o_nil ?_
        refine q_round hK9 ((u.list[i]).count, true, i + 1) ?_ ?_ ?_ ?_
        · clear hK9
          first | exact hI.found (by omega) (by assumption) | exact hI.skip (by omega) (by assumption)
        · (try dsimp only); omega
        · exact Sub.cons rfl (Sub.cons rfl (Sub.cons rfl (Sub.cons rfl (Sub.cons rfl (Sub.cons rfl (Sub.cons rfl (Sub.cons rfl (Sub.nil _))))))))
        · exact fun _ hw => HeapIs.pick hw [0, 1, 2, 3] (by decide) rfl
      · simp only [beq_eq_false_iff_ne, ne_eq] at hc11
        refine c_skip ?_
        refine q_block_normal (q_then ?_)
        refine c_region ?_
        refine o_pure (p_move (v := .int .i64 (i : Int)) rfl) rfl rfl rfl ?_
        refine o_pure (p_addb (p := (i : Int)) (q := 1) rfl rfl (by omega)) rfl rfl rfl ?_
        refine o_pure (p_assign (v := .int .i64 ((i : Int) + 1)) rfl) rfl rfl rfl ?_
        refine o_nil ?_
        refine q_round hK9 (count, there, i + 1) ?_ ?_ ?_ ?_
        · clear hK9
          first | exact hI.found (by omega) (by assumption) | exact hI.skip (by omega) (by assumption)
        · (try dsimp only); omega
        · exact Sub.cons rfl (Sub.cons rfl (Sub.cons rfl (Sub.cons rfl (Sub.cons rfl (Sub.cons rfl (Sub.cons rfl (Sub.cons rfl (Sub.nil _))))))))
        · exact fun _ hw => HeapIs.pick hw [0, 1, 2, 3] (by decide) rfl
    · simp only [decide_eq_false_iff_not, Int.not_lt] at hc10
      refine c_exit ?_
      refine q_then_exit (q_then_exit (q_block_exit (q_then ?_)))
      refine c_seq ?_
      refine c_seq ?_
      refine c_region ?_
      refine o_pure (p_assign (v := .int .i64 0) rfl) rfl rfl rfl ?_
      refine o_nil ?_
      refine q_then ?_
      refine c_block ?_
      refine c_loop (St := Nat)
        (fun i2 => [(1, .int .i64 key), (2, .pointer (some ⟨B1, 0, none⟩)), (5, .pointer (some ⟨B7, 0, none⟩)), (6, .bool ((Lfu.access u key).2.1)), (7, .int .i64 ((Lfu.access u key).2.2)), (9, .int .i64 count), (10, .bool there), (12, .int .i64 (i2 : Int))])
        (fun i2 => [box B7 [.int .i64 (((Lfu.access u key).1).room), .slice a4 (((Lfu.access u key).1).list).length c5] 24, own tUse S2 a4 c5 (((Lfu.access u key).1).list), box B1 [.int .i64 u.room, .slice au_0 u.list.length cu_0] 24, base w0])
        (fun i2 => i2 ≤ u.list.length)
        (fun i2 => u.list.length - i2)
        0 ?_ (Sub.cons rfl (Sub.cons rfl (Sub.cons rfl (Sub.cons rfl (Sub.cons rfl (Sub.cons rfl (Sub.cons rfl (Sub.cons rfl (Sub.nil _))))))))) (fun _ hw => hw) ?_
      · exact Nat.zero_le _
      rintro i2 hI K hK12
      show SC _ _ Try.prog 135 w0 _ _ [(1, .int .i64 key), (2, .pointer (some ⟨B1, 0, none⟩)), (5, .pointer (some ⟨B7, 0, none⟩)), (6, .bool ((Lfu.access u key).2.1)), (7, .int .i64 ((Lfu.access u key).2.2)), (9, .int .i64 count), (10, .bool there), (12, .int .i64 (i2 : Int))] [box B7 [.int .i64 (((Lfu.access u key).1).room), .slice a4 (((Lfu.access u key).1).list).length c5] 24, own tUse S2 a4 c5 (((Lfu.access u key).1).list), box B1 [.int .i64 u.room, .slice au_0 u.list.length cu_0] 24, base w0]
      refine c_seq ?_
      refine c_seq ?_
      refine c_region ?_
      refine o_pure (p_move (v := .int .i64 (i2 : Int)) rfl) rfl rfl rfl ?_
      refine o_pure (p_fieldAddr (B := B1) (j := 0) (j' := 1) rfl fo24_1 rfl) rfl rfl rfl ?_
      refine o_pure (p_load (i := 2) (v := .slice au_0 u.list.length cu_0) rfl rfl sh22 rfl) rfl rfl rfl ?_
      refine o_pure (p_len_slice (len := u.list.length) rfl rfl Try.underlying22) rfl rfl rfl ?_
      refine o_pure (p_lt (p := (i2 : Int)) (q := (u.list.length : Int)) rfl rfl) rfl rfl rfl ?_
      refine o_nil ?_
      refine q_then ?_
      refine c_cond (b := decide ((i2 : Int) < (u.list.length : Int))) rfl (fun hc13 => ?_) (fun hc13 => ?_)
      · simp only [decide_eq_true_eq] at hc13
        refine c_skip ?_
        refine q_then ?_
        refine c_seq ?_
        refine c_block ?_
        refine c_seq ?_
        refine c_seq ?_
        refine c_region ?_
        refine o_pure (p_move (v := .bool there) rfl) rfl rfl rfl ?_
        refine o_pure (p_move (v := .bool there) rfl) rfl rfl rfl ?_
        refine o_and (p := 69) 9 (decide ((u.list[i2]).count < count)) ?_ ?_ ?_
        · intro hb14 hk
          skip
          refine o_unguard 60 rfl rfl ?_
          refine o_pure (p_fieldAddr (B := B1) (j := 0) (j' := 1) rfl fo24_1 rfl) rfl rfl rfl ?_
          refine o_unguard 60 rfl rfl ?_
          refine o_pure (p_load (i := 2) (v := .slice au_0 u.list.length cu_0) rfl rfl sh22 rfl) rfl rfl rfl ?_
          refine o_unguard 60 rfl rfl ?_
          refine o_pure (p_move (v := .int .i64 (i2 : Int)) rfl) rfl rfl rfl ?_
          refine o_unguard 60 rfl rfl ?_
          refine o_pure (p_indexAddr (L := u.list) (T := tUse) (i := (i2 : Int)) rfl rfl (rd_base (i := 3) rfl hu_0) Try.underlying22 sz42 (by omega) (by omega)) rfl rfl rfl ?_
          refine o_unguard 60 rfl rfl ?_
          refine o_pure (p_fieldAddrE rfl fo42_1) rfl rfl rfl ?_
          refine o_unguard 60 rfl rfl ?_
          refine o_pure (p_loadF (i := i2) (j := 1) (T := tUse) (L := u.list) (v := .int .i64 ((u.list[i2]).count)) rfl (rd_base (i := 3) rfl hu_0) (by first | assumption | omega) sh3 rfl) rfl rfl rfl ?_
          refine o_unguard 60 rfl rfl ?_
          refine o_pure (p_move (v := .int .i64 count) rfl) rfl rfl rfl ?_
          refine o_unguard 60 rfl rfl ?_
          refine o_pure (p_lt (p := (u.list[i2]).count) (q := count) rfl rfl) rfl rfl rfl ?_
          refine o_pure (p_pick_true (u := .bool (decide ((u.list[i2]).count < count))) rfl rfl) rfl rfl rfl ?_
          exact o_sub (Sub.cons rfl (Sub.skip rfl (Sub.skip rfl (Sub.skip rfl (Sub.skip rfl (Sub.skip rfl (Sub.skip rfl (Sub.skip rfl (Sub.skip rfl (Sub.skip rfl (Sub.skip rfl (Sub.refl _)))))))))))) hk
        · intro hb14 hk
          refine o_guard_no rfl 60 rfl rfl rfl rfl rfl ?_
          refine o_guard_no rfl 60 rfl rfl rfl rfl rfl ?_
          refine o_guard_no rfl 60 rfl rfl rfl rfl rfl ?_
          refine o_guard_no rfl 60 rfl rfl rfl rfl rfl ?_
          refine o_guard_no rfl 60 rfl rfl rfl rfl rfl ?_
          refine o_guard_no rfl 60 rfl rfl rfl rfl rfl ?_
          refine o_guard_no rfl 60 rfl rfl rfl rfl rfl ?_
          refine o_guard_no rfl 60 rfl rfl rfl rfl rfl ?_
          refine o_pure (p_pick_false (v := .bool false) rfl rfl) rfl rfl rfl ?_
          exact o_sub (Sub.cons rfl (Sub.skip rfl (Sub.skip rfl (Sub.skip rfl (Sub.skip rfl (Sub.skip rfl (Sub.skip rfl (Sub.skip rfl (Sub.skip rfl (Sub.skip rfl (Sub.skip rfl (Sub.refl _)))))))))))) hk
        refine o_nil ?_
        refine q_then ?_
        refine c_cond (b := (there && decide ((u.list[i2]).count < count))) rfl (fun hc15 => ?_) (fun hc15 => ?_)
        · simp only [Bool.and_eq_true, decide_eq_true_eq] at hc15
          exfalso; obtain ⟨hc1, hc2⟩ := hc15; subst hc1; exact Lfu.v_least hacc hV (by omega) hc2
        · simp only [Bool.and_eq_false_iff, decide_eq_false_iff_not, Int.not_lt] at hc15
          refine c_skip ?_
          refine q_then ?_
          refine c_seq ?_
          refine c_region ?_
          refine o_pure (p_assign (v := .bool false) rfl) rfl rfl rfl ?_
          refine o_nil ?_
          refine q_then ?_
          refine c_seq ?_
          refine c_seq ?_
          refine c_region ?_
          refine o_pure (p_assign (v := .int .i64 0) rfl) rfl rfl rfl ?_
          refine o_nil ?_
          refine q_then ?_
          refine c_block ?_
          refine c_loop (St := Bool × Nat)
            (fun ⟨in_, k⟩ => [(1, .int .i64 key), (2, .pointer (some ⟨B1, 0, none⟩)), (5, .pointer (some ⟨B7, 0, none⟩)), (6, .bool ((Lfu.access u key).2.1)), (7, .int .i64 ((Lfu.access u key).2.2)), (9, .int .i64 count), (10, .bool there), (12, .int .i64 (i2 : Int)), (13, .bool in_), (14, .int .i64 (k : Int))])
            (fun ⟨in_, k⟩ => [box B7 [.int .i64 (((Lfu.access u key).1).room), .slice a4 (((Lfu.access u key).1).list).length c5] 24, own tUse S2 a4 c5 (((Lfu.access u key).1).list), box B1 [.int .i64 u.room, .slice au_0 u.list.length cu_0] 24, base w0])
            (fun ⟨in_, k⟩ => k ≤ (Lfu.access u key).1.list.length ∧ in_ = Lfu.inTo (Lfu.access u key).1.list u.list[i2].key k)
            (fun ⟨in_, k⟩ => (Lfu.access u key).1.list.length - k)
            (false, 0) ?_ (Sub.cons rfl (Sub.cons rfl (Sub.cons rfl (Sub.cons rfl (Sub.cons rfl (Sub.cons rfl (Sub.cons rfl (Sub.cons rfl (Sub.cons rfl (Sub.cons rfl (Sub.nil _))))))))))) (fun _ hw => hw) ?_
          · exact ⟨Nat.zero_le _, rfl⟩
          rintro ⟨in_, k⟩ hI K hK16
          show SC _ _ Try.prog 135 w0 _ _ [(1, .int .i64 key), (2, .pointer (some ⟨B1, 0, none⟩)), (5, .pointer (some ⟨B7, 0, none⟩)), (6, .bool ((Lfu.access u key).2.1)), (7, .int .i64 ((Lfu.access u key).2.2)), (9, .int .i64 count), (10, .bool there), (12, .int .i64 (i2 : Int)), (13, .bool in_), (14, .int .i64 (k : Int))] [box B7 [.int .i64 (((Lfu.access u key).1).room), .slice a4 (((Lfu.access u key).1).list).length c5] 24, own tUse S2 a4 c5 (((Lfu.access u key).1).list), box B1 [.int .i64 u.room, .slice au_0 u.list.length cu_0] 24, base w0]
          refine c_seq ?_
          refine c_seq ?_
          refine c_region ?_
          refine o_pure (p_move (v := .int .i64 (k : Int)) rfl) rfl rfl rfl ?_
          refine o_pure (p_fieldAddr (B := B7) (j := 0) (j' := 1) rfl fo24_1 rfl) rfl rfl rfl ?_
          refine o_pure (p_load (i := 0) (v := .slice a4 (((Lfu.access u key).1).list).length c5) rfl rfl sh22 rfl) rfl rfl rfl ?_
          refine o_pure (p_len_slice (len := (((Lfu.access u key).1).list).length) rfl rfl Try.underlying22) rfl rfl rfl ?_
          refine o_pure (p_lt (p := (k : Int)) (q := ((((Lfu.access u key).1).list).length : Int)) rfl rfl) rfl rfl rfl ?_
          refine o_nil ?_
          refine q_then ?_
          refine c_cond (b := decide ((k : Int) < ((((Lfu.access u key).1).list).length : Int))) rfl (fun hc17 => ?_) (fun hc17 => ?_)
          · simp only [decide_eq_true_eq] at hc17
            refine c_skip ?_
            refine q_then ?_
            refine c_seq ?_
            refine c_block ?_
            refine c_draw hmix (by kernel_rfl) ?_
            refine w_pure (p_move (v := .bool in_) rfl) rfl rfl rfl ?_
            refine w_pure (p_move (v := .bool in_) rfl) rfl rfl rfl ?_
            refine w_or (p := 92) 14 (((((Lfu.access u key).1).list)[k]).key == (u.list[i2]).key) ?_ ?_ ?_
            · intro hb18 hk
              skip
              refine w_unguard 78 rfl rfl ?_
              refine w_pure (p_fieldAddr (B := B7) (j := 0) (j' := 1) rfl fo24_1 rfl) rfl rfl rfl ?_
              refine w_unguard 78 rfl rfl ?_
              refine w_pure (p_load (i := 0) (v := .slice a4 (((Lfu.access u key).1).list).length c5) rfl rfl sh22 rfl) rfl rfl rfl ?_
              refine w_unguard 78 rfl rfl ?_
              refine w_pure (p_move (v := .int .i64 (k : Int)) rfl) rfl rfl rfl ?_
              refine w_unguard 78 rfl rfl ?_
              refine w_pure (p_indexAddr (L := ((Lfu.access u key).1).list) (T := tUse) (i := (k : Int)) rfl rfl (rd_own (i := 1) rfl) Try.underlying22 sz42 (by omega) (by omega)) rfl rfl rfl ?_
              refine w_unguard 78 rfl rfl ?_
              refine w_pure (p_fieldAddrE rfl fo42_0) rfl rfl rfl ?_
              refine w_unguard 78 rfl rfl ?_
              refine w_pure (p_loadF (i := k) (j := 0) (T := tUse) (L := ((Lfu.access u key).1).list) (v := .int .i64 (((((Lfu.access u key).1).list)[k]).key)) rfl (rd_own (i := 1) rfl) (by first | assumption | omega) sh3 rfl) rfl rfl rfl ?_
              refine w_unguard 78 rfl rfl ?_
              refine w_pure (p_fieldAddr (B := B1) (j := 0) (j' := 1) rfl fo24_1 rfl) rfl rfl rfl ?_
              refine w_unguard 78 rfl rfl ?_
              refine w_pure (p_load (i := 2) (v := .slice au_0 u.list.length cu_0) rfl rfl sh22 rfl) rfl rfl rfl ?_
              refine w_unguard 78 rfl rfl ?_
              refine w_pure (p_move (v := .int .i64 (i2 : Int)) rfl) rfl rfl rfl ?_
              refine w_unguard 78 rfl rfl ?_
              refine w_pure (p_indexAddr (L := u.list) (T := tUse) (i := (i2 : Int)) rfl rfl (rd_base (i := 3) rfl hu_0) Try.underlying22 sz42 (by omega) (by omega)) rfl rfl rfl ?_
              refine w_unguard 78 rfl rfl ?_
              refine w_pure (p_fieldAddrE rfl fo42_0) rfl rfl rfl ?_
              refine w_unguard 78 rfl rfl ?_
              refine w_pure (p_loadF (i := i2) (j := 0) (T := tUse) (L := u.list) (v := .int .i64 ((u.list[i2]).key)) rfl (rd_base (i := 3) rfl hu_0) (by first | assumption | omega) sh3 rfl) rfl rfl rfl ?_
              refine w_unguard 78 rfl rfl ?_
              refine w_pure (p_eq (p := ((((Lfu.access u key).1).list)[k]).key) (q := (u.list[i2]).key) rfl rfl) rfl rfl rfl ?_
              refine w_pure (p_pick_false (v := .bool (((((Lfu.access u key).1).list)[k]).key == (u.list[i2]).key)) rfl rfl) rfl rfl rfl ?_
              exact w_sub (Sub.cons rfl (Sub.skip rfl (Sub.skip rfl (Sub.skip rfl (Sub.skip rfl (Sub.skip rfl (Sub.skip rfl (Sub.skip rfl (Sub.skip rfl (Sub.skip rfl (Sub.skip rfl (Sub.skip rfl (Sub.skip rfl (Sub.skip rfl (Sub.skip rfl (Sub.skip rfl (Sub.refl _))))))))))))))))) hk
            · intro hb18 hk
              refine w_guard_no rfl 78 rfl rfl rfl rfl rfl ?_
              refine w_guard_no rfl 78 rfl rfl rfl rfl rfl ?_
              refine w_guard_no rfl 78 rfl rfl rfl rfl rfl ?_
              refine w_guard_no rfl 78 rfl rfl rfl rfl rfl ?_
              refine w_guard_no rfl 78 rfl rfl rfl rfl rfl ?_
              refine w_guard_no rfl 78 rfl rfl rfl rfl rfl ?_
              refine w_guard_no rfl 78 rfl rfl rfl rfl rfl ?_
              refine w_guard_no rfl 78 rfl rfl rfl rfl rfl ?_
              refine w_guard_no rfl 78 rfl rfl rfl rfl rfl ?_
              refine w_guard_no rfl 78 rfl rfl rfl rfl rfl ?_
              refine w_guard_no rfl 78 rfl rfl rfl rfl rfl ?_
              refine w_guard_no rfl 78 rfl rfl rfl rfl rfl ?_
              refine w_guard_no rfl 78 rfl rfl rfl rfl rfl ?_
              refine w_pure (p_pick_true (u := .bool true) rfl rfl) rfl rfl rfl ?_
              exact w_sub (Sub.cons rfl (Sub.skip rfl (Sub.skip rfl (Sub.skip rfl (Sub.skip rfl (Sub.skip rfl (Sub.skip rfl (Sub.skip rfl (Sub.skip rfl (Sub.skip rfl (Sub.skip rfl (Sub.skip rfl (Sub.skip rfl (Sub.skip rfl (Sub.skip rfl (Sub.skip rfl (Sub.refl _))))))))))))))))) hk
            refine w_pure (p_assign (v := .bool (in_ || (((((Lfu.access u key).1).list)[k]).key == (u.list[i2]).key))) rfl) rfl rfl rfl ?_
            refine w_nil ?_
            refine q_block_normal (q_then ?_)
            refine c_region ?_
            refine o_pure (p_move (v := .int .i64 (k : Int)) rfl) rfl rfl rfl ?_
            refine o_pure (p_addb (p := (k : Int)) (q := 1) rfl rfl (by omega)) rfl rfl rfl ?_
            refine o_pure (p_assign (v := .int .i64 ((k : Int) + 1)) rfl) rfl rfl rfl ?_
            refine o_nil ?_
            refine q_round hK16 ((in_ || (((((Lfu.access u key).1).list)[k]).key == (u.list[i2]).key)), k + 1) ?_ ?_ ?_ ?_
            · clear hK16
              exact ⟨by omega, by rw [Lfu.inTo_next (by omega), hI.2]⟩
            · (try dsimp only); omega
            · exact Sub.cons rfl (Sub.cons rfl (Sub.cons rfl (Sub.cons rfl (Sub.cons rfl (Sub.cons rfl (Sub.cons rfl (Sub.cons rfl (Sub.cons rfl (Sub.cons rfl (Sub.nil _))))))))))
            · exact fun _ hw => HeapIs.pick hw [0, 1, 2, 3] (by decide) rfl
          · simp only [decide_eq_false_iff_not, Int.not_lt] at hc17
            refine c_exit ?_
            refine q_then_exit (q_then_exit (q_block_exit (q_then ?_)))
            refine c_seq ?_
            refine c_region ?_
            refine o_pure (p_move (v := .bool in_) rfl) rfl rfl rfl ?_
            refine o_pure (p_fieldAddr (B := B1) (j := 0) (j' := 1) rfl fo24_1 rfl) rfl rfl rfl ?_
            refine o_pure (p_load (i := 2) (v := .slice au_0 u.list.length cu_0) rfl rfl sh22 rfl) rfl rfl rfl ?_
            refine o_pure (p_move (v := .int .i64 (i2 : Int)) rfl) rfl rfl rfl ?_
            refine o_pure (p_indexAddr (L := u.list) (T := tUse) (i := (i2 : Int)) rfl rfl (rd_base (i := 3) rfl hu_0) Try.underlying22 sz42 (by omega) (by omega)) rfl rfl rfl ?_
            refine o_pure (p_fieldAddrE rfl fo42_0) rfl rfl rfl ?_
            refine o_pure (p_loadF (i := i2) (j := 0) (T := tUse) (L := u.list) (v := .int .i64 ((u.list[i2]).key)) rfl (rd_base (i := 3) rfl hu_0) (by first | assumption | omega) sh3 rfl) rfl rfl rfl ?_
            refine o_pure (p_move (v := .int .i64 ((Lfu.access u key).2.2)) rfl) rfl rfl rfl ?_
            refine o_pure (p_eq (p := (u.list[i2]).key) (q := ((Lfu.access u key).2.2)) rfl rfl) rfl rfl rfl ?_
            refine o_pure (p_eqBool (b := in_) (c := ((u.list[i2]).key == ((Lfu.access u key).2.2))) rfl rfl Try.underlying4) rfl rfl rfl ?_
            refine o_nil ?_
            refine q_then ?_
            refine c_cond (b := (in_ == ((u.list[i2]).key == ((Lfu.access u key).2.2)))) rfl (fun hc19 => ?_) (fun hc19 => ?_)
            · simp only [beq_iff_eq] at hc19
              exfalso; exact Lfu.v_in hacc (by omega) (by omega) hI.2 (by simp_all)
            · simp only [beq_eq_false_iff_ne, ne_eq] at hc19
              refine c_skip ?_
              refine q_block_normal (q_then ?_)
              refine c_region ?_
              refine o_pure (p_move (v := .int .i64 (i2 : Int)) rfl) rfl rfl rfl ?_
              refine o_pure (p_addb (p := (i2 : Int)) (q := 1) rfl rfl (by omega)) rfl rfl rfl ?_
              refine o_pure (p_assign (v := .int .i64 ((i2 : Int) + 1)) rfl) rfl rfl rfl ?_
              refine o_nil ?_
              refine q_round hK12 (i2 + 1) ?_ ?_ ?_ ?_
              · clear hK12
                omega
              · (try dsimp only); omega
              · exact Sub.cons rfl (Sub.cons rfl (Sub.cons rfl (Sub.cons rfl (Sub.cons rfl (Sub.cons rfl (Sub.cons rfl (Sub.cons rfl (Sub.nil _))))))))
              · exact fun _ hw => HeapIs.pick hw [0, 1, 2, 3] (by decide) rfl
      · simp only [decide_eq_false_iff_not, Int.not_lt] at hc13
        obtain ⟨r1, r2, r3, r4, r5⟩ := Lfu.v_end hacc hV (by omega)
        have r6 := r5 r4
        refine c_exit ?_
        refine q_then_exit (q_then_exit (q_block_exit (q_then ?_)))
        refine c_seq ?_
        refine c_region ?_
        refine o_pure (p_move (v := .bool there) rfl) rfl rfl rfl ?_
        refine o_pure (p_move (v := .int .i64 ((Lfu.access u key).2.2)) rfl) rfl rfl rfl ?_
        refine o_pure (p_ge (p := ((Lfu.access u key).2.2)) (q := 0) rfl rfl) rfl rfl rfl ?_
        refine o_pure (p_eqBool (b := there) (c := decide (0 ≤ ((Lfu.access u key).2.2))) rfl rfl Try.underlying4) rfl rfl rfl ?_
        refine o_pure (p_move (v := .bool (there == decide (0 ≤ ((Lfu.access u key).2.2)))) rfl) rfl rfl rfl ?_
        refine o_and (p := 114) 7 ((!((Lfu.access u key).2.1)) || (((Lfu.access u key).2.2) == (-1))) ?_ ?_ ?_
        · intro hb20 hk
          simp only [beq_iff_eq] at hb20
          refine o_unguard 107 rfl rfl ?_
          refine o_pure (p_move (v := .bool ((Lfu.access u key).2.1)) rfl) rfl rfl rfl ?_
          refine o_unguard 107 rfl rfl ?_
          refine o_pure (p_not (b := ((Lfu.access u key).2.1)) rfl) rfl rfl rfl ?_
          refine o_unguard 107 rfl rfl ?_
          refine o_pure (p_move (v := .bool (!((Lfu.access u key).2.1))) rfl) rfl rfl rfl ?_
          refine o_or (p := 113) 3 (((Lfu.access u key).2.2) == (-1)) ?_ ?_ ?_
          · intro hb21 hk
            simp only [Bool.not_eq_false'] at hb21
            refine o_unguard 110 rfl rfl ?_
            refine o_pure (p_move (v := .int .i64 ((Lfu.access u key).2.2)) rfl) rfl rfl rfl ?_
            refine o_unguard 110 rfl rfl ?_
            refine o_pure (p_eq (p := ((Lfu.access u key).2.2)) (q := (-1)) rfl rfl) rfl rfl rfl ?_
            refine o_unguard 107 rfl rfl ?_
            refine o_pure (p_pick_false (v := .bool (((Lfu.access u key).2.2) == (-1))) rfl rfl) rfl rfl rfl ?_
            exact o_sub (Sub.cons rfl (Sub.skip rfl (Sub.skip rfl (Sub.skip rfl (Sub.skip rfl (Sub.refl _)))))) hk
          · intro hb21 hk
            refine o_guard_no rfl 110 rfl rfl rfl rfl rfl ?_
            refine o_guard_no rfl 110 rfl rfl rfl rfl rfl ?_
            refine o_unguard 107 rfl rfl ?_
            refine o_pure (p_pick_true (u := .bool true) rfl rfl) rfl rfl rfl ?_
            exact o_sub (Sub.cons rfl (Sub.skip rfl (Sub.skip rfl (Sub.skip rfl (Sub.skip rfl (Sub.refl _)))))) hk
          refine o_pure (p_pick_true (u := .bool ((!((Lfu.access u key).2.1)) || (((Lfu.access u key).2.2) == (-1)))) rfl rfl) rfl rfl rfl ?_
          exact o_sub (Sub.cons rfl (Sub.skip rfl (Sub.skip rfl (Sub.skip rfl (Sub.skip rfl (Sub.skip rfl (Sub.refl _))))))) hk
        · intro hb20 hk
          refine o_guard_no rfl 107 rfl rfl rfl rfl rfl ?_
          refine o_guard_no rfl 107 rfl rfl rfl rfl rfl ?_
          refine o_guard_no rfl 107 rfl rfl rfl rfl rfl ?_
          refine o_guard_no rfl 110 rfl rfl rfl rfl rfl ?_
          refine o_guard_no rfl 110 rfl rfl rfl rfl rfl ?_
          refine o_guard_no rfl 107 rfl rfl rfl rfl rfl ?_
          refine o_pure (p_pick_false (v := .bool false) rfl rfl) rfl rfl rfl ?_
          exact o_sub (Sub.cons rfl (Sub.skip rfl (Sub.skip rfl (Sub.skip rfl (Sub.skip rfl (Sub.skip rfl (Sub.skip rfl (Sub.skip rfl (Sub.skip rfl (Sub.refl _)))))))))) hk
        refine o_pure (p_move (v := .bool ((there == decide (0 ≤ ((Lfu.access u key).2.2))) && ((!((Lfu.access u key).2.1)) || (((Lfu.access u key).2.2) == (-1))))) rfl) rfl rfl rfl ?_
        refine o_and (p := 119) 4 ((Lfu.check ((Lfu.access u key).1)) == 0) ?_ ?_ ?_
        · intro hb22 hk
          simp only [Bool.and_eq_true, beq_iff_eq, Bool.or_eq_true, Bool.not_eq_true'] at hb22
          refine o_unguard 115 rfl rfl ?_
          refine o_pure (p_load_agg (i := 0) (vs := [.int .i64 (((Lfu.access u key).1).room), .slice a4 (((Lfu.access u key).1).list).length c5]) rfl rfl sh24 rfl rfl) rfl rfl rfl ?_
          refine o_unguard 115 rfl rfl ?_
          refine o_call0 (v := .int .i64 (Lfu.check ((Lfu.access u key).1))) rfl (fcheck_ok ((Lfu.access u key).1) a4 c5) hf25 (fun w hw => (rd_own (i := 1) rfl) w hw) rfl ?_
          refine o_unguard 115 rfl rfl ?_
          refine o_pure (p_eq (p := (Lfu.check ((Lfu.access u key).1))) (q := 0) rfl rfl) rfl rfl rfl ?_
          refine o_pure (p_pick_true (u := .bool ((Lfu.check ((Lfu.access u key).1)) == 0)) rfl rfl) rfl rfl rfl ?_
          exact o_sub (Sub.cons rfl (Sub.skip rfl (Sub.skip rfl (Sub.skip rfl (Sub.skip rfl (Sub.skip rfl (Sub.refl _))))))) hk
        · intro hb22 hk
          refine o_guard_no rfl 115 rfl rfl rfl rfl rfl ?_
          refine o_guard_no rfl 115 rfl rfl rfl rfl rfl ?_
          refine o_guard_no rfl 115 rfl rfl rfl rfl rfl ?_
          refine o_pure (p_pick_false (v := .bool false) rfl rfl) rfl rfl rfl ?_
          exact o_sub (Sub.cons rfl (Sub.skip rfl (Sub.skip rfl (Sub.skip rfl (Sub.skip rfl (Sub.skip rfl (Sub.refl _))))))) hk
        refine o_pure (p_move (v := .bool (((there == decide (0 ≤ ((Lfu.access u key).2.2))) && ((!((Lfu.access u key).2.1)) || (((Lfu.access u key).2.2) == (-1)))) && ((Lfu.check ((Lfu.access u key).1)) == 0))) rfl) rfl rfl rfl ?_
        refine o_and (p := 125) 5 (decide (0 < ((((Lfu.access u key).1).list).length : Int))) ?_ ?_ ?_
        · intro hb23 hk
          simp only [Bool.and_eq_true, beq_iff_eq, Bool.or_eq_true, Bool.not_eq_true'] at hb23
          refine o_unguard 120 rfl rfl ?_
          refine o_pure (p_fieldAddr (B := B7) (j := 0) (j' := 1) rfl fo24_1 rfl) rfl rfl rfl ?_
          refine o_unguard 120 rfl rfl ?_
          refine o_pure (p_load (i := 0) (v := .slice a4 (((Lfu.access u key).1).list).length c5) rfl rfl sh22 rfl) rfl rfl rfl ?_
          refine o_unguard 120 rfl rfl ?_
          refine o_pure (p_len_slice (len := (((Lfu.access u key).1).list).length) rfl rfl Try.underlying22) rfl rfl rfl ?_
          refine o_unguard 120 rfl rfl ?_
          refine o_pure (p_gt (p := ((((Lfu.access u key).1).list).length : Int)) (q := 0) rfl rfl) rfl rfl rfl ?_
          refine o_pure (p_pick_true (u := .bool (decide (0 < ((((Lfu.access u key).1).list).length : Int)))) rfl rfl) rfl rfl rfl ?_
          exact o_sub (Sub.cons rfl (Sub.skip rfl (Sub.skip rfl (Sub.skip rfl (Sub.skip rfl (Sub.skip rfl (Sub.skip rfl (Sub.refl _)))))))) hk
        · intro hb23 hk
          refine o_guard_no rfl 120 rfl rfl rfl rfl rfl ?_
          refine o_guard_no rfl 120 rfl rfl rfl rfl rfl ?_
          refine o_guard_no rfl 120 rfl rfl rfl rfl rfl ?_
          refine o_guard_no rfl 120 rfl rfl rfl rfl rfl ?_
          refine o_pure (p_pick_false (v := .bool false) rfl rfl) rfl rfl rfl ?_
          exact o_sub (Sub.cons rfl (Sub.skip rfl (Sub.skip rfl (Sub.skip rfl (Sub.skip rfl (Sub.skip rfl (Sub.skip rfl (Sub.refl _)))))))) hk
        refine o_pure (p_move (v := .bool ((((there == decide (0 ≤ ((Lfu.access u key).2.2))) && ((!((Lfu.access u key).2.1)) || (((Lfu.access u key).2.2) == (-1)))) && ((Lfu.check ((Lfu.access u key).1)) == 0)) && decide (0 < ((((Lfu.access u key).1).list).length : Int)))) rfl) rfl rfl rfl ?_
        refine o_and (p := 134) 8 (((((Lfu.access u key).1).list)[0]).key == key) ?_ ?_ ?_
        · intro hb24 hk
          simp only [Bool.and_eq_true, beq_iff_eq, Bool.or_eq_true, Bool.not_eq_true', decide_eq_true_eq] at hb24
          refine o_unguard 126 rfl rfl ?_
          refine o_pure (p_fieldAddr (B := B7) (j := 0) (j' := 1) rfl fo24_1 rfl) rfl rfl rfl ?_
          refine o_unguard 126 rfl rfl ?_
          refine o_pure (p_load (i := 0) (v := .slice a4 (((Lfu.access u key).1).list).length c5) rfl rfl sh22 rfl) rfl rfl rfl ?_
          refine o_unguard 126 rfl rfl ?_
          refine o_pure (p_indexAddr (L := ((Lfu.access u key).1).list) (T := tUse) (i := 0) rfl rfl (rd_own (i := 1) rfl) Try.underlying22 sz42 (by omega) (by omega)) rfl rfl rfl ?_
          refine o_unguard 126 rfl rfl ?_
          refine o_pure (p_fieldAddrE rfl fo42_0) rfl rfl rfl ?_
          refine o_unguard 126 rfl rfl ?_
          refine o_pure (p_loadF (i := 0) (j := 0) (T := tUse) (L := ((Lfu.access u key).1).list) (v := .int .i64 (((((Lfu.access u key).1).list)[0]).key)) rfl (rd_own (i := 1) rfl) (by first | assumption | omega) sh3 rfl) rfl rfl rfl ?_
          refine o_unguard 126 rfl rfl ?_
          refine o_pure (p_move (v := .int .i64 key) rfl) rfl rfl rfl ?_
          refine o_unguard 126 rfl rfl ?_
          refine o_pure (p_eq (p := ((((Lfu.access u key).1).list)[0]).key) (q := key) rfl rfl) rfl rfl rfl ?_
          refine o_pure (p_pick_true (u := .bool (((((Lfu.access u key).1).list)[0]).key == key)) rfl rfl) rfl rfl rfl ?_
          exact o_sub (Sub.cons rfl (Sub.skip rfl (Sub.skip rfl (Sub.skip rfl (Sub.skip rfl (Sub.skip rfl (Sub.skip rfl (Sub.skip rfl (Sub.skip rfl (Sub.skip rfl (Sub.refl _))))))))))) hk
        · intro hb24 hk
          refine o_guard_no rfl 126 rfl rfl rfl rfl rfl ?_
          refine o_guard_no rfl 126 rfl rfl rfl rfl rfl ?_
          refine o_guard_no rfl 126 rfl rfl rfl rfl rfl ?_
          refine o_guard_no rfl 126 rfl rfl rfl rfl rfl ?_
          refine o_guard_no rfl 126 rfl rfl rfl rfl rfl ?_
          refine o_guard_no rfl 126 rfl rfl rfl rfl rfl ?_
          refine o_guard_no rfl 126 rfl rfl rfl rfl rfl ?_
          refine o_pure (p_pick_false (v := .bool false) rfl rfl) rfl rfl rfl ?_
          exact o_sub (Sub.cons rfl (Sub.skip rfl (Sub.skip rfl (Sub.skip rfl (Sub.skip rfl (Sub.skip rfl (Sub.skip rfl (Sub.skip rfl (Sub.skip rfl (Sub.skip rfl (Sub.refl _))))))))))) hk
        refine o_pure (p_assign (v := .bool (((((there == decide (0 ≤ ((Lfu.access u key).2.2))) && ((!((Lfu.access u key).2.1)) || (((Lfu.access u key).2.2) == (-1)))) && ((Lfu.check ((Lfu.access u key).1)) == 0)) && decide (0 < ((((Lfu.access u key).1).list).length : Int))) && (((((Lfu.access u key).1).list)[0]).key == key))) rfl) rfl rfl rfl ?_
        refine o_nil ?_
        refine q_then ?_
        refine c_ret ?_
        have hr0 : ((((((there == decide (0 ≤ ((Lfu.access u key).2.2))) && ((!((Lfu.access u key).2.1)) || (((Lfu.access u key).2.2) == (-1)))) && ((Lfu.check ((Lfu.access u key).1)) == 0)) && decide (0 < ((((Lfu.access u key).1).list).length : Int))) && (((((Lfu.access u key).1).list)[0]).key == key)) : Bool) = true := by
          first | rfl | (rw [Lfu.acc_bad (by assumption)]; rfl) | (rw [r6]; rcases r2 with r2 | r2 <;> simp [r1, r2, r3, r4])
        refine q_end0 (v := .bool (((((there == decide (0 ≤ ((Lfu.access u key).2.2))) && ((!((Lfu.access u key).2.1)) || (((Lfu.access u key).2.2) == (-1)))) && ((Lfu.check ((Lfu.access u key).1)) == 0)) && decide (0 < ((((Lfu.access u key).1).list).length : Int))) && (((((Lfu.access u key).1).list)[0]).key == key))) (rt1 rfl (r_tmp rfl)) (i := 3) rfl ?_
        exact (by have hcc := congrArg (fun (y0 : Bool) => (.bool y0 : Value)) hr0; exact hcc)
end Go.Proofs.Ytagbihjkdejdjaa
