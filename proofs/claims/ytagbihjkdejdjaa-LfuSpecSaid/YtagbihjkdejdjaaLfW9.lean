/- The walks, printed by a program from the translation and a specification. -/
import Derived.Test.YtagbihjkdejdjaaLfF
import Derived.Test.YtagbihjkdejdjaaLfLaw5
import Derived.Test.YtagbihjkdejdjaaLfW8
namespace Go.Proofs.Ytagbihjkdejdjaa
open Go.Sx Go.RowKit
set_option maxHeartbeats 8000000 in
set_option maxRecDepth 100000 in
theorem rfcheck_ok (u : DUses) (au_0 : Option Addr) (cu_0 : Nat) : Fn0 Try.prog 19 [.agg #[.int .i64 u.room, .slice au_0 u.list.length cu_0]] (fun w => Rd tUse w au_0 cu_0 u.list) (.int .i64 (Lfu.check u)) := by
  refine fn0 (nt := 55) (F0 := [(0, .agg #[.int .i64 u.room, .slice au_0 u.list.length cu_0])]) Try.func19 rfl Try.ntmps19 rfl rfl (fun w0 hpre => ?_)
  have hu_0 := hpre
  have hlhu_0 := hu_0.2.1
  refine c_seq ?_
  refine c_region ?_
  refine o_box (v := .agg #[.int .i64 u.room, .slice au_0 u.list.length cu_0]) rfl rfl (fun B1 => ?_)
  refine o_pure (p_assign (v := .int .i64 0) rfl) rfl rfl rfl ?_
  refine o_nil ?_
  refine q_then ?_
  refine c_seq ?_
  refine c_seq ?_
  refine c_region ?_
  refine o_pure (p_fieldAddr (B := B1) (j := 0) (j' := 0) rfl fo24_0 rfl) rfl rfl rfl ?_
  refine o_pure (p_load (i := 0) (v := .int .i64 u.room) rfl rfl sh3 rfl) rfl rfl rfl ?_
  refine o_call0 (v := .bool (Ref.between u.room (1 : Int) (40 : Int))) rfl (between_ok u.room (1 : Int) (40 : Int)) hf54 (fun _ _ => trivial) rfl ?_
  refine o_pure (p_not (b := (Ref.between u.room (1 : Int) (40 : Int))) rfl) rfl rfl rfl ?_
  refine o_nil ?_
  refine q_then ?_
  refine c_cond (b := (!(Ref.between u.room (1 : Int) (40 : Int)))) rfl (fun hc2 => ?_) (fun hc2 => ?_)
  · simp only [Bool.not_eq_true'] at hc2
    refine c_seq ?_
    refine c_region ?_
    refine o_pure (p_assign (v := .int .i64 3) rfl) rfl rfl rfl ?_
    refine o_nil ?_
    refine q_then ?_
    refine c_ret ?_
    refine q_then_ret ?_
    have hr0 : (3 : Int) = (Lfu.check u) := by
      first | exact Lfu.chk1 (by simp only [Ref.between, Lru.okRoom] at *; simp_all) | exact Lfu.chk2 hokr (by omega) | exact hI.done (by grind) hokr (by omega)
    refine q_end0 (v := .int .i64 3) (rt1 rfl (r_tmp rfl)) (i := 1) rfl ?_
    exact (by have hcc := congrArg (fun (y0 : Int) => (.int .i64 y0 : Value)) hr0; exact hcc)
  · simp only [Bool.not_eq_false'] at hc2
    have hokr : Lru.okRoom u.room = true := hc2
    have hroom := Lru.room_ok hokr
    refine c_skip ?_
    refine q_then ?_
    refine c_seq ?_
    refine c_seq ?_
    refine c_region ?_
    refine o_pure (p_fieldAddr (B := B1) (j := 0) (j' := 1) rfl fo24_1 rfl) rfl rfl rfl ?_
    refine o_pure (p_load (i := 0) (v := .slice au_0 u.list.length cu_0) rfl rfl sh22 rfl) rfl rfl rfl ?_
    refine o_pure (p_len_slice (len := u.list.length) rfl rfl Try.underlying22) rfl rfl rfl ?_
    refine o_pure (p_fieldAddr (B := B1) (j := 0) (j' := 0) rfl fo24_0 rfl) rfl rfl rfl ?_
    refine o_pure (p_load (i := 0) (v := .int .i64 u.room) rfl rfl sh3 rfl) rfl rfl rfl ?_
    refine o_pure (p_gt (p := (u.list.length : Int)) (q := u.room) rfl rfl) rfl rfl rfl ?_
    refine o_nil ?_
    refine q_then ?_
    refine c_cond (b := decide (u.room < (u.list.length : Int))) rfl (fun hc3 => ?_) (fun hc3 => ?_)
    · simp only [decide_eq_true_eq] at hc3
      refine c_seq ?_
      refine c_region ?_
      refine o_pure (p_assign (v := .int .i64 2) rfl) rfl rfl rfl ?_
      refine o_nil ?_
      refine q_then ?_
      refine c_ret ?_
      refine q_then_ret ?_
      have hr0 : (2 : Int) = (Lfu.check u) := by
        first | exact Lfu.chk1 (by simp only [Ref.between, Lru.okRoom] at *; simp_all) | exact Lfu.chk2 hokr (by omega) | exact hI.done (by grind) hokr (by omega)
      refine q_end0 (v := .int .i64 2) (rt1 rfl (r_tmp rfl)) (i := 1) rfl ?_
      exact (by have hcc := congrArg (fun (y0 : Int) => (.int .i64 y0 : Value)) hr0; exact hcc)
    · simp only [decide_eq_false_iff_not, Int.not_lt] at hc3
      refine c_skip ?_
      refine q_then ?_
      refine c_seq ?_
      refine c_region ?_
      refine o_pure (p_assign (v := .slice none 0 0) rfl) rfl rfl rfl ?_
      refine o_nil ?_
      refine q_then ?_
      refine c_seq ?_
      refine c_seq ?_
      refine c_region ?_
      refine o_pure (p_assign (v := .int .i64 0) rfl) rfl rfl rfl ?_
      refine o_nil ?_
      refine q_then ?_
      refine c_block ?_
      refine c_ownNil tInt ?_
      refine c_loop (St := List Int × Option Addr × Nat × (Nat → Prop) × Nat)
        (fun ⟨keys, akeys, ckeys, Skeys, i⟩ => [(1, .pointer (some ⟨B1, 0, none⟩)), (3, .slice akeys keys.length ckeys), (4, .int .i64 (i : Int))])
        (fun ⟨keys, akeys, ckeys, Skeys, i⟩ => [own tInt Skeys akeys ckeys keys, box B1 [.int .i64 u.room, .slice au_0 u.list.length cu_0] 24, base w0])
        (fun ⟨keys, akeys, ckeys, Skeys, i⟩ => i ≤ u.list.length ∧ keys = Lfu.keysOf (u.list.take i))
        (fun ⟨keys, akeys, ckeys, Skeys, i⟩ => u.list.length - i)
        ([], none, 0, (fun _ => False), 0) ?_ (Sub.cons rfl (Sub.cons rfl (Sub.cons rfl (Sub.nil _)))) (fun _ hw => hw) ?_
      · exact ⟨Nat.zero_le _, rfl⟩
      rintro ⟨keys, akeys, ckeys, Skeys, i⟩ hI K hK5
      have hkl : keys.length = i := by rw [hI.2]; exact Lfu.keys_len hI.1
      show SC _ _ Try.prog 55 w0 _ _ [(1, .pointer (some ⟨B1, 0, none⟩)), (3, .slice akeys keys.length ckeys), (4, .int .i64 (i : Int))] [own tInt Skeys akeys ckeys keys, box B1 [.int .i64 u.room, .slice au_0 u.list.length cu_0] 24, base w0]
      refine c_seq ?_
      refine c_seq ?_
      refine c_region ?_
      refine o_pure (p_move (v := .int .i64 (i : Int)) rfl) rfl rfl rfl ?_
      refine o_pure (p_fieldAddr (B := B1) (j := 0) (j' := 1) rfl fo24_1 rfl) rfl rfl rfl ?_
      refine o_pure (p_load (i := 1) (v := .slice au_0 u.list.length cu_0) rfl rfl sh22 rfl) rfl rfl rfl ?_
      refine o_pure (p_len_slice (len := u.list.length) rfl rfl Try.underlying22) rfl rfl rfl ?_
      refine o_pure (p_lt (p := (i : Int)) (q := (u.list.length : Int)) rfl rfl) rfl rfl rfl ?_
      refine o_nil ?_
      refine q_then ?_
      refine c_cond (b := decide ((i : Int) < (u.list.length : Int))) rfl (fun hc6 => ?_) (fun hc6 => ?_)
      · simp only [decide_eq_true_eq] at hc6
        refine c_skip ?_
        refine q_then ?_
        refine c_seq ?_
        refine c_block ?_
        refine c_region ?_
        refine o_pure (p_move (v := .slice akeys keys.length ckeys) rfl) rfl rfl rfl ?_
        refine o_pure (p_fieldAddr (B := B1) (j := 0) (j' := 1) rfl fo24_1 rfl) rfl rfl rfl ?_
        refine o_pure (p_load (i := 1) (v := .slice au_0 u.list.length cu_0) rfl rfl sh22 rfl) rfl rfl rfl ?_
        refine o_pure (p_move (v := .int .i64 (i : Int)) rfl) rfl rfl rfl ?_
        refine o_pure (p_indexAddr (L := u.list) (T := tUse) (i := (i : Int)) rfl rfl (rd_base (i := 2) rfl hu_0) Try.underlying22 sz42 (by omega) (by omega)) rfl rfl rfl ?_
        refine o_pure (p_fieldAddrE rfl fo42_0) rfl rfl rfl ?_
        refine o_pure (p_loadF (i := i) (j := 0) (T := tUse) (L := u.list) (v := .int .i64 ((u.list[i]).key)) rfl (rd_base (i := 2) rfl hu_0) (by first | assumption | omega) sh3 rfl) rfl rfl rfl ?_
        refine o_buildSlice (m := 1) (T := tInt) (L := [(u.list[i]).key]) (vs := [.int .i64 ((u.list[i]).key)]) rfl rfl rfl rfl Try.underlying25 sz3 (by decide) ze3 rfl (by decide) rfl (fun S7 a8 => ?_)
        refine o_append (i := 1) (L := keys) (M := [(u.list[i]).key]) (T := tInt) rfl rfl rfl (rd_own (i := 0) rfl) Try.underlying25 Try.underlying25 (by intro k h; cases h) el3 (by intro z; simp [tInt, one1]) (by decide) (by first | omega | (simp only [List.length_cons, List.length_nil]; omega) | (simp only [List.length_append, List.length_cons, List.length_nil, List.length_take, List.length_drop]; omega)) rfl (fun a10 c11 S12 => ?_)
        refine o_pure (p_assign (v := .slice a10 (keys ++ [(u.list[i]).key]).length c11) rfl) rfl rfl rfl ?_
        refine o_nil ?_
        refine q_block_normal (q_then ?_)
        refine c_region ?_
        refine o_pure (p_move (v := .int .i64 (i : Int)) rfl) rfl rfl rfl ?_
        refine o_pure (p_addb (p := (i : Int)) (q := 1) rfl rfl (by omega)) rfl rfl rfl ?_
        refine o_pure (p_assign (v := .int .i64 ((i : Int) + 1)) rfl) rfl rfl rfl ?_
        refine o_nil ?_
        refine q_round hK5 ((keys ++ [(u.list[i]).key]), a10, c11, S12, i + 1) ?_ ?_ ?_ ?_
        · clear hK5
          exact ⟨by omega, (congrArg (fun z => z ++ [_]) hI.2).trans (Lfu.keys_step (by omega))⟩
        · (try dsimp only); omega
        · exact Sub.cons rfl (Sub.cons rfl (Sub.cons rfl (Sub.nil _)))
        · exact fun _ hw => HeapIs.pick hw [1, 2, 3] (by decide) rfl
      · simp only [decide_eq_false_iff_not, Int.not_lt] at hc6
        refine c_exit ?_
        refine q_then_exit (q_then_exit (q_block_exit (q_then ?_)))
        refine c_seq ?_
        refine c_region ?_
        refine o_pure (p_move (v := .slice akeys keys.length ckeys) rfl) rfl rfl rfl ?_
        refine o_call0 (v := .int .i64 (Lru.keys keys)) rfl (keysOnce_ok keys akeys ckeys) hf55 (fun w hw => (rd_own (i := 0) rfl) w hw) rfl ?_
        refine o_pure (p_assign (v := .int .i64 (Lru.keys keys)) rfl) rfl rfl rfl ?_
        refine o_nil ?_
        refine q_then ?_
        refine c_seq ?_
        refine c_seq ?_
        refine c_region ?_
        refine o_pure (p_assign (v := .int .i64 0) rfl) rfl rfl rfl ?_
        refine o_nil ?_
        refine q_then ?_
        refine c_block ?_
        refine c_loop (St := Int × Nat)
          (fun ⟨e, i2⟩ => [(1, .pointer (some ⟨B1, 0, none⟩)), (5, .int .i64 e), (6, .int .i64 (i2 : Int))])
          (fun ⟨e, i2⟩ => [own tInt Skeys akeys ckeys keys, box B1 [.int .i64 u.room, .slice au_0 u.list.length cu_0] 24, base w0])
          (fun ⟨e, i2⟩ => Lfu.KInv u e i2)
          (fun ⟨e, i2⟩ => u.list.length - i2)
          ((Lru.keys keys), 0) ?_ (Sub.cons rfl (Sub.cons rfl (Sub.cons rfl (Sub.nil _)))) (fun _ hw => hw) ?_
        · exact Lfu.KInv.start (hI.2.trans (Lfu.keys_all (by omega)))
        rintro ⟨e, i2⟩ hI K hK13
        show SC _ _ Try.prog 55 w0 _ _ [(1, .pointer (some ⟨B1, 0, none⟩)), (5, .int .i64 e), (6, .int .i64 (i2 : Int))] [own tInt Skeys akeys ckeys keys, box B1 [.int .i64 u.room, .slice au_0 u.list.length cu_0] 24, base w0]
        refine c_seq ?_
        refine c_seq ?_
        refine c_region ?_
        refine o_pure (p_move (v := .int .i64 (i2 : Int)) rfl) rfl rfl rfl ?_
        refine o_pure (p_fieldAddr (B := B1) (j := 0) (j' := 1) rfl fo24_1 rfl) rfl rfl rfl ?_
        refine o_pure (p_load (i := 1) (v := .slice au_0 u.list.length cu_0) rfl rfl sh22 rfl) rfl rfl rfl ?_
        refine o_pure (p_len_slice (len := u.list.length) rfl rfl Try.underlying22) rfl rfl rfl ?_
        refine o_pure (p_lt (p := (i2 : Int)) (q := (u.list.length : Int)) rfl rfl) rfl rfl rfl ?_
        refine o_pure (p_move (v := .bool (decide ((i2 : Int) < (u.list.length : Int)))) rfl) rfl rfl rfl ?_
        refine o_and (p := 43) 3 (e == 0) ?_ ?_ ?_
        · intro hb14 hk
          simp only [decide_eq_true_eq] at hb14
          refine o_unguard 40 rfl rfl ?_
          refine o_pure (p_move (v := .int .i64 e) rfl) rfl rfl rfl ?_
          refine o_unguard 40 rfl rfl ?_
          refine o_pure (p_eq (p := e) (q := 0) rfl rfl) rfl rfl rfl ?_
          refine o_pure (p_pick_true (u := .bool (e == 0)) rfl rfl) rfl rfl rfl ?_
          exact o_sub (Sub.cons rfl (Sub.skip rfl (Sub.skip rfl (Sub.skip rfl (Sub.skip rfl (Sub.refl _)))))) hk
        · intro hb14 hk
          refine o_guard_no rfl 40 rfl rfl rfl rfl rfl ?_
          refine o_guard_no rfl 40 rfl rfl rfl rfl rfl ?_
          refine o_pure (p_pick_false (v := .bool false) rfl rfl) rfl rfl rfl ?_
          exact o_sub (Sub.cons rfl (Sub.skip rfl (Sub.skip rfl (Sub.skip rfl (Sub.skip rfl (Sub.refl _)))))) hk
        refine o_nil ?_
        refine q_then ?_
        refine c_cond (b := (decide ((i2 : Int) < (u.list.length : Int)) && (e == 0))) rfl (fun hc15 => ?_) (fun hc15 => ?_)
        · simp only [Bool.and_eq_true, decide_eq_true_eq, beq_iff_eq] at hc15
          refine c_skip ?_
          refine q_then ?_
          refine c_seq ?_
          refine c_block ?_
          refine c_seq ?_
          refine c_region ?_
          refine o_pure (p_fieldAddr (B := B1) (j := 0) (j' := 1) rfl fo24_1 rfl) rfl rfl rfl ?_
          refine o_pure (p_load (i := 1) (v := .slice au_0 u.list.length cu_0) rfl rfl sh22 rfl) rfl rfl rfl ?_
          refine o_pure (p_move (v := .int .i64 (i2 : Int)) rfl) rfl rfl rfl ?_
          refine o_pure (p_indexAddr (L := u.list) (T := tUse) (i := (i2 : Int)) rfl rfl (rd_base (i := 2) rfl hu_0) Try.underlying22 sz42 (by omega) (by omega)) rfl rfl rfl ?_
          refine o_pure (p_fieldAddrE rfl fo42_1) rfl rfl rfl ?_
          refine o_pure (p_loadF (i := i2) (j := 1) (T := tUse) (L := u.list) (v := .int .i64 ((u.list[i2]).count)) rfl (rd_base (i := 2) rfl hu_0) (by first | assumption | omega) sh3 rfl) rfl rfl rfl ?_
          refine o_call0 (v := .bool (Ref.between ((u.list[i2]).count) (1 : Int) (1099511627776 : Int))) rfl (between_ok ((u.list[i2]).count) (1 : Int) (1099511627776 : Int)) hf54 (fun _ _ => trivial) rfl ?_
          refine o_pure (p_not (b := (Ref.between ((u.list[i2]).count) (1 : Int) (1099511627776 : Int))) rfl) rfl rfl rfl ?_
          refine o_nil ?_
          refine q_then ?_
          refine c_cond (b := (!(Ref.between ((u.list[i2]).count) (1 : Int) (1099511627776 : Int)))) rfl (fun hc16 => ?_) (fun hc16 => ?_)
          · simp only [Bool.not_eq_true'] at hc16
            refine c_region ?_
            refine o_pure (p_assign (v := .int .i64 3) rfl) rfl rfl rfl ?_
            refine o_nil ?_
            refine q_block_normal (q_then ?_)
            refine c_region ?_
            refine o_pure (p_move (v := .int .i64 (i2 : Int)) rfl) rfl rfl rfl ?_
            refine o_pure (p_addb (p := (i2 : Int)) (q := 1) rfl rfl (by omega)) rfl rfl rfl ?_
            refine o_pure (p_assign (v := .int .i64 ((i2 : Int) + 1)) rfl) rfl rfl rfl ?_
            refine o_nil ?_
            refine q_round hK13 (3, i2 + 1) ?_ ?_ ?_ ?_
            · clear hK13
              first | exact hI.ok (by omega) (by omega) (by assumption) | exact hI.bad (by omega) (by omega) (by assumption)
            · (try dsimp only); omega
            · exact Sub.cons rfl (Sub.cons rfl (Sub.cons rfl (Sub.nil _)))
            · exact fun _ hw => HeapIs.pick hw [0, 1, 2] (by decide) rfl
          · simp only [Bool.not_eq_false'] at hc16
            refine c_skip ?_
            refine q_block_normal (q_then ?_)
            refine c_region ?_
            refine o_pure (p_move (v := .int .i64 (i2 : Int)) rfl) rfl rfl rfl ?_
            refine o_pure (p_addb (p := (i2 : Int)) (q := 1) rfl rfl (by omega)) rfl rfl rfl ?_
            refine o_pure (p_assign (v := .int .i64 ((i2 : Int) + 1)) rfl) rfl rfl rfl ?_
            refine o_nil ?_
            refine q_round hK13 (e, i2 + 1) ?_ ?_ ?_ ?_
            · clear hK13
              first | exact hI.ok (by omega) (by omega) (by assumption) | exact hI.bad (by omega) (by omega) (by assumption)
            · (try dsimp only); omega
            · exact Sub.cons rfl (Sub.cons rfl (Sub.cons rfl (Sub.nil _)))
            · exact fun _ hw => HeapIs.pick hw [0, 1, 2] (by decide) rfl
        · simp only [Bool.and_eq_false_iff, decide_eq_false_iff_not, Int.not_lt, beq_eq_false_iff_ne, ne_eq] at hc15
          refine c_exit ?_
          refine q_then_exit (q_then_exit (q_block_exit (q_then ?_)))
          refine c_seq ?_
          refine c_region ?_
          refine o_pure (p_move (v := .int .i64 e) rfl) rfl rfl rfl ?_
          refine o_pure (p_assign (v := .int .i64 e) rfl) rfl rfl rfl ?_
          refine o_nil ?_
          refine q_then ?_
          refine c_ret ?_
          have hr0 : (e : Int) = (Lfu.check u) := by
            first | exact Lfu.chk1 (by simp only [Ref.between, Lru.okRoom] at *; simp_all) | exact Lfu.chk2 hokr (by omega) | exact hI.done (by grind) hokr (by omega)
          refine q_end0 (v := .int .i64 e) (rt1 rfl (r_tmp rfl)) (i := 2) rfl ?_
          exact (by have hcc := congrArg (fun (y0 : Int) => (.int .i64 y0 : Value)) hr0; exact hcc)
end Go.Proofs.Ytagbihjkdejdjaa
