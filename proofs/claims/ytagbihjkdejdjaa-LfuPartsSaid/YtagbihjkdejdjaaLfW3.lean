/- The walks, printed by a program from the translation and a specification. -/
import Derived.Test.YtagbihjkdejdjaaLfF
import Derived.Test.YtagbihjkdejdjaaLfLaw5
import Derived.Test.YtagbihjkdejdjaaLfW1
import Derived.Test.YtagbihjkdejdjaaLfW2
namespace Go.Proofs.Ytagbihjkdejdjaa
open Go.Sx Go.RowKit
set_option maxHeartbeats 8000000 in
set_option maxRecDepth 100000 in
theorem fcheck1_ok (x : DUse) : Fn0 Try.prog 59 [.agg #[.int .i64 x.key, .int .i64 x.count]] (fun _ => True) (.bool (!Lfu.okCount x)) := by
  refine fn0 (nt := 11) (F0 := [(0, .agg #[.int .i64 x.key, .int .i64 x.count])]) Try.func59 rfl Try.ntmps59 rfl rfl (fun w0 hpre => ?_)
  refine c_seq ?_
  refine c_region ?_
  refine o_box (v := .agg #[.int .i64 x.key, .int .i64 x.count]) rfl rfl (fun B1 => ?_)
  refine o_pure (p_assign (v := .bool false) rfl) rfl rfl rfl ?_
  refine o_nil ?_
  refine q_then ?_
  refine c_seq ?_
  refine c_region ?_
  refine o_pure (p_fieldAddr (B := B1) (j := 0) (j' := 1) rfl fo42_1 rfl) rfl rfl rfl ?_
  refine o_pure (p_load (i := 0) (v := .int .i64 x.count) rfl rfl sh3 rfl) rfl rfl rfl ?_
  refine o_pure (p_lt (p := x.count) (q := 1) rfl rfl) rfl rfl rfl ?_
  refine o_pure (p_move (v := .bool (decide (x.count < 1))) rfl) rfl rfl rfl ?_
  refine o_or (p := 10) 4 (decide (1099511627776 < x.count)) ?_ ?_ ?_
  · intro hb2 hk
    simp only [decide_eq_false_iff_not, Int.not_lt] at hb2
    refine o_unguard 6 rfl rfl ?_
    refine o_pure (p_fieldAddr (B := B1) (j := 0) (j' := 1) rfl fo42_1 rfl) rfl rfl rfl ?_
    refine o_unguard 6 rfl rfl ?_
    refine o_pure (p_load (i := 0) (v := .int .i64 x.count) rfl rfl sh3 rfl) rfl rfl rfl ?_
    refine o_unguard 6 rfl rfl ?_
    refine o_pure (p_gt (p := x.count) (q := 1099511627776) rfl rfl) rfl rfl rfl ?_
    refine o_pure (p_pick_false (v := .bool (decide (1099511627776 < x.count))) rfl rfl) rfl rfl rfl ?_
    exact o_sub (Sub.cons rfl (Sub.skip rfl (Sub.skip rfl (Sub.skip rfl (Sub.skip rfl (Sub.skip rfl (Sub.refl _))))))) hk
  · intro hb2 hk
    refine o_guard_no rfl 6 rfl rfl rfl rfl rfl ?_
    refine o_guard_no rfl 6 rfl rfl rfl rfl rfl ?_
    refine o_guard_no rfl 6 rfl rfl rfl rfl rfl ?_
    refine o_pure (p_pick_true (u := .bool true) rfl rfl) rfl rfl rfl ?_
    exact o_sub (Sub.cons rfl (Sub.skip rfl (Sub.skip rfl (Sub.skip rfl (Sub.skip rfl (Sub.skip rfl (Sub.refl _))))))) hk
  refine o_pure (p_assign (v := .bool (decide (x.count < 1) || decide (1099511627776 < x.count))) rfl) rfl rfl rfl ?_
  refine o_nil ?_
  refine q_then ?_
  refine c_ret ?_
  have hr0 : ((decide (x.count < 1) || decide (1099511627776 < x.count)) : Bool) = (!Lfu.okCount x) := by
    simp only [Lfu.okCount]; grind
  refine q_end0 (v := .bool (decide (x.count < 1) || decide (1099511627776 < x.count))) (rt1 rfl (r_tmp rfl)) (i := 1) rfl ?_
  exact (by have hcc := congrArg (fun (y0 : Bool) => (.bool y0 : Value)) hr0; exact hcc)

set_option maxHeartbeats 8000000 in
set_option maxRecDepth 100000 in
theorem fcheck_ok (u : DUses) (au_0 : Option Addr) (cu_0 : Nat) : Fn0 Try.prog 25 [.agg #[.int .i64 u.room, .slice au_0 u.list.length cu_0]] (fun w => Rd tUse w au_0 cu_0 u.list) (.int .i64 (Lfu.check u)) := by
  refine fn0 (nt := 40) (F0 := [(0, .agg #[.int .i64 u.room, .slice au_0 u.list.length cu_0])]) Try.func25 rfl Try.ntmps25 rfl rfl (fun w0 hpre => ?_)
  have hu_0 := hpre
  have hlhu_0 := hu_0.2.1
  refine c_seq ?_
  refine c_region ?_
  refine o_box (v := .agg #[.int .i64 u.room, .slice au_0 u.list.length cu_0]) rfl rfl (fun B1 => ?_)
  refine o_pure (p_assign (v := .int .i64 0) rfl) rfl rfl rfl ?_
  refine o_nil ?_
  refine q_then ?_
  refine c_seq ?_
  refine c_block ?_
  refine c_seq ?_
  refine c_region ?_
  refine o_pure (p_fieldAddr (B := B1) (j := 0) (j' := 0) rfl fo24_0 rfl) rfl rfl rfl ?_
  refine o_pure (p_load (i := 0) (v := .int .i64 u.room) rfl rfl sh3 rfl) rfl rfl rfl ?_
  refine o_call0 (v := .bool (Lru.okRoom u.room)) rfl (room_ok u.room) hf56 (fun _ _ => trivial) rfl ?_
  refine o_pure (p_not (b := (Lru.okRoom u.room)) rfl) rfl rfl rfl ?_
  refine o_pure (p_assign (v := .bool (!(Lru.okRoom u.room))) rfl) rfl rfl rfl ?_
  refine o_nil ?_
  refine q_then ?_
  refine c_cond (b := (!(Lru.okRoom u.room))) rfl (fun hc2 => ?_) (fun hc2 => ?_)
  · simp only [Bool.not_eq_true'] at hc2
    refine c_seq ?_
    refine c_region ?_
    refine o_pure (p_assign (v := .int .i64 3) rfl) rfl rfl rfl ?_
    refine o_nil ?_
    refine q_then ?_
    refine c_ret ?_
    refine q_block_ret (q_then_ret ?_)
    have hr0 : (3 : Int) = (Lfu.check u) := by
      first | exact Lfu.chk1 (by assumption) | exact Lfu.chk2 (by assumption) (by omega) | exact Lfu.chk3 hka (by assumption) (by omega) (by assumption) | exact Lfu.chk4 hka (by assumption) (by omega) (by assumption) (by assumption) | exact Lfu.chk5 hka (by assumption) (by omega) (by assumption) (by assumption)
    refine q_end0 (v := .int .i64 3) (rt1 rfl (r_tmp rfl)) (i := 1) rfl ?_
    exact (by have hcc := congrArg (fun (y0 : Int) => (.int .i64 y0 : Value)) hr0; exact hcc)
  · simp only [Bool.not_eq_false'] at hc2
    have hroom := Lru.room_ok hc2
    refine c_seq ?_
    refine c_region ?_
    refine o_pure (p_fieldAddr (B := B1) (j := 0) (j' := 1) rfl fo24_1 rfl) rfl rfl rfl ?_
    refine o_pure (p_load (i := 0) (v := .slice au_0 u.list.length cu_0) rfl rfl sh22 rfl) rfl rfl rfl ?_
    refine o_pure (p_len_slice (len := u.list.length) rfl rfl Try.underlying22) rfl rfl rfl ?_
    refine o_pure (p_fieldAddr (B := B1) (j := 0) (j' := 0) rfl fo24_0 rfl) rfl rfl rfl ?_
    refine o_pure (p_load (i := 0) (v := .int .i64 u.room) rfl rfl sh3 rfl) rfl rfl rfl ?_
    refine o_pure (p_gt (p := (u.list.length : Int)) (q := u.room) rfl rfl) rfl rfl rfl ?_
    refine o_pure (p_assign (v := .bool (decide (u.room < (u.list.length : Int)))) rfl) rfl rfl rfl ?_
    refine o_nil ?_
    refine q_then ?_
    refine c_cond (b := decide (u.room < (u.list.length : Int))) rfl (fun hc3 => ?_) (fun hc3 => ?_)
    · simp only [decide_eq_true_eq] at hc3
      refine c_seq ?_
      refine c_region ?_
      refine o_pure (p_assign (v := .int .i64 2) rfl) rfl rfl rfl ?_
      refine o_nil ?_
      refine q_then ?_
      refine c_ret ?_
      refine q_block_ret (q_then_ret ?_)
      have hr0 : (2 : Int) = (Lfu.check u) := by
        first | exact Lfu.chk1 (by assumption) | exact Lfu.chk2 (by assumption) (by omega) | exact Lfu.chk3 hka (by assumption) (by omega) (by assumption) | exact Lfu.chk4 hka (by assumption) (by omega) (by assumption) (by assumption) | exact Lfu.chk5 hka (by assumption) (by omega) (by assumption) (by assumption)
      refine q_end0 (v := .int .i64 2) (rt1 rfl (r_tmp rfl)) (i := 1) rfl ?_
      exact (by have hcc := congrArg (fun (y0 : Int) => (.int .i64 y0 : Value)) hr0; exact hcc)
    · simp only [decide_eq_false_iff_not, Int.not_lt] at hc3
      refine c_skip ?_
      refine q_block_normal (q_then ?_)
      refine c_seq ?_
      refine c_region ?_
      refine o_pure (p_assign (v := .slice none 0 0) rfl) rfl rfl rfl ?_
      refine o_nil ?_
      refine q_then ?_
      refine c_seq ?_
      refine c_seq ?_
      refine c_region ?_
      refine o_pure (p_fieldAddr (B := B1) (j := 0) (j' := 1) rfl fo24_1 rfl) rfl rfl rfl ?_
      refine o_pure (p_load (i := 0) (v := .slice au_0 u.list.length cu_0) rfl rfl sh22 rfl) rfl rfl rfl ?_
      refine o_pure (p_len_slice (len := u.list.length) rfl rfl Try.underlying22) rfl rfl rfl ?_
      refine o_pure (p_move (v := .int .i64 0) rfl) rfl rfl rfl ?_
      refine o_nil ?_
      refine q_then ?_
      refine c_block ?_
      refine c_ownNil tInt ?_
      refine c_loop (St := List Int × Option Addr × Nat × (Nat → Prop) × Nat)
        (fun ⟨keys, akeys, ckeys, Skeys, k⟩ => [(1, .pointer (some ⟨B1, 0, none⟩)), (3, .slice akeys keys.length ckeys), (20, .slice au_0 u.list.length cu_0), (21, .int .i64 (u.list.length : Int)), (22, .int .i64 (k : Int))])
        (fun ⟨keys, akeys, ckeys, Skeys, k⟩ => [own tInt Skeys akeys ckeys keys, box B1 [.int .i64 u.room, .slice au_0 u.list.length cu_0] 24, base w0])
        (fun ⟨keys, akeys, ckeys, Skeys, k⟩ => k ≤ u.list.length ∧ keys = Lfu.keysOf (u.list.take k))
        (fun ⟨keys, akeys, ckeys, Skeys, k⟩ => u.list.length - k)
        ([], none, 0, (fun _ => False), 0) ?_ (Sub.cons rfl (Sub.cons rfl (Sub.cons rfl (Sub.cons rfl (Sub.cons rfl (Sub.nil _)))))) (fun _ hw => hw) ?_
      · exact ⟨Nat.zero_le _, rfl⟩
      rintro ⟨keys, akeys, ckeys, Skeys, k⟩ hI K hK5
      have hkl : keys.length = k := by rw [hI.2]; exact Lfu.keys_len hI.1
      show SC _ _ Try.prog 40 w0 _ _ [(1, .pointer (some ⟨B1, 0, none⟩)), (3, .slice akeys keys.length ckeys), (20, .slice au_0 u.list.length cu_0), (21, .int .i64 (u.list.length : Int)), (22, .int .i64 (k : Int))] [own tInt Skeys akeys ckeys keys, box B1 [.int .i64 u.room, .slice au_0 u.list.length cu_0] 24, base w0]
      refine c_seq ?_
      refine c_region ?_
      refine o_pure (p_lt (p := (k : Int)) (q := (u.list.length : Int)) rfl rfl) rfl rfl rfl ?_
      refine o_nil ?_
      refine q_then ?_
      refine c_seq ?_
      refine c_cond (b := decide ((k : Int) < (u.list.length : Int))) rfl (fun hc6 => ?_) (fun hc6 => ?_)
      · simp only [decide_eq_true_eq] at hc6
        refine c_skip ?_
        refine q_then ?_
        refine c_seq ?_
        refine c_block ?_
        refine c_seq ?_
        refine c_region ?_
        refine o_pure (p_indexAddr (L := u.list) (T := tUse) (i := (k : Int)) rfl rfl (rd_base (i := 2) rfl hu_0) Try.underlying22 sz42 (by omega) (by omega)) rfl rfl rfl ?_
        refine o_pure (p_loadEn (i := k) (T := tUse) (L := u.list) (vs := [.int .i64 ((u.list[k]).key), .int .i64 ((u.list[k]).count)]) rfl (rd_base (i := 2) rfl hu_0) (by first | assumption | omega) sh42 rfl) rfl rfl rfl ?_
        refine o_alloc ze42 rfl (fun B7 => ?_)
        refine o_storeN (i := 0) (vs := [.int .i64 ((u.list[k]).key), .int .i64 ((u.list[k]).count)]) (cs' := [.int .i64 ((u.list[k]).key), .int .i64 ((u.list[k]).count)]) rfl rfl rfl sz42 rfl rfl rfl rfl ?_
        refine o_nil ?_
        refine q_then ?_
        refine c_region ?_
        refine o_pure (p_move (v := .slice akeys keys.length ckeys) rfl) rfl rfl rfl ?_
        refine o_pure (p_fieldAddr (B := B7) (j := 0) (j' := 0) rfl fo42_0 rfl) rfl rfl rfl ?_
        refine o_pure (p_load (i := 0) (v := .int .i64 ((u.list[k]).key)) rfl rfl sh3 rfl) rfl rfl rfl ?_
        refine o_buildSlice (m := 1) (T := tInt) (L := [(u.list[k]).key]) (vs := [.int .i64 ((u.list[k]).key)]) rfl rfl rfl rfl Try.underlying25 sz3 (by decide) ze3 rfl (by decide) rfl (fun S8 a9 => ?_)
        refine o_append (i := 2) (L := keys) (M := [(u.list[k]).key]) (T := tInt) rfl rfl rfl (rd_own (i := 0) rfl) Try.underlying25 Try.underlying25 (by intro k h; cases h) el3 (by intro z; simp [tInt, one1]) (by decide) (by first | omega | (simp only [List.length_cons, List.length_nil]; omega) | (simp only [List.length_append, List.length_cons, List.length_nil, List.length_take, List.length_drop]; omega)) rfl (fun a11 c12 S13 => ?_)
        refine o_pure (p_assign (v := .slice a11 (keys ++ [(u.list[k]).key]).length c12) rfl) rfl rfl rfl ?_
        refine o_nil ?_
        refine q_block_normal (q_then ?_)
        refine c_region ?_
        refine o_pure (p_addb (p := (k : Int)) (q := 1) rfl rfl (by omega)) rfl rfl rfl ?_
        refine o_pure (p_move (v := .int .i64 ((k : Int) + 1)) rfl) rfl rfl rfl ?_
        refine o_nil ?_
        refine q_round hK5 ((keys ++ [(u.list[k]).key]), a11, c12, S13, k + 1) ?_ ?_ ?_ ?_
        · clear hK5
          exact ⟨by omega, (congrArg (fun z => z ++ [_]) hI.2).trans (Lfu.keys_step (by omega))⟩
        · (try dsimp only); omega
        · exact Sub.cons rfl (Sub.cons rfl (Sub.cons rfl (Sub.cons rfl (Sub.cons rfl (Sub.nil _)))))
        · exact fun _ hw => HeapIs.pick hw [2, 3, 4] (by decide) rfl
      · simp only [decide_eq_false_iff_not, Int.not_lt] at hc6
        have hka := hI.2.trans (Lfu.keys_all (by omega))
        refine c_exit ?_
        refine q_then_exit (q_then_exit (q_block_exit (q_then ?_)))
        refine c_seq ?_
        refine c_seq ?_
        refine c_region ?_
        refine o_pure (p_move (v := .slice akeys keys.length ckeys) rfl) rfl rfl rfl ?_
        refine o_call0 (v := .int .i64 (Lru.keys keys)) rfl (keys_ok keys akeys ckeys) hf57 (fun w hw => (rd_own (i := 0) rfl) w hw) rfl ?_
        refine o_pure (p_assign (v := .int .i64 (Lru.keys keys)) rfl) rfl rfl rfl ?_
        refine o_nil ?_
        refine q_then ?_
        refine c_seq ?_
        refine c_region ?_
        refine o_pure (p_move (v := .int .i64 (Lru.keys keys)) rfl) rfl rfl rfl ?_
        refine o_pure (p_ne (p := (Lru.keys keys)) (q := 0) rfl rfl) rfl rfl rfl ?_
        refine o_nil ?_
        refine q_then ?_
        refine c_cond (b := ((Lru.keys keys) != 0)) rfl (fun hc14 => ?_) (fun hc14 => ?_)
        · simp only [bne_iff_ne, ne_eq] at hc14
          refine c_seq ?_
          refine c_region ?_
          refine o_pure (p_move (v := .int .i64 (Lru.keys keys)) rfl) rfl rfl rfl ?_
          refine o_pure (p_assign (v := .int .i64 (Lru.keys keys)) rfl) rfl rfl rfl ?_
          refine o_nil ?_
          refine q_then ?_
          refine c_ret ?_
          refine q_then_ret ?_
          have hr0 : ((Lru.keys keys) : Int) = (Lfu.check u) := by
            first | exact Lfu.chk1 (by assumption) | exact Lfu.chk2 (by assumption) (by omega) | exact Lfu.chk3 hka (by assumption) (by omega) (by assumption) | exact Lfu.chk4 hka (by assumption) (by omega) (by assumption) (by assumption) | exact Lfu.chk5 hka (by assumption) (by omega) (by assumption) (by assumption)
          refine q_end0 (v := .int .i64 (Lru.keys keys)) (rt1 rfl (r_tmp rfl)) (i := 2) rfl ?_
          exact (by have hcc := congrArg (fun (y0 : Int) => (.int .i64 y0 : Value)) hr0; exact hcc)
        · simp only [bne_eq_false_iff_eq] at hc14
          refine c_skip ?_
          refine q_then ?_
          refine c_seq ?_
          refine c_seq ?_
          refine c_region ?_
          refine o_pure (p_fieldAddr (B := B1) (j := 0) (j' := 1) rfl fo24_1 rfl) rfl rfl rfl ?_
          refine o_pure (p_load (i := 1) (v := .slice au_0 u.list.length cu_0) rfl rfl sh22 rfl) rfl rfl rfl ?_
          refine o_call0 (v := .bool (u.list.any (fun x : DUse => (!Lfu.okCount x)))) rfl (containsFunc_Use_ok u.list au_0 cu_0 59 [] (fun x => (!Lfu.okCount x)) (fun _ => True) (fun _ _ _ h => h) (fun x => fcheck1_ok x) hf59) hf58 (fun w hw => ⟨(rd_base (i := 2) rfl hu_0) w hw, trivial⟩) rfl ?_
          refine o_nil ?_
          refine q_then ?_
          refine c_cond (b := (u.list.any (fun x : DUse => (!Lfu.okCount x)))) rfl (fun hc15 => ?_) (fun hc15 => ?_)
          · skip
            refine c_seq ?_
            refine c_region ?_
            refine o_pure (p_assign (v := .int .i64 3) rfl) rfl rfl rfl ?_
            refine o_nil ?_
            refine q_then ?_
            refine c_ret ?_
            refine q_then_ret ?_
            have hr0 : (3 : Int) = (Lfu.check u) := by
              first | exact Lfu.chk1 (by assumption) | exact Lfu.chk2 (by assumption) (by omega) | exact Lfu.chk3 hka (by assumption) (by omega) (by assumption) | exact Lfu.chk4 hka (by assumption) (by omega) (by assumption) (by assumption) | exact Lfu.chk5 hka (by assumption) (by omega) (by assumption) (by assumption)
            refine q_end0 (v := .int .i64 3) (rt1 rfl (r_tmp rfl)) (i := 2) rfl ?_
            exact (by have hcc := congrArg (fun (y0 : Int) => (.int .i64 y0 : Value)) hr0; exact hcc)
          · skip
            refine c_skip ?_
            refine q_then ?_
            refine c_seq ?_
            refine c_region ?_
            refine o_pure (p_assign (v := .int .i64 0) rfl) rfl rfl rfl ?_
            refine o_nil ?_
            refine q_then ?_
            refine c_ret ?_
            have hr0 : (0 : Int) = (Lfu.check u) := by
              first | exact Lfu.chk1 (by assumption) | exact Lfu.chk2 (by assumption) (by omega) | exact Lfu.chk3 hka (by assumption) (by omega) (by assumption) | exact Lfu.chk4 hka (by assumption) (by omega) (by assumption) (by assumption) | exact Lfu.chk5 hka (by assumption) (by omega) (by assumption) (by assumption)
            refine q_end0 (v := .int .i64 0) (rt1 rfl (r_tmp rfl)) (i := 2) rfl ?_
            exact (by have hcc := congrArg (fun (y0 : Int) => (.int .i64 y0 : Value)) hr0; exact hcc)
end Go.Proofs.Ytagbihjkdejdjaa
