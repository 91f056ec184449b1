/- The walks, printed by a program from the translation and a specification. -/
import Derived.Test.YtkndekkacimekaaTdF
import Derived.Test.YtkndekkacimekaaTdLaw
import Derived.Test.YtkndekkacimekaaTdW1
import Derived.Test.YtkndekkacimekaaTdW3
namespace Go.Proofs.Ytkndekkacimekaa
open Go.Sx Go.RowKit
set_option maxHeartbeats 8000000 in
set_option maxRecDepth 100000 in
theorem checkTrace1_ok (key : Int) : Fn0 Try.prog 87 [.int .i64 key] (fun _ => True) (.bool (!Lru.okKey key)) := by
  refine fn0 (nt := 6) (F0 := [(0, .int .i64 key)]) Try.func87 rfl Try.ntmps87 rfl rfl (fun w0 hpre => ?_)
  refine c_seq ?_
  refine c_region ?_
  refine o_pure (p_assign (v := .bool false) rfl) rfl rfl rfl ?_
  refine o_nil ?_
  refine q_then ?_
  refine c_seq ?_
  refine c_region ?_
  refine o_pure (p_move (v := .int .i64 key) rfl) rfl rfl rfl ?_
  refine o_call0 (v := .bool (Lru.okKey key)) rfl (key_ok key) hf52 (fun _ _ => trivial) rfl ?_
  refine o_pure (p_not (b := (Lru.okKey key)) rfl) rfl rfl rfl ?_
  refine o_pure (p_assign (v := .bool (!(Lru.okKey key))) rfl) rfl rfl rfl ?_
  refine o_nil ?_
  refine q_then ?_
  refine c_ret ?_
  have hr0 : ((!(Lru.okKey key)) : Bool) = (!Lru.okKey key) := by
    rfl
  refine q_end0 (v := .bool (!(Lru.okKey key))) (rt1 rfl (r_tmp rfl)) (i := 0) rfl ?_
  exact (by have hcc := congrArg (fun (y0 : Bool) => (.bool y0 : Value)) hr0; exact hcc)

set_option maxHeartbeats 8000000 in
set_option maxRecDepth 100000 in
theorem checkTrace_ok (l : List Int) (al : Option Addr) (cl : Nat) : Fn0 Try.prog 57 [.slice al l.length cl] (fun w => Rd tInt w al cl l) (.int .i64 (Lru.trace l)) := by
  refine fn0 (nt := 10) (F0 := [(0, .slice al l.length cl)]) Try.func57 rfl Try.ntmps57 rfl rfl (fun w0 hpre => ?_)
  have hl := hpre
  have hlhl := hl.2.1
  refine c_seq ?_
  refine c_region ?_
  refine o_pure (p_assign (v := .int .i64 0) rfl) rfl rfl rfl ?_
  refine o_nil ?_
  refine q_then ?_
  refine c_seq ?_
  refine c_block ?_
  refine c_seq ?_
  refine c_region ?_
  refine o_pure (p_move (v := .slice al l.length cl) rfl) rfl rfl rfl ?_
  refine o_pure (p_len_slice (len := l.length) rfl rfl Try.underlying30) rfl rfl rfl ?_
  refine o_pure (p_gt (p := (l.length : Int)) (q := 200) rfl rfl) rfl rfl rfl ?_
  refine o_pure (p_assign (v := .bool (decide (200 < (l.length : Int)))) rfl) rfl rfl rfl ?_
  refine o_nil ?_
  refine q_then ?_
  refine c_cond (b := decide (200 < (l.length : Int))) rfl (fun hc1 => ?_) (fun hc1 => ?_)
  · simp only [decide_eq_true_eq] at hc1
    refine c_seq ?_
    refine c_region ?_
    refine o_pure (p_assign (v := .int .i64 2) rfl) rfl rfl rfl ?_
    refine o_nil ?_
    refine q_then ?_
    refine c_ret ?_
    refine q_block_ret (q_then_ret ?_)
    have hr0 : (2 : Int) = (Lru.trace l) := by
      first | exact (Lru.trace_many (by assumption)).symm | exact (Lru.trace_bad (by omega) (by assumption)).symm | exact (Lru.trace_fine (by omega) (by assumption)).symm
    refine q_end0 (v := .int .i64 2) (rt1 rfl (r_tmp rfl)) (i := 0) rfl ?_
    exact (by have hcc := congrArg (fun (y0 : Int) => (.int .i64 y0 : Value)) hr0; exact hcc)
  · simp only [decide_eq_false_iff_not, Int.not_lt] at hc1
    refine c_seq ?_
    refine c_region ?_
    refine o_pure (p_move (v := .slice al l.length cl) rfl) rfl rfl rfl ?_
    refine o_call0 (v := .bool (l.any (fun x : Int => (!Lru.okKey x)))) rfl (containsFunc_Int_ok l al cl 87 [] (fun x => (!Lru.okKey x)) (fun _ => True) (fun _ _ _ h => h) (fun x => checkTrace1_ok x) hf87) hf86 (fun w hw => ⟨(rd_base (i := 0) rfl hl) w hw, trivial⟩) rfl ?_
    refine o_pure (p_assign (v := .bool (l.any (fun x : Int => (!Lru.okKey x)))) rfl) rfl rfl rfl ?_
    refine o_nil ?_
    refine q_then ?_
    refine c_cond (b := (l.any (fun x : Int => (!Lru.okKey x)))) rfl (fun hc2 => ?_) (fun hc2 => ?_)
    · skip
      refine c_seq ?_
      refine c_region ?_
      refine o_pure (p_assign (v := .int .i64 3) rfl) rfl rfl rfl ?_
      refine o_nil ?_
      refine q_then ?_
      refine c_ret ?_
      refine q_block_ret (q_then_ret ?_)
      have hr0 : (3 : Int) = (Lru.trace l) := by
        first | exact (Lru.trace_many (by assumption)).symm | exact (Lru.trace_bad (by omega) (by assumption)).symm | exact (Lru.trace_fine (by omega) (by assumption)).symm
      refine q_end0 (v := .int .i64 3) (rt1 rfl (r_tmp rfl)) (i := 0) rfl ?_
      exact (by have hcc := congrArg (fun (y0 : Int) => (.int .i64 y0 : Value)) hr0; exact hcc)
    · skip
      refine c_skip ?_
      refine q_block_normal (q_then ?_)
      refine c_seq ?_
      refine c_region ?_
      refine o_pure (p_assign (v := .int .i64 0) rfl) rfl rfl rfl ?_
      refine o_nil ?_
      refine q_then ?_
      refine c_ret ?_
      have hr0 : (0 : Int) = (Lru.trace l) := by
        first | exact (Lru.trace_many (by assumption)).symm | exact (Lru.trace_bad (by omega) (by assumption)).symm | exact (Lru.trace_fine (by omega) (by assumption)).symm
      refine q_end0 (v := .int .i64 0) (rt1 rfl (r_tmp rfl)) (i := 0) rfl ?_
      exact (by have hcc := congrArg (fun (y0 : Int) => (.int .i64 y0 : Value)) hr0; exact hcc)

set_option maxHeartbeats 8000000 in
set_option maxRecDepth 100000 in
theorem lcheck_ok (c : DCache) (ac_0 : Option Addr) (cc_0 : Nat) : Fn0 Try.prog 61 [.agg #[.int .i64 c.room, .slice ac_0 c.keys.length cc_0]] (fun w => Rd tInt w ac_0 cc_0 c.keys) (.int .i64 (Lru.check c)) := by
  refine fn0 (nt := 18) (F0 := [(0, .agg #[.int .i64 c.room, .slice ac_0 c.keys.length cc_0])]) Try.func61 rfl Try.ntmps61 rfl rfl (fun w0 hpre => ?_)
  have hc_0 := hpre
  have hlhc_0 := hc_0.2.1
  refine c_seq ?_
  refine c_region ?_
  refine o_box (v := .agg #[.int .i64 c.room, .slice ac_0 c.keys.length cc_0]) rfl rfl (fun B1 => ?_)
  refine o_pure (p_assign (v := .int .i64 0) rfl) rfl rfl rfl ?_
  refine o_nil ?_
  refine q_then ?_
  refine c_seq ?_
  refine c_block ?_
  refine c_seq ?_
  refine c_region ?_
  refine o_pure (p_fieldAddr (B := B1) (j := 0) (j' := 0) rfl fo54_0 rfl) rfl rfl rfl ?_
  refine o_pure (p_load (i := 0) (v := .int .i64 c.room) rfl rfl sh3 rfl) rfl rfl rfl ?_
  refine o_call0 (v := .bool (Lru.okRoom c.room)) rfl (room_ok c.room) hf70 (fun _ _ => trivial) rfl ?_
  refine o_pure (p_not (b := (Lru.okRoom c.room)) rfl) rfl rfl rfl ?_
  refine o_pure (p_assign (v := .bool (!(Lru.okRoom c.room))) rfl) rfl rfl rfl ?_
  refine o_nil ?_
  refine q_then ?_
  refine c_cond (b := (!(Lru.okRoom c.room))) rfl (fun hc2 => ?_) (fun hc2 => ?_)
  · simp only [Bool.not_eq_true'] at hc2
    refine c_seq ?_
    refine c_region ?_
    refine o_pure (p_assign (v := .int .i64 3) rfl) rfl rfl rfl ?_
    refine o_nil ?_
    refine q_then ?_
    refine c_ret ?_
    refine q_block_ret (q_then_ret ?_)
    have hr0 : (3 : Int) = (Lru.check c) := by
      first | (rw [Lru.check, if_pos (by assumption)]; done) | (rw [Lru.check, if_neg (by simp_all), if_pos (by assumption)]; done) | (rw [Lru.check, if_neg (by simp_all), if_neg (by omega)]; done)
    refine q_end0 (v := .int .i64 3) (rt1 rfl (r_tmp rfl)) (i := 1) rfl ?_
    exact (by have hcc := congrArg (fun (y0 : Int) => (.int .i64 y0 : Value)) hr0; exact hcc)
  · simp only [Bool.not_eq_false'] at hc2
    refine c_seq ?_
    refine c_region ?_
    refine o_pure (p_fieldAddr (B := B1) (j := 0) (j' := 1) rfl fo54_1 rfl) rfl rfl rfl ?_
    refine o_pure (p_load (i := 0) (v := .slice ac_0 c.keys.length cc_0) rfl rfl sh30 rfl) rfl rfl rfl ?_
    refine o_pure (p_len_slice (len := c.keys.length) rfl rfl Try.underlying30) rfl rfl rfl ?_
    refine o_pure (p_fieldAddr (B := B1) (j := 0) (j' := 0) rfl fo54_0 rfl) rfl rfl rfl ?_
    refine o_pure (p_load (i := 0) (v := .int .i64 c.room) rfl rfl sh3 rfl) rfl rfl rfl ?_
    refine o_pure (p_gt (p := (c.keys.length : Int)) (q := c.room) rfl rfl) rfl rfl rfl ?_
    refine o_pure (p_assign (v := .bool (decide (c.room < (c.keys.length : Int)))) rfl) rfl rfl rfl ?_
    refine o_nil ?_
    refine q_then ?_
    refine c_cond (b := decide (c.room < (c.keys.length : Int))) rfl (fun hc3 => ?_) (fun hc3 => ?_)
    · simp only [decide_eq_true_eq] at hc3
      refine c_seq ?_
      refine c_region ?_
      refine o_pure (p_assign (v := .int .i64 2) rfl) rfl rfl rfl ?_
      refine o_nil ?_
      refine q_then ?_
      refine c_ret ?_
      refine q_block_ret (q_then_ret ?_)
      have hr0 : (2 : Int) = (Lru.check c) := by
        first | (rw [Lru.check, if_pos (by assumption)]; done) | (rw [Lru.check, if_neg (by simp_all), if_pos (by assumption)]; done) | (rw [Lru.check, if_neg (by simp_all), if_neg (by omega)]; done)
      refine q_end0 (v := .int .i64 2) (rt1 rfl (r_tmp rfl)) (i := 1) rfl ?_
      exact (by have hcc := congrArg (fun (y0 : Int) => (.int .i64 y0 : Value)) hr0; exact hcc)
    · simp only [decide_eq_false_iff_not, Int.not_lt] at hc3
      refine c_skip ?_
      refine q_block_normal (q_then ?_)
      refine c_seq ?_
      refine c_region ?_
      refine o_pure (p_fieldAddr (B := B1) (j := 0) (j' := 1) rfl fo54_1 rfl) rfl rfl rfl ?_
      refine o_pure (p_load (i := 0) (v := .slice ac_0 c.keys.length cc_0) rfl rfl sh30 rfl) rfl rfl rfl ?_
      refine o_call0 (v := .int .i64 (Lru.keys c.keys)) rfl (keys_ok c.keys ac_0 cc_0) hf71 (fun w hw => (rd_base (i := 1) rfl hc_0) w hw) rfl ?_
      refine o_pure (p_assign (v := .int .i64 (Lru.keys c.keys)) rfl) rfl rfl rfl ?_
      refine o_nil ?_
      refine q_then ?_
      refine c_ret ?_
      have hr0 : ((Lru.keys c.keys) : Int) = (Lru.check c) := by
        first | (rw [Lru.check, if_pos (by assumption)]; done) | (rw [Lru.check, if_neg (by simp_all), if_pos (by assumption)]; done) | (rw [Lru.check, if_neg (by simp_all), if_neg (by omega)]; done)
      refine q_end0 (v := .int .i64 (Lru.keys c.keys)) (rt1 rfl (r_tmp rfl)) (i := 1) rfl ?_
      exact (by have hcc := congrArg (fun (y0 : Int) => (.int .i64 y0 : Value)) hr0; exact hcc)

set_option maxHeartbeats 8000000 in
set_option maxRecDepth 100000 in
theorem lowned_ok (c : DCache) (ac_0 : Option Addr) (cc_0 : Nat) (hy1 : c.keys.length ≤ 1000000) : FnX Try.prog 62 [.agg #[.int .i64 c.room, .slice ac_0 c.keys.length cc_0]] [] (fun w => SlR tInt (outer w []).S w ac_0 cc_0 c.keys) (Nat × Option Addr × Nat × (Nat → Prop)) (fun p => .pointer (some ⟨p.1, 0, none⟩)) (fun p => [box p.1 [.int .i64 c.room, .slice p.2.1 c.keys.length p.2.2.1] 98, own tInt p.2.2.2 p.2.1 p.2.2.1 c.keys]) := by
  refine fnX (nt := 11) (F0 := [(0, .agg #[.int .i64 c.room, .slice ac_0 c.keys.length cc_0])]) Try.func62 rfl Try.ntmps62 rfl rfl (fun w0 hpre => ?_)
  have hc_0 := hpre
  have hlhc_0 := hc_0.2.1
  refine c_seq ?_
  refine c_region ?_
  refine o_box (v := .agg #[.int .i64 c.room, .slice ac_0 c.keys.length cc_0]) rfl rfl (fun B1 => ?_)
  refine o_pure (p_assign (v := .pointer none) rfl) rfl rfl rfl ?_
  refine o_nil ?_
  refine q_then ?_
  refine c_seq ?_
  refine c_held hmix [box B1 [.int .i64 c.room, .slice ac_0 c.keys.length cc_0] 54, outer w0 []] rfl rfl ?_
  refine h_take (i := 0) (ls := #[true, false, false, false, false, false, false, false, false]) rfl (by kernel_rfl) (by kernel_rfl) (by kernel_rfl) (fun _ _ _ h => h) (p_fieldAddr (B := B1) (j := 0) (j' := 0) rfl fo54_0 rfl) rfl rfl rfl (fun _ hw => HeapIs.drop hw (List.Sublist.refl _)) rfl ?_
  refine h_take (i := 1) (ls := #[true, true, false, false, false, false, false, false, false]) rfl (by kernel_rfl) (by kernel_rfl) (by kernel_rfl) (fun _ _ _ h => h) (p_load (i := 0) (v := .int .i64 c.room) rfl rfl sh3 rfl) rfl rfl rfl (fun _ hw => HeapIs.drop hw (List.Sublist.refl _)) rfl ?_
  refine h_take (i := 2) (ls := #[true, true, true, false, false, false, false, false, false]) rfl (by kernel_rfl) (by kernel_rfl) (by kernel_rfl) (fun _ _ _ h => h) (p_fieldAddr (B := B1) (j := 0) (j' := 1) rfl fo54_1 rfl) rfl rfl rfl (fun _ hw => HeapIs.drop hw (List.Sublist.refl _)) rfl ?_
  refine h_take (i := 3) (ls := #[true, true, true, true, false, false, false, false, false]) rfl (by kernel_rfl) (by kernel_rfl) (by kernel_rfl) (fun _ _ _ h => h) (p_load (i := 0) (v := .slice ac_0 c.keys.length cc_0) rfl rfl sh30 rfl) rfl rfl rfl (fun _ hw => HeapIs.drop hw (List.Sublist.refl _)) rfl ?_
  refine h_one (i := 4) (ls := #[true, true, true, true, true, false, false, false, false]) (by kernel_rfl) rfl rfl ?_
  refine o_callM rfl (clone_Int_ok c.keys ac_0 cc_0 (by first | assumption | omega | (simp only [List.length_append, List.length_take, List.length_drop, List.length_cons, List.length_nil]; omega))) hf93 (fun w hw => (rd_outer (i := 1) rfl hc_0) w hw) rfl (fun _ _ _ _ ha hA => SlO.agree ha hA) ?_
  rintro ⟨a2_4, c2_4⟩ S2_4
  refine o_know (fun w hw => own_len (i := 0) (T := tInt) hw rfl) (fun hlr2_4 => ?_)
  refine o_nil ?_
  refine h_next (fun _ hw => HeapIs.drop hw (List.Sublist.cons _ (List.Sublist.cons_cons _ (List.Sublist.cons_cons _ (List.Sublist.slnil))))) ?_
  refine h_take (i := 5) (ls := #[true, true, true, true, true, true, false, false, false]) rfl (by kernel_rfl) (by kernel_rfl) (by kernel_rfl) (fun _ _ _ h => h) (p_build (cells := [.int .i64 c.room, .slice a2_4 c.keys.length c2_4]) fp54 ze54 rfl rfl) rfl rfl rfl (fun _ hw => HeapIs.drop hw (List.Sublist.cons _ (List.Sublist.cons_cons _ (List.Sublist.cons_cons _ (List.Sublist.slnil))))) rfl ?_
  refine h_take (i := 6) (ls := #[true, true, true, true, true, true, true, false, false]) rfl (by kernel_rfl) (by kernel_rfl) (by kernel_rfl) (fun _ _ _ h => h) (p_build (cells := [.int .i64 c.room, .slice a2_4 c.keys.length c2_4]) fp98 ze98 rfl rfl) rfl rfl rfl (fun _ hw => HeapIs.drop hw (List.Sublist.cons _ (List.Sublist.cons_cons _ (List.Sublist.cons_cons _ (List.Sublist.slnil))))) rfl ?_
  refine h_one (i := 7) (ls := #[true, true, true, true, true, true, true, true, false]) (by kernel_rfl) rfl rfl ?_
  refine o_box (v := .agg #[.int .i64 c.room, .slice a2_4 c.keys.length c2_4]) rfl rfl (fun B2_7 => ?_)
  refine o_nil ?_
  refine h_next (fun _ hw => HeapIs.drop hw (List.Sublist.cons _ (List.Sublist.cons _ (List.Sublist.cons_cons _ (List.Sublist.cons_cons _ (List.Sublist.slnil)))))) ?_
  refine h_take (i := 8) (ls := #[true, true, true, true, true, true, true, true, true]) rfl (by kernel_rfl) (by kernel_rfl) (by kernel_rfl) (fun _ _ _ h => h) (p_assign (v := .pointer (some ⟨B2_7, 0, none⟩)) rfl) rfl rfl rfl (fun _ hw => HeapIs.drop hw (List.Sublist.cons _ (List.Sublist.cons _ (List.Sublist.cons_cons _ (List.Sublist.cons_cons _ (List.Sublist.slnil)))))) rfl ?_
  refine h_done (by kernel_rfl) ?_
  refine q_then ?_
  refine c_ret ?_
  refine q_endX (p := (B2_7, a2_4, c2_4, S2_4)) (rt1 rfl (r_tmp rfl)) ?_ (fun w hw => ?_)
  · exact rfl
  · have h2 := hw.pick (H' := [outer w0 [], box B2_7 [.int .i64 c.room, .slice a2_4 c.keys.length c2_4] 98, own tInt S2_4 a2_4 c2_4 c.keys]) [3, 0, 1] (by decide) rfl
    exact Eq.mp (congrArg (fun z => HeapIs w0 ((outer w0 []) :: z) w) (rfl)) h2

set_option maxHeartbeats 8000000 in
set_option maxRecDepth 100000 in
theorem ltouch_ok (c : DCache) (Bc : Nat) (ac_0 : Option Addr) (cc_0 : Nat) (Sc_0 : Nat → Prop) (key : Int) (hy1 : Lru.Ok c) : FnX Try.prog 63 [.pointer (some ⟨Bc, 0, none⟩), .int .i64 key] [box Bc [.int .i64 c.room, .slice ac_0 c.keys.length cc_0] 98, own tInt Sc_0 ac_0 cc_0 c.keys] (fun _ => True) (Option Addr × Nat × (Nat → Prop)) (fun p => .tuple #[.bool ((Lru.touch c key).2.1), .int .i64 ((Lru.touch c key).2.2)]) (fun p => [box Bc [.int .i64 (((Lru.touch c key).1).room), .slice p.1 (((Lru.touch c key).1).keys).length p.2.1] 98, own tInt p.2.2 p.1 p.2.1 (((Lru.touch c key).1).keys)]) := by
  refine fnX (nt := 88) (F0 := [(0, .pointer (some ⟨Bc, 0, none⟩)), (1, .int .i64 key)]) Try.func63 rfl Try.ntmps63 rfl rfl (fun w0 hpre => ?_)
  refine c_know (fun w hw => own_len (i := 2) (T := tInt) hw rfl) (fun hlown_c_0 => ?_)
  obtain ⟨hcown_c_0, hlown_c_0⟩ := hlown_c_0
  have hroom := hy1.room
  have hlen := hy1.len
  refine c_seq ?_
  refine c_region ?_
  refine o_pure (p_assign (v := .bool false) rfl) rfl rfl rfl ?_
  refine o_pure (p_assign (v := .int .i64 0) rfl) rfl rfl rfl ?_
  refine o_nil ?_
  refine q_then ?_
  refine c_seq ?_
  refine c_region ?_
  refine o_pure (p_move (v := .pointer (some ⟨Bc, 0, none⟩)) rfl) rfl rfl rfl ?_
  refine o_pure (p_nilCheck rfl) rfl rfl rfl ?_
  refine o_pure (p_fieldAddr (B := Bc) (j := 0) (j' := 0) rfl fo98_0 rfl) rfl rfl rfl ?_
  refine o_pure (p_fieldAddr (B := Bc) (j := 0) (j' := 1) rfl fo54_1 rfl) rfl rfl rfl ?_
  refine o_pure (p_load (i := 1) (v := .slice ac_0 c.keys.length cc_0) rfl rfl sh30 rfl) rfl rfl rfl ?_
  refine o_pure (p_move (v := .int .i64 key) rfl) rfl rfl rfl ?_
  refine o_call0 (v := .int .i64 (idxF (fun x : Int => (x == key)) c.keys)) rfl (index_int_ok c.keys ac_0 cc_0 key) hf88 (fun w hw => (rd_own (i := 2) rfl) w hw) rfl ?_
  refine o_pure (p_assign (v := .int .i64 (idxF (fun x : Int => (x == key)) c.keys)) rfl) rfl rfl rfl ?_
  refine o_nil ?_
  refine q_then ?_
  refine c_seq ?_
  refine c_region ?_
  refine o_pure (p_assign (v := .int .i64 (-1)) rfl) rfl rfl rfl ?_
  refine o_nil ?_
  refine q_then ?_
  refine c_seq ?_
  refine c_block ?_
  refine c_seq ?_
  refine c_region ?_
  refine o_pure (p_move (v := .int .i64 (idxF (fun x : Int => (x == key)) c.keys)) rfl) rfl rfl rfl ?_
  refine o_pure (p_ge (p := (idxF (fun x : Int => (x == key)) c.keys)) (q := 0) rfl rfl) rfl rfl rfl ?_
  refine o_pure (p_assign (v := .bool (decide (0 ≤ (idxF (fun x : Int => (x == key)) c.keys)))) rfl) rfl rfl rfl ?_
  refine o_nil ?_
  refine q_then ?_
  refine c_cond (b := decide (0 ≤ (idxF (fun x : Int => (x == key)) c.keys))) rfl (fun hc1 => ?_) (fun hc1 => ?_)
  · simp only [decide_eq_true_eq] at hc1
    have hix := idxF_lt (fun x : Int => (x == key)) c.keys
    refine c_region ?_
    refine o_pure (p_move (v := .pointer (some ⟨Bc, 0, none⟩)) rfl) rfl rfl rfl ?_
    refine o_pure (p_move (v := .pointer (some ⟨Bc, 0, none⟩)) rfl) rfl rfl rfl ?_
    refine o_pure (p_nilCheck rfl) rfl rfl rfl ?_
    refine o_pure (p_fieldAddr (B := Bc) (j := 0) (j' := 0) rfl fo98_0 rfl) rfl rfl rfl ?_
    refine o_pure (p_fieldAddr (B := Bc) (j := 0) (j' := 1) rfl fo54_1 rfl) rfl rfl rfl ?_
    refine o_pure (p_load (i := 1) (v := .slice ac_0 c.keys.length cc_0) rfl rfl sh30 rfl) rfl rfl rfl ?_
    refine o_pure (p_move (v := .int .i64 (idxF (fun x : Int => (x == key)) c.keys)) rfl) rfl rfl rfl ?_
    refine o_pure (p_move (v := .int .i64 (idxF (fun x : Int => (x == key)) c.keys)) rfl) rfl rfl rfl ?_
    refine o_pure (p_addb (p := (idxF (fun x : Int => (x == key)) c.keys)) (q := 1) rfl rfl (by omega)) rfl rfl rfl ?_
    refine o_pick (H' := [own tInt Sc_0 ac_0 cc_0 c.keys, outer w0 [box Bc [.int .i64 c.room, .slice ac_0 c.keys.length cc_0] 98, own tInt Sc_0 ac_0 cc_0 c.keys], box Bc [.int .i64 c.room, .slice ac_0 c.keys.length cc_0] 98]) [2, 0, 1] (by decide) rfl ?_
    refine o_callX (pre := [own tInt Sc_0 ac_0 cc_0 c.keys]) (R := [outer w0 [box Bc [.int .i64 c.room, .slice ac_0 c.keys.length cc_0] 98, own tInt Sc_0 ac_0 cc_0 c.keys], box Bc [.int .i64 c.room, .slice ac_0 c.keys.length cc_0] 98]) rfl (delete_Int_ok c.keys ac_0 cc_0 Sc_0 (idxF (fun x : Int => (x == key)) c.keys) ((idxF (fun x : Int => (x == key)) c.keys) + 1) (by omega)) hf89 rfl (fun _ _ => trivial) rfl ?_
    rintro ⟨a2, c3, S4⟩
    refine o_asH (H' := [own tInt S4 a2 c3 (c.keys.take (idxF (fun x : Int => (x == key)) c.keys).toNat ++ c.keys.drop ((idxF (fun x : Int => (x == key)) c.keys) + 1).toNat), outer w0 [box Bc [.int .i64 c.room, .slice ac_0 c.keys.length cc_0] 98, own tInt Sc_0 ac_0 cc_0 c.keys], box Bc [.int .i64 c.room, .slice ac_0 c.keys.length cc_0] 98]) rfl ?_
    refine o_pure (p_nilCheck rfl) rfl rfl rfl ?_
    refine o_pure (p_fieldAddr (B := Bc) (j := 0) (j' := 0) rfl fo98_0 rfl) rfl rfl rfl ?_
    refine o_pure (p_fieldAddr (B := Bc) (j := 0) (j' := 1) rfl fo54_1 rfl) rfl rfl rfl ?_
    refine o_store (i := 2) (v := .slice a2 (c.keys.take (idxF (fun x : Int => (x == key)) c.keys).toNat ++ c.keys.drop ((idxF (fun x : Int => (x == key)) c.keys) + 1).toNat).length c3) (cs' := [.int .i64 c.room, .slice a2 (c.keys.take (idxF (fun x : Int => (x == key)) c.keys).toNat ++ c.keys.drop ((idxF (fun x : Int => (x == key)) c.keys) + 1).toNat).length c3]) rfl rfl rfl sz30 rfl rfl rfl ?_
    refine o_nil ?_
    refine q_block_normal (q_then ?_)
    refine c_seq ?_
    refine c_region ?_
    refine o_pure (p_move (v := .pointer (some ⟨Bc, 0, none⟩)) rfl) rfl rfl rfl ?_
    refine o_pure (p_move (v := .pointer (some ⟨Bc, 0, none⟩)) rfl) rfl rfl rfl ?_
    refine o_pure (p_nilCheck rfl) rfl rfl rfl ?_
    refine o_pure (p_fieldAddr (B := Bc) (j := 0) (j' := 0) rfl fo98_0 rfl) rfl rfl rfl ?_
    refine o_pure (p_fieldAddr (B := Bc) (j := 0) (j' := 1) rfl fo54_1 rfl) rfl rfl rfl ?_
    refine o_pure (p_load (i := 2) (v := .slice a2 (c.keys.take (idxF (fun x : Int => (x == key)) c.keys).toNat ++ c.keys.drop ((idxF (fun x : Int => (x == key)) c.keys) + 1).toNat).length c3) rfl rfl sh30 rfl) rfl rfl rfl ?_
    refine o_pure (p_move (v := .int .i64 key) rfl) rfl rfl rfl ?_
    refine o_buildSlice (m := 1) (T := tInt) (L := [key]) (vs := [.int .i64 key]) rfl rfl rfl rfl Try.underlying30 sz3 (by decide) ze3 rfl (by decide) rfl (fun S6 a7 => ?_)
    refine o_pick (H' := [own tInt S4 a2 c3 (c.keys.take (idxF (fun x : Int => (x == key)) c.keys).toNat ++ c.keys.drop ((idxF (fun x : Int => (x == key)) c.keys) + 1).toNat), own tInt S6 a7 ([key].length) ([key]), outer w0 [box Bc [.int .i64 c.room, .slice ac_0 c.keys.length cc_0] 98, own tInt Sc_0 ac_0 cc_0 c.keys], box Bc [.int .i64 c.room, .slice a2 (c.keys.take (idxF (fun x : Int => (x == key)) c.keys).toNat ++ c.keys.drop ((idxF (fun x : Int => (x == key)) c.keys) + 1).toNat).length c3] 98]) [1, 0, 2, 3] (by decide) rfl ?_
    refine o_callX (pre := [own tInt S4 a2 c3 (c.keys.take (idxF (fun x : Int => (x == key)) c.keys).toNat ++ c.keys.drop ((idxF (fun x : Int => (x == key)) c.keys) + 1).toNat), own tInt S6 a7 ([key].length) ([key])]) (R := [outer w0 [box Bc [.int .i64 c.room, .slice ac_0 c.keys.length cc_0] 98, own tInt Sc_0 ac_0 cc_0 c.keys], box Bc [.int .i64 c.room, .slice a2 (c.keys.take (idxF (fun x : Int => (x == key)) c.keys).toNat ++ c.keys.drop ((idxF (fun x : Int => (x == key)) c.keys) + 1).toNat).length c3] 98]) rfl (insert_Int_ok (c.keys.take (idxF (fun x : Int => (x == key)) c.keys).toNat ++ c.keys.drop ((idxF (fun x : Int => (x == key)) c.keys) + 1).toNat) a2 c3 S4 (0 : Int) ([key]) a7 ([key].length) S6 (by (try simp only [List.length_cons, List.length_nil, List.length_append, List.length_take, List.length_drop, and_true]); omega)) hf90 rfl (fun _ _ => trivial) rfl ?_
    rintro ⟨a9, c10, S11⟩
    refine o_asH (H' := [own tInt S11 a9 c10 ((c.keys.take (idxF (fun x : Int => (x == key)) c.keys).toNat ++ c.keys.drop ((idxF (fun x : Int => (x == key)) c.keys) + 1).toNat).take (0 : Int).toNat ++ ([key]) ++ (c.keys.take (idxF (fun x : Int => (x == key)) c.keys).toNat ++ c.keys.drop ((idxF (fun x : Int => (x == key)) c.keys) + 1).toNat).drop (0 : Int).toNat), outer w0 [box Bc [.int .i64 c.room, .slice ac_0 c.keys.length cc_0] 98, own tInt Sc_0 ac_0 cc_0 c.keys], box Bc [.int .i64 c.room, .slice a2 (c.keys.take (idxF (fun x : Int => (x == key)) c.keys).toNat ++ c.keys.drop ((idxF (fun x : Int => (x == key)) c.keys) + 1).toNat).length c3] 98]) rfl ?_
    refine o_pure (p_nilCheck rfl) rfl rfl rfl ?_
    refine o_pure (p_fieldAddr (B := Bc) (j := 0) (j' := 0) rfl fo98_0 rfl) rfl rfl rfl ?_
    refine o_pure (p_fieldAddr (B := Bc) (j := 0) (j' := 1) rfl fo54_1 rfl) rfl rfl rfl ?_
    refine o_store (i := 2) (v := .slice a9 ((c.keys.take (idxF (fun x : Int => (x == key)) c.keys).toNat ++ c.keys.drop ((idxF (fun x : Int => (x == key)) c.keys) + 1).toNat).take (0 : Int).toNat ++ ([key]) ++ (c.keys.take (idxF (fun x : Int => (x == key)) c.keys).toNat ++ c.keys.drop ((idxF (fun x : Int => (x == key)) c.keys) + 1).toNat).drop (0 : Int).toNat).length c10) (cs' := [.int .i64 c.room, .slice a9 ((c.keys.take (idxF (fun x : Int => (x == key)) c.keys).toNat ++ c.keys.drop ((idxF (fun x : Int => (x == key)) c.keys) + 1).toNat).take (0 : Int).toNat ++ ([key]) ++ (c.keys.take (idxF (fun x : Int => (x == key)) c.keys).toNat ++ c.keys.drop ((idxF (fun x : Int => (x == key)) c.keys) + 1).toNat).drop (0 : Int).toNat).length c10]) rfl rfl rfl sz30 rfl rfl rfl ?_
    refine o_nil ?_
    refine q_then ?_
    refine c_seq ?_
    refine c_region ?_
    refine o_pure (p_move (v := .int .i64 (idxF (fun x : Int => (x == key)) c.keys)) rfl) rfl rfl rfl ?_
    refine o_pure (p_ge (p := (idxF (fun x : Int => (x == key)) c.keys)) (q := 0) rfl rfl) rfl rfl rfl ?_
    refine o_pure (p_move (v := .int .i64 (-1)) rfl) rfl rfl rfl ?_
    refine o_pure (p_assign (v := .bool (decide (0 ≤ (idxF (fun x : Int => (x == key)) c.keys)))) rfl) rfl rfl rfl ?_
    refine o_pure (p_assign (v := .int .i64 (-1)) rfl) rfl rfl rfl ?_
    refine o_nil ?_
    refine q_then ?_
    refine c_ret ?_
    first
      | have ht := Lru.touch_hit (c := c) (key := key) hy1 (by assumption)
      | have ht := Lru.touch_full (c := c) (key := key) hy1 (by assumption) (by assumption) (by omega)
      | have ht := Lru.touch_add (c := c) (key := key) hy1 (by assumption) (by assumption)
    have hr0 : (c.room : Int) = ((Lru.touch c key).1).room := by
      first | (rw [ht]; done) | (rw [ht]; rfl) | (rw [ht]; exact (Lru.ins0 _ _).trans (by rw [Lru.nat1 (by omega)])) | (rw [ht]; exact decide_eq_true (by omega)) | (rw [ht]; exact decide_eq_false (by omega))
    have hr1 : (((c.keys.take (idxF (fun x : Int => (x == key)) c.keys).toNat ++ c.keys.drop ((idxF (fun x : Int => (x == key)) c.keys) + 1).toNat).take (0 : Int).toNat ++ ([key]) ++ (c.keys.take (idxF (fun x : Int => (x == key)) c.keys).toNat ++ c.keys.drop ((idxF (fun x : Int => (x == key)) c.keys) + 1).toNat).drop (0 : Int).toNat) : List Int) = ((Lru.touch c key).1).keys := by
      first | (rw [ht]; done) | (rw [ht]; rfl) | (rw [ht]; exact (Lru.ins0 _ _).trans (by rw [Lru.nat1 (by omega)])) | (rw [ht]; exact decide_eq_true (by omega)) | (rw [ht]; exact decide_eq_false (by omega))
    have hr2 : (decide (0 ≤ (idxF (fun x : Int => (x == key)) c.keys)) : Bool) = ((Lru.touch c key).2.1) := by
      first | (rw [ht]; done) | (rw [ht]; rfl) | (rw [ht]; exact (Lru.ins0 _ _).trans (by rw [Lru.nat1 (by omega)])) | (rw [ht]; exact decide_eq_true (by omega)) | (rw [ht]; exact decide_eq_false (by omega))
    have hr3 : ((-1) : Int) = ((Lru.touch c key).2.2) := by
      first | (rw [ht]; done) | (rw [ht]; rfl) | (rw [ht]; exact (Lru.ins0 _ _).trans (by rw [Lru.nat1 (by omega)])) | (rw [ht]; exact decide_eq_true (by omega)) | (rw [ht]; exact decide_eq_false (by omega))
    refine q_endX (p := (a9, c10, S11)) (rt2 rfl (r_tmp rfl) (r_tmp rfl)) ?_ (fun w hw => ?_)
    · exact (by have hcc := congr (congr (congr (congrArg (fun (y0 : Int) (y1 : List Int) (y2 : Bool) (y3 : Int) => (.tuple #[.bool y2, .int .i64 y3] : Value)) hr0) hr1) hr2) hr3; exact hcc)
    · have h2 := hw.pick (H' := [outer w0 [box Bc [.int .i64 c.room, .slice ac_0 c.keys.length cc_0] 98, own tInt Sc_0 ac_0 cc_0 c.keys], box Bc [.int .i64 c.room, .slice a9 ((c.keys.take (idxF (fun x : Int => (x == key)) c.keys).toNat ++ c.keys.drop ((idxF (fun x : Int => (x == key)) c.keys) + 1).toNat).take (0 : Int).toNat ++ ([key]) ++ (c.keys.take (idxF (fun x : Int => (x == key)) c.keys).toNat ++ c.keys.drop ((idxF (fun x : Int => (x == key)) c.keys) + 1).toNat).drop (0 : Int).toNat).length c10] 98, own tInt S11 a9 c10 ((c.keys.take (idxF (fun x : Int => (x == key)) c.keys).toNat ++ c.keys.drop ((idxF (fun x : Int => (x == key)) c.keys) + 1).toNat).take (0 : Int).toNat ++ ([key]) ++ (c.keys.take (idxF (fun x : Int => (x == key)) c.keys).toNat ++ c.keys.drop ((idxF (fun x : Int => (x == key)) c.keys) + 1).toNat).drop (0 : Int).toNat)]) [1, 2, 0] (by decide) rfl
      exact Eq.mp (congrArg (fun z => HeapIs w0 ((outer w0 [box Bc [.int .i64 c.room, .slice ac_0 c.keys.length cc_0] 98, own tInt Sc_0 ac_0 cc_0 c.keys]) :: z) w) ((by have hcc := congr (congr (congr (congrArg (fun (y0 : Int) (y1 : List Int) (y2 : Bool) (y3 : Int) => ([box Bc [.int .i64 y0, .slice a9 y1.length c10] 98, own tInt S11 a9 c10 y1] : List Ent)) hr0) hr1) hr2) hr3; exact hcc))) h2
  · simp only [decide_eq_false_iff_not, Int.not_le] at hc1
    have hix := idxF_lt (fun x : Int => (x == key)) c.keys
    refine c_seq ?_
    refine c_draw hmix (by kernel_rfl) ?_
    refine w_pure (p_move (v := .pointer (some ⟨Bc, 0, none⟩)) rfl) rfl rfl rfl ?_
    refine w_pure (p_nilCheck rfl) rfl rfl rfl ?_
    refine w_pure (p_fieldAddr (B := Bc) (j := 0) (j' := 0) rfl fo98_0 rfl) rfl rfl rfl ?_
    refine w_pure (p_fieldAddr (B := Bc) (j := 0) (j' := 1) rfl fo54_1 rfl) rfl rfl rfl ?_
    refine w_pure (p_load (i := 1) (v := .slice ac_0 c.keys.length cc_0) rfl rfl sh30 rfl) rfl rfl rfl ?_
    refine w_pure (p_len_slice (len := c.keys.length) rfl rfl Try.underlying30) rfl rfl rfl ?_
    refine w_pure (p_move (v := .pointer (some ⟨Bc, 0, none⟩)) rfl) rfl rfl rfl ?_
    refine w_pure (p_nilCheck rfl) rfl rfl rfl ?_
    refine w_pure (p_fieldAddr (B := Bc) (j := 0) (j' := 0) rfl fo98_0 rfl) rfl rfl rfl ?_
    refine w_pure (p_fieldAddr (B := Bc) (j := 0) (j' := 0) rfl fo54_0 rfl) rfl rfl rfl ?_
    refine w_pure (p_load (i := 1) (v := .int .i64 c.room) rfl rfl sh3 rfl) rfl rfl rfl ?_
    refine w_pure (p_eq (p := (c.keys.length : Int)) (q := c.room) rfl rfl) rfl rfl rfl ?_
    refine w_pure (p_assign (v := .bool ((c.keys.length : Int) == c.room)) rfl) rfl rfl rfl ?_
    refine w_nil ?_
    refine q_then ?_
    refine c_cond (b := ((c.keys.length : Int) == c.room)) rfl (fun hc13 => ?_) (fun hc13 => ?_)
    · simp only [beq_iff_eq] at hc13
      refine c_seq ?_
      refine c_draw hmix (by kernel_rfl) ?_
      refine w_pure (p_move (v := .pointer (some ⟨Bc, 0, none⟩)) rfl) rfl rfl rfl ?_
      refine w_pure (p_nilCheck rfl) rfl rfl rfl ?_
      refine w_pure (p_fieldAddr (B := Bc) (j := 0) (j' := 0) rfl fo98_0 rfl) rfl rfl rfl ?_
      refine w_pure (p_fieldAddr (B := Bc) (j := 0) (j' := 1) rfl fo54_1 rfl) rfl rfl rfl ?_
      refine w_pure (p_load (i := 1) (v := .slice ac_0 c.keys.length cc_0) rfl rfl sh30 rfl) rfl rfl rfl ?_
      refine w_pure (p_move (v := .pointer (some ⟨Bc, 0, none⟩)) rfl) rfl rfl rfl ?_
      refine w_pure (p_nilCheck rfl) rfl rfl rfl ?_
      refine w_pure (p_fieldAddr (B := Bc) (j := 0) (j' := 0) rfl fo98_0 rfl) rfl rfl rfl ?_
      refine w_pure (p_fieldAddr (B := Bc) (j := 0) (j' := 0) rfl fo54_0 rfl) rfl rfl rfl ?_
      refine w_pure (p_load (i := 1) (v := .int .i64 c.room) rfl rfl sh3 rfl) rfl rfl rfl ?_
      refine w_pure (p_subb (p := c.room) (q := 1) rfl rfl (by omega)) rfl rfl rfl ?_
      refine w_pure (p_indexAddr (L := c.keys) (T := tInt) (i := (c.room - 1)) rfl rfl (rd_own (i := 2) rfl) Try.underlying30 sz3 (by omega) (by omega)) rfl rfl rfl ?_
      refine w_pure (p_loadE1 (i := (c.room - 1).toNat) (T := tInt) (L := c.keys) (v := .int .i64 (c.keys[(c.room - 1).toNat])) rfl (rd_own (i := 2) rfl) (by first | assumption | omega) sh3 rfl) rfl rfl rfl ?_
      refine w_pure (p_assign (v := .int .i64 (c.keys[(c.room - 1).toNat])) rfl) rfl rfl rfl ?_
      refine w_nil ?_
      refine q_then ?_
      refine c_cut (G := Unit) (fun _ => [(0, .pointer (some ⟨Bc, 0, none⟩)), (1, .int .i64 key), (6, .int .i64 (idxF (fun x : Int => (x == key)) c.keys)), (7, .int .i64 (c.keys[(c.room - 1).toNat]))]) (fun _ => [outer w0 [box Bc [.int .i64 c.room, .slice ac_0 c.keys.length cc_0] 98, own tInt Sc_0 ac_0 cc_0 c.keys], box Bc [.int .i64 c.room, .slice ac_0 (c.keys.take ((c.room - 1).toNat)).length cc_0] 98, own tInt Sc_0 ac_0 cc_0 (c.keys.take ((c.room - 1).toNat))]) (fun K hK15 => ?_) ?_
      · refine c_held hmix [outer w0 [box Bc [.int .i64 c.room, .slice ac_0 c.keys.length cc_0] 98, own tInt Sc_0 ac_0 cc_0 c.keys]] rfl rfl ?_
        refine h_take (i := 0) (ls := #[true, false, false, false, false, false, false, false, false, false, false, false, false, false, false, false, false]) rfl (by kernel_rfl) (by kernel_rfl) (by kernel_rfl) (fun _ _ _ h => h) (p_move (v := .pointer (some ⟨Bc, 0, none⟩)) rfl) rfl rfl rfl (fun _ hw => HeapIs.drop hw (List.Sublist.cons_cons _ (List.Sublist.cons _ (List.Sublist.cons _ (List.Sublist.slnil))))) rfl ?_
        refine h_take (i := 1) (ls := #[true, true, false, false, false, false, false, false, false, false, false, false, false, false, false, false, false]) rfl (by kernel_rfl) (by kernel_rfl) (by kernel_rfl) (fun _ _ _ h => h) (p_move (v := .pointer (some ⟨Bc, 0, none⟩)) rfl) rfl rfl rfl (fun _ hw => HeapIs.drop hw (List.Sublist.cons_cons _ (List.Sublist.cons _ (List.Sublist.cons _ (List.Sublist.slnil))))) rfl ?_
        refine h_take (i := 2) (ls := #[true, true, true, false, false, false, false, false, false, false, false, false, false, false, false, false, false]) rfl (by kernel_rfl) (by kernel_rfl) (by kernel_rfl) (fun _ _ _ h => h) (p_nilCheck rfl) rfl rfl rfl (fun _ hw => HeapIs.drop hw (List.Sublist.cons_cons _ (List.Sublist.cons _ (List.Sublist.cons _ (List.Sublist.slnil))))) rfl ?_
        refine h_take (i := 3) (ls := #[true, true, true, true, false, false, false, false, false, false, false, false, false, false, false, false, false]) rfl (by kernel_rfl) (by kernel_rfl) (by kernel_rfl) (fun _ _ _ h => h) (p_fieldAddr (B := Bc) (j := 0) (j' := 0) rfl fo98_0 rfl) rfl rfl rfl (fun _ hw => HeapIs.drop hw (List.Sublist.cons_cons _ (List.Sublist.cons _ (List.Sublist.cons _ (List.Sublist.slnil))))) rfl ?_
        refine h_take (i := 4) (ls := #[true, true, true, true, true, false, false, false, false, false, false, false, false, false, false, false, false]) rfl (by kernel_rfl) (by kernel_rfl) (by kernel_rfl) (fun _ _ _ h => h) (p_fieldAddr (B := Bc) (j := 0) (j' := 1) rfl fo54_1 rfl) rfl rfl rfl (fun _ hw => HeapIs.drop hw (List.Sublist.cons_cons _ (List.Sublist.cons _ (List.Sublist.cons _ (List.Sublist.slnil))))) rfl ?_
        refine h_take (i := 6) (ls := #[true, true, true, true, true, false, true, false, false, false, false, false, false, false, false, false, false]) rfl (by kernel_rfl) (by kernel_rfl) (by kernel_rfl) (fun _ _ _ h => h) (p_move (v := .pointer (some ⟨Bc, 0, none⟩)) rfl) rfl rfl rfl (fun _ hw => HeapIs.drop hw (List.Sublist.cons_cons _ (List.Sublist.cons _ (List.Sublist.cons _ (List.Sublist.slnil))))) rfl ?_
        refine h_take (i := 7) (ls := #[true, true, true, true, true, false, true, true, false, false, false, false, false, false, false, false, false]) rfl (by kernel_rfl) (by kernel_rfl) (by kernel_rfl) (fun _ _ _ h => h) (p_nilCheck rfl) rfl rfl rfl (fun _ hw => HeapIs.drop hw (List.Sublist.cons_cons _ (List.Sublist.cons _ (List.Sublist.cons _ (List.Sublist.slnil))))) rfl ?_
        refine h_take (i := 8) (ls := #[true, true, true, true, true, false, true, true, true, false, false, false, false, false, false, false, false]) rfl (by kernel_rfl) (by kernel_rfl) (by kernel_rfl) (fun _ _ _ h => h) (p_fieldAddr (B := Bc) (j := 0) (j' := 0) rfl fo98_0 rfl) rfl rfl rfl (fun _ hw => HeapIs.drop hw (List.Sublist.cons_cons _ (List.Sublist.cons _ (List.Sublist.cons _ (List.Sublist.slnil))))) rfl ?_
        refine h_take (i := 9) (ls := #[true, true, true, true, true, false, true, true, true, true, false, false, false, false, false, false, false]) rfl (by kernel_rfl) (by kernel_rfl) (by kernel_rfl) (fun _ _ _ h => h) (p_fieldAddr (B := Bc) (j := 0) (j' := 0) rfl fo54_0 rfl) rfl rfl rfl (fun _ hw => HeapIs.drop hw (List.Sublist.cons_cons _ (List.Sublist.cons _ (List.Sublist.cons _ (List.Sublist.slnil))))) rfl ?_
        refine h_two (i := 5) (j := 10) (ls := #[true, true, true, true, true, true, true, true, true, true, false, false, false, false, false, false, false]) (ls' := #[true, true, true, true, true, false, true, true, true, true, true, false, false, false, false, false, false]) (by kernel_rfl) rfl rfl rfl rfl ?_ ?_
        · refine o_pure (p_load (i := 1) (v := .slice ac_0 c.keys.length cc_0) rfl rfl sh30 rfl) rfl rfl rfl ?_
          refine o_nil ?_
          refine h_next (fun _ hw => HeapIs.drop hw (List.Sublist.cons_cons _ (List.Sublist.cons _ (List.Sublist.cons _ (List.Sublist.slnil))))) ?_
          refine h_one (i := 10) (ls := #[true, true, true, true, true, true, true, true, true, true, true, false, false, false, false, false, false]) (by kernel_rfl) rfl rfl ?_
          refine o_pure (p_load (i := 1) (v := .int .i64 c.room) rfl rfl sh3 rfl) rfl rfl rfl ?_
          refine o_nil ?_
          refine h_next (fun _ hw => HeapIs.drop hw (List.Sublist.cons_cons _ (List.Sublist.cons _ (List.Sublist.cons _ (List.Sublist.slnil))))) ?_
          refine h_take (i := 11) (ls := #[true, true, true, true, true, true, true, true, true, true, true, true, false, false, false, false, false]) rfl (by kernel_rfl) (by kernel_rfl) (by kernel_rfl) (fun _ _ _ h => h) (p_subb (p := c.room) (q := 1) rfl rfl (by omega)) rfl rfl rfl (fun _ hw => HeapIs.drop hw (List.Sublist.cons_cons _ (List.Sublist.cons _ (List.Sublist.cons _ (List.Sublist.slnil))))) rfl ?_
          refine h_one (i := 12) (ls := #[true, true, true, true, true, true, true, true, true, true, true, true, true, false, false, false, false]) (by kernel_rfl) rfl rfl ?_
          refine o_pure (p_sliceH (L := c.keys) (T := tInt) (h := (c.room - 1)) rfl rfl Try.underlying30 sz3 (by omega) (by omega) (rd_own (i := 2) rfl)) rfl rfl rfl ?_
          refine o_nil ?_
          refine h_next (fun _ hw => HeapIs.drop hw (List.Sublist.cons_cons _ (List.Sublist.cons _ (List.Sublist.cons _ (List.Sublist.slnil))))) ?_
          refine h_take (i := 13) (ls := #[true, true, true, true, true, true, true, true, true, true, true, true, true, true, false, false, false]) rfl (by kernel_rfl) (by kernel_rfl) (by kernel_rfl) (fun _ _ _ h => h) (p_nilCheck rfl) rfl rfl rfl (fun _ hw => HeapIs.drop hw (List.Sublist.cons_cons _ (List.Sublist.cons _ (List.Sublist.cons _ (List.Sublist.slnil))))) rfl ?_
          refine h_take (i := 14) (ls := #[true, true, true, true, true, true, true, true, true, true, true, true, true, true, true, false, false]) rfl (by kernel_rfl) (by kernel_rfl) (by kernel_rfl) (fun _ _ _ h => h) (p_fieldAddr (B := Bc) (j := 0) (j' := 0) rfl fo98_0 rfl) rfl rfl rfl (fun _ hw => HeapIs.drop hw (List.Sublist.cons_cons _ (List.Sublist.cons _ (List.Sublist.cons _ (List.Sublist.slnil))))) rfl ?_
          refine h_take (i := 15) (ls := #[true, true, true, true, true, true, true, true, true, true, true, true, true, true, true, true, false]) rfl (by kernel_rfl) (by kernel_rfl) (by kernel_rfl) (fun _ _ _ h => h) (p_fieldAddr (B := Bc) (j := 0) (j' := 1) rfl fo54_1 rfl) rfl rfl rfl (fun _ hw => HeapIs.drop hw (List.Sublist.cons_cons _ (List.Sublist.cons _ (List.Sublist.cons _ (List.Sublist.slnil))))) rfl ?_
          refine h_one (i := 16) (ls := #[true, true, true, true, true, true, true, true, true, true, true, true, true, true, true, true, true]) (by kernel_rfl) rfl rfl ?_
          refine o_shrinkC (i := 2) (hi := (c.room - 1).toNat) (T := tInt) rfl (by omega) ?_
          refine o_store (i := 1) (v := .slice ac_0 (c.keys.take ((c.room - 1).toNat)).length cc_0) (cs' := [.int .i64 c.room, .slice ac_0 (c.keys.take ((c.room - 1).toNat)).length cc_0]) rfl rfl rfl sz30 rfl rfl rfl ?_
          refine o_nil ?_
          refine h_next (fun _ hw => HeapIs.drop hw (List.Sublist.cons_cons _ (List.Sublist.cons _ (List.Sublist.cons _ (List.Sublist.slnil))))) ?_
          refine h_done (by kernel_rfl) ?_
          refine q_kont hK15 () (Sub.cons rfl (Sub.cons rfl (Sub.cons rfl (Sub.cons rfl (Sub.nil _))))) (fun _ hw => HeapIs.pick hw [0, 1, 2] (by decide) rfl)
        · refine o_pure (p_load (i := 1) (v := .int .i64 c.room) rfl rfl sh3 rfl) rfl rfl rfl ?_
          refine o_nil ?_
          refine h_next (fun _ hw => HeapIs.drop hw (List.Sublist.cons_cons _ (List.Sublist.cons _ (List.Sublist.cons _ (List.Sublist.slnil))))) ?_
          refine h_take (i := 11) (ls := #[true, true, true, true, true, false, true, true, true, true, true, true, false, false, false, false, false]) rfl (by kernel_rfl) (by kernel_rfl) (by kernel_rfl) (fun _ _ _ h => h) (p_subb (p := c.room) (q := 1) rfl rfl (by omega)) rfl rfl rfl (fun _ hw => HeapIs.drop hw (List.Sublist.cons_cons _ (List.Sublist.cons _ (List.Sublist.cons _ (List.Sublist.slnil))))) rfl ?_
          refine h_one (i := 5) (ls := #[true, true, true, true, true, true, true, true, true, true, true, true, false, false, false, false, false]) (by kernel_rfl) rfl rfl ?_
          refine o_pure (p_load (i := 1) (v := .slice ac_0 c.keys.length cc_0) rfl rfl sh30 rfl) rfl rfl rfl ?_
          refine o_nil ?_
          refine h_next (fun _ hw => HeapIs.drop hw (List.Sublist.cons_cons _ (List.Sublist.cons _ (List.Sublist.cons _ (List.Sublist.slnil))))) ?_
          refine h_one (i := 12) (ls := #[true, true, true, true, true, true, true, true, true, true, true, true, true, false, false, false, false]) (by kernel_rfl) rfl rfl ?_
          refine o_pure (p_sliceH (L := c.keys) (T := tInt) (h := (c.room - 1)) rfl rfl Try.underlying30 sz3 (by omega) (by omega) (rd_own (i := 2) rfl)) rfl rfl rfl ?_
          refine o_nil ?_
          refine h_next (fun _ hw => HeapIs.drop hw (List.Sublist.cons_cons _ (List.Sublist.cons _ (List.Sublist.cons _ (List.Sublist.slnil))))) ?_
          refine h_take (i := 13) (ls := #[true, true, true, true, true, true, true, true, true, true, true, true, true, true, false, false, false]) rfl (by kernel_rfl) (by kernel_rfl) (by kernel_rfl) (fun _ _ _ h => h) (p_nilCheck rfl) rfl rfl rfl (fun _ hw => HeapIs.drop hw (List.Sublist.cons_cons _ (List.Sublist.cons _ (List.Sublist.cons _ (List.Sublist.slnil))))) rfl ?_
          refine h_take (i := 14) (ls := #[true, true, true, true, true, true, true, true, true, true, true, true, true, true, true, false, false]) rfl (by kernel_rfl) (by kernel_rfl) (by kernel_rfl) (fun _ _ _ h => h) (p_fieldAddr (B := Bc) (j := 0) (j' := 0) rfl fo98_0 rfl) rfl rfl rfl (fun _ hw => HeapIs.drop hw (List.Sublist.cons_cons _ (List.Sublist.cons _ (List.Sublist.cons _ (List.Sublist.slnil))))) rfl ?_
          refine h_take (i := 15) (ls := #[true, true, true, true, true, true, true, true, true, true, true, true, true, true, true, true, false]) rfl (by kernel_rfl) (by kernel_rfl) (by kernel_rfl) (fun _ _ _ h => h) (p_fieldAddr (B := Bc) (j := 0) (j' := 1) rfl fo54_1 rfl) rfl rfl rfl (fun _ hw => HeapIs.drop hw (List.Sublist.cons_cons _ (List.Sublist.cons _ (List.Sublist.cons _ (List.Sublist.slnil))))) rfl ?_
          refine h_one (i := 16) (ls := #[true, true, true, true, true, true, true, true, true, true, true, true, true, true, true, true, true]) (by kernel_rfl) rfl rfl ?_
          refine o_shrinkC (i := 2) (hi := (c.room - 1).toNat) (T := tInt) rfl (by omega) ?_
          refine o_store (i := 1) (v := .slice ac_0 (c.keys.take ((c.room - 1).toNat)).length cc_0) (cs' := [.int .i64 c.room, .slice ac_0 (c.keys.take ((c.room - 1).toNat)).length cc_0]) rfl rfl rfl sz30 rfl rfl rfl ?_
          refine o_nil ?_
          refine h_next (fun _ hw => HeapIs.drop hw (List.Sublist.cons_cons _ (List.Sublist.cons _ (List.Sublist.cons _ (List.Sublist.slnil))))) ?_
          refine h_done (by kernel_rfl) ?_
          refine q_kont hK15 () (Sub.cons rfl (Sub.cons rfl (Sub.cons rfl (Sub.cons rfl (Sub.nil _))))) (fun _ hw => HeapIs.pick hw [0, 1, 2] (by decide) rfl)
      rintro _
      show SQ _ 88 w0 _ _ [(0, .pointer (some ⟨Bc, 0, none⟩)), (1, .int .i64 key), (6, .int .i64 (idxF (fun x : Int => (x == key)) c.keys)), (7, .int .i64 (c.keys[(c.room - 1).toNat]))] [outer w0 [box Bc [.int .i64 c.room, .slice ac_0 c.keys.length cc_0] 98, own tInt Sc_0 ac_0 cc_0 c.keys], box Bc [.int .i64 c.room, .slice ac_0 (c.keys.take ((c.room - 1).toNat)).length cc_0] 98, own tInt Sc_0 ac_0 cc_0 (c.keys.take ((c.room - 1).toNat))]
      refine q_cast (F' := [(0, .pointer (some ⟨Bc, 0, none⟩)), (1, .int .i64 key), (6, .int .i64 (idxF (fun x : Int => (x == key)) c.keys)), (7, .int .i64 (c.keys[(c.room - 1).toNat]))]) (H := [outer w0 [box Bc [.int .i64 c.room, .slice ac_0 c.keys.length cc_0] 98, own tInt Sc_0 ac_0 cc_0 c.keys], box Bc [.int .i64 c.room, .slice ac_0 (c.keys.take ((c.room - 1).toNat)).length cc_0] 98, own tInt Sc_0 ac_0 cc_0 (c.keys.take ((c.room - 1).toNat))]) (H' := [outer w0 [box Bc [.int .i64 c.room, .slice ac_0 c.keys.length cc_0] 98, own tInt Sc_0 ac_0 cc_0 c.keys], box Bc [.int .i64 c.room, .slice ac_0 (c.keys.take ((c.room - 1).toNat)).length cc_0] 98, own tInt Sc_0 ac_0 cc_0 (c.keys.take ((c.room - 1).toNat))]) (Sub.cons rfl (Sub.cons rfl (Sub.cons rfl (Sub.cons rfl (Sub.nil _))))) (by rfl) ?_
      refine q_block_normal (q_then ?_)
      refine c_seq ?_
      refine c_region ?_
      refine o_pure (p_move (v := .pointer (some ⟨Bc, 0, none⟩)) rfl) rfl rfl rfl ?_
      refine o_pure (p_move (v := .pointer (some ⟨Bc, 0, none⟩)) rfl) rfl rfl rfl ?_
      refine o_pure (p_nilCheck rfl) rfl rfl rfl ?_
      refine o_pure (p_fieldAddr (B := Bc) (j := 0) (j' := 0) rfl fo98_0 rfl) rfl rfl rfl ?_
      refine o_pure (p_fieldAddr (B := Bc) (j := 0) (j' := 1) rfl fo54_1 rfl) rfl rfl rfl ?_
      refine o_pure (p_load (i := 1) (v := .slice ac_0 (c.keys.take ((c.room - 1).toNat)).length cc_0) rfl rfl sh30 rfl) rfl rfl rfl ?_
      refine o_pure (p_move (v := .int .i64 key) rfl) rfl rfl rfl ?_
      refine o_buildSlice (m := 1) (T := tInt) (L := [key]) (vs := [.int .i64 key]) rfl rfl rfl rfl Try.underlying30 sz3 (by decide) ze3 rfl (by decide) rfl (fun S16 a17 => ?_)
      refine o_pick (H' := [own tInt Sc_0 ac_0 cc_0 (c.keys.take ((c.room - 1).toNat)), own tInt S16 a17 ([key].length) ([key]), outer w0 [box Bc [.int .i64 c.room, .slice ac_0 c.keys.length cc_0] 98, own tInt Sc_0 ac_0 cc_0 c.keys], box Bc [.int .i64 c.room, .slice ac_0 (c.keys.take ((c.room - 1).toNat)).length cc_0] 98]) [3, 0, 1, 2] (by decide) rfl ?_
      refine o_callX (pre := [own tInt Sc_0 ac_0 cc_0 (c.keys.take ((c.room - 1).toNat)), own tInt S16 a17 ([key].length) ([key])]) (R := [outer w0 [box Bc [.int .i64 c.room, .slice ac_0 c.keys.length cc_0] 98, own tInt Sc_0 ac_0 cc_0 c.keys], box Bc [.int .i64 c.room, .slice ac_0 (c.keys.take ((c.room - 1).toNat)).length cc_0] 98]) rfl (insert_Int_ok (c.keys.take ((c.room - 1).toNat)) ac_0 cc_0 Sc_0 (0 : Int) ([key]) a17 ([key].length) S16 (by (try simp only [List.length_cons, List.length_nil, List.length_append, List.length_take, List.length_drop, and_true]); omega)) hf90 rfl (fun _ _ => trivial) rfl ?_
      rintro ⟨a19, c20, S21⟩
      refine o_asH (H' := [own tInt S21 a19 c20 ((c.keys.take ((c.room - 1).toNat)).take (0 : Int).toNat ++ ([key]) ++ (c.keys.take ((c.room - 1).toNat)).drop (0 : Int).toNat), outer w0 [box Bc [.int .i64 c.room, .slice ac_0 c.keys.length cc_0] 98, own tInt Sc_0 ac_0 cc_0 c.keys], box Bc [.int .i64 c.room, .slice ac_0 (c.keys.take ((c.room - 1).toNat)).length cc_0] 98]) rfl ?_
      refine o_pure (p_nilCheck rfl) rfl rfl rfl ?_
      refine o_pure (p_fieldAddr (B := Bc) (j := 0) (j' := 0) rfl fo98_0 rfl) rfl rfl rfl ?_
      refine o_pure (p_fieldAddr (B := Bc) (j := 0) (j' := 1) rfl fo54_1 rfl) rfl rfl rfl ?_
      refine o_store (i := 2) (v := .slice a19 ((c.keys.take ((c.room - 1).toNat)).take (0 : Int).toNat ++ ([key]) ++ (c.keys.take ((c.room - 1).toNat)).drop (0 : Int).toNat).length c20) (cs' := [.int .i64 c.room, .slice a19 ((c.keys.take ((c.room - 1).toNat)).take (0 : Int).toNat ++ ([key]) ++ (c.keys.take ((c.room - 1).toNat)).drop (0 : Int).toNat).length c20]) rfl rfl rfl sz30 rfl rfl rfl ?_
      refine o_nil ?_
      refine q_then ?_
      refine c_seq ?_
      refine c_region ?_
      refine o_pure (p_move (v := .int .i64 (idxF (fun x : Int => (x == key)) c.keys)) rfl) rfl rfl rfl ?_
      refine o_pure (p_ge (p := (idxF (fun x : Int => (x == key)) c.keys)) (q := 0) rfl rfl) rfl rfl rfl ?_
      refine o_pure (p_move (v := .int .i64 (c.keys[(c.room - 1).toNat])) rfl) rfl rfl rfl ?_
      refine o_pure (p_assign (v := .bool (decide (0 ≤ (idxF (fun x : Int => (x == key)) c.keys)))) rfl) rfl rfl rfl ?_
      refine o_pure (p_assign (v := .int .i64 (c.keys[(c.room - 1).toNat])) rfl) rfl rfl rfl ?_
      refine o_nil ?_
      refine q_then ?_
      refine c_ret ?_
      first
        | have ht := Lru.touch_hit (c := c) (key := key) hy1 (by assumption)
        | have ht := Lru.touch_full (c := c) (key := key) hy1 (by assumption) (by assumption) (by omega)
        | have ht := Lru.touch_add (c := c) (key := key) hy1 (by assumption) (by assumption)
      have hr0 : (c.room : Int) = ((Lru.touch c key).1).room := by
        first | (rw [ht]; done) | (rw [ht]; rfl) | (rw [ht]; exact (Lru.ins0 _ _).trans (by rw [Lru.nat1 (by omega)])) | (rw [ht]; exact decide_eq_true (by omega)) | (rw [ht]; exact decide_eq_false (by omega))
      have hr1 : (((c.keys.take ((c.room - 1).toNat)).take (0 : Int).toNat ++ ([key]) ++ (c.keys.take ((c.room - 1).toNat)).drop (0 : Int).toNat) : List Int) = ((Lru.touch c key).1).keys := by
        first | (rw [ht]; done) | (rw [ht]; rfl) | (rw [ht]; exact (Lru.ins0 _ _).trans (by rw [Lru.nat1 (by omega)])) | (rw [ht]; exact decide_eq_true (by omega)) | (rw [ht]; exact decide_eq_false (by omega))
      have hr2 : (decide (0 ≤ (idxF (fun x : Int => (x == key)) c.keys)) : Bool) = ((Lru.touch c key).2.1) := by
        first | (rw [ht]; done) | (rw [ht]; rfl) | (rw [ht]; exact (Lru.ins0 _ _).trans (by rw [Lru.nat1 (by omega)])) | (rw [ht]; exact decide_eq_true (by omega)) | (rw [ht]; exact decide_eq_false (by omega))
      have hr3 : (c.keys[(c.room - 1).toNat] : Int) = ((Lru.touch c key).2.2) := by
        first | (rw [ht]; done) | (rw [ht]; rfl) | (rw [ht]; exact (Lru.ins0 _ _).trans (by rw [Lru.nat1 (by omega)])) | (rw [ht]; exact decide_eq_true (by omega)) | (rw [ht]; exact decide_eq_false (by omega))
      refine q_endX (p := (a19, c20, S21)) (rt2 rfl (r_tmp rfl) (r_tmp rfl)) ?_ (fun w hw => ?_)
      · exact (by have hcc := congr (congr (congr (congrArg (fun (y0 : Int) (y1 : List Int) (y2 : Bool) (y3 : Int) => (.tuple #[.bool y2, .int .i64 y3] : Value)) hr0) hr1) hr2) hr3; exact hcc)
      · have h2 := hw.pick (H' := [outer w0 [box Bc [.int .i64 c.room, .slice ac_0 c.keys.length cc_0] 98, own tInt Sc_0 ac_0 cc_0 c.keys], box Bc [.int .i64 c.room, .slice a19 ((c.keys.take ((c.room - 1).toNat)).take (0 : Int).toNat ++ ([key]) ++ (c.keys.take ((c.room - 1).toNat)).drop (0 : Int).toNat).length c20] 98, own tInt S21 a19 c20 ((c.keys.take ((c.room - 1).toNat)).take (0 : Int).toNat ++ ([key]) ++ (c.keys.take ((c.room - 1).toNat)).drop (0 : Int).toNat)]) [1, 2, 0] (by decide) rfl
        exact Eq.mp (congrArg (fun z => HeapIs w0 ((outer w0 [box Bc [.int .i64 c.room, .slice ac_0 c.keys.length cc_0] 98, own tInt Sc_0 ac_0 cc_0 c.keys]) :: z) w) ((by have hcc := congr (congr (congr (congrArg (fun (y0 : Int) (y1 : List Int) (y2 : Bool) (y3 : Int) => ([box Bc [.int .i64 y0, .slice a19 y1.length c20] 98, own tInt S21 a19 c20 y1] : List Ent)) hr0) hr1) hr2) hr3; exact hcc))) h2
    · simp only [beq_eq_false_iff_ne, ne_eq] at hc13
      refine c_skip ?_
      refine q_block_normal (q_then ?_)
      refine c_seq ?_
      refine c_region ?_
      refine o_pure (p_move (v := .pointer (some ⟨Bc, 0, none⟩)) rfl) rfl rfl rfl ?_
      refine o_pure (p_move (v := .pointer (some ⟨Bc, 0, none⟩)) rfl) rfl rfl rfl ?_
      refine o_pure (p_nilCheck rfl) rfl rfl rfl ?_
      refine o_pure (p_fieldAddr (B := Bc) (j := 0) (j' := 0) rfl fo98_0 rfl) rfl rfl rfl ?_
      refine o_pure (p_fieldAddr (B := Bc) (j := 0) (j' := 1) rfl fo54_1 rfl) rfl rfl rfl ?_
      refine o_pure (p_load (i := 1) (v := .slice ac_0 c.keys.length cc_0) rfl rfl sh30 rfl) rfl rfl rfl ?_
      refine o_pure (p_move (v := .int .i64 key) rfl) rfl rfl rfl ?_
      refine o_buildSlice (m := 1) (T := tInt) (L := [key]) (vs := [.int .i64 key]) rfl rfl rfl rfl Try.underlying30 sz3 (by decide) ze3 rfl (by decide) rfl (fun S23 a24 => ?_)
      refine o_pick (H' := [own tInt Sc_0 ac_0 cc_0 c.keys, own tInt S23 a24 ([key].length) ([key]), outer w0 [box Bc [.int .i64 c.room, .slice ac_0 c.keys.length cc_0] 98, own tInt Sc_0 ac_0 cc_0 c.keys], box Bc [.int .i64 c.room, .slice ac_0 c.keys.length cc_0] 98]) [3, 0, 1, 2] (by decide) rfl ?_
      refine o_callX (pre := [own tInt Sc_0 ac_0 cc_0 c.keys, own tInt S23 a24 ([key].length) ([key])]) (R := [outer w0 [box Bc [.int .i64 c.room, .slice ac_0 c.keys.length cc_0] 98, own tInt Sc_0 ac_0 cc_0 c.keys], box Bc [.int .i64 c.room, .slice ac_0 c.keys.length cc_0] 98]) rfl (insert_Int_ok c.keys ac_0 cc_0 Sc_0 (0 : Int) ([key]) a24 ([key].length) S23 (by (try simp only [List.length_cons, List.length_nil, List.length_append, List.length_take, List.length_drop, and_true]); omega)) hf90 rfl (fun _ _ => trivial) rfl ?_
      rintro ⟨a26, c27, S28⟩
      refine o_asH (H' := [own tInt S28 a26 c27 (c.keys.take (0 : Int).toNat ++ ([key]) ++ c.keys.drop (0 : Int).toNat), outer w0 [box Bc [.int .i64 c.room, .slice ac_0 c.keys.length cc_0] 98, own tInt Sc_0 ac_0 cc_0 c.keys], box Bc [.int .i64 c.room, .slice ac_0 c.keys.length cc_0] 98]) rfl ?_
      refine o_pure (p_nilCheck rfl) rfl rfl rfl ?_
      refine o_pure (p_fieldAddr (B := Bc) (j := 0) (j' := 0) rfl fo98_0 rfl) rfl rfl rfl ?_
      refine o_pure (p_fieldAddr (B := Bc) (j := 0) (j' := 1) rfl fo54_1 rfl) rfl rfl rfl ?_
      refine o_store (i := 2) (v := .slice a26 (c.keys.take (0 : Int).toNat ++ ([key]) ++ c.keys.drop (0 : Int).toNat).length c27) (cs' := [.int .i64 c.room, .slice a26 (c.keys.take (0 : Int).toNat ++ ([key]) ++ c.keys.drop (0 : Int).toNat).length c27]) rfl rfl rfl sz30 rfl rfl rfl ?_
      refine o_nil ?_
      refine q_then ?_
      refine c_seq ?_
      refine c_region ?_
      refine o_pure (p_move (v := .int .i64 (idxF (fun x : Int => (x == key)) c.keys)) rfl) rfl rfl rfl ?_
      refine o_pure (p_ge (p := (idxF (fun x : Int => (x == key)) c.keys)) (q := 0) rfl rfl) rfl rfl rfl ?_
      refine o_pure (p_move (v := .int .i64 (-1)) rfl) rfl rfl rfl ?_
      refine o_pure (p_assign (v := .bool (decide (0 ≤ (idxF (fun x : Int => (x == key)) c.keys)))) rfl) rfl rfl rfl ?_
      refine o_pure (p_assign (v := .int .i64 (-1)) rfl) rfl rfl rfl ?_
      refine o_nil ?_
      refine q_then ?_
      refine c_ret ?_
      first
        | have ht := Lru.touch_hit (c := c) (key := key) hy1 (by assumption)
        | have ht := Lru.touch_full (c := c) (key := key) hy1 (by assumption) (by assumption) (by omega)
        | have ht := Lru.touch_add (c := c) (key := key) hy1 (by assumption) (by assumption)
      have hr0 : (c.room : Int) = ((Lru.touch c key).1).room := by
        first | (rw [ht]; done) | (rw [ht]; rfl) | (rw [ht]; exact (Lru.ins0 _ _).trans (by rw [Lru.nat1 (by omega)])) | (rw [ht]; exact decide_eq_true (by omega)) | (rw [ht]; exact decide_eq_false (by omega))
      have hr1 : ((c.keys.take (0 : Int).toNat ++ ([key]) ++ c.keys.drop (0 : Int).toNat) : List Int) = ((Lru.touch c key).1).keys := by
        first | (rw [ht]; done) | (rw [ht]; rfl) | (rw [ht]; exact (Lru.ins0 _ _).trans (by rw [Lru.nat1 (by omega)])) | (rw [ht]; exact decide_eq_true (by omega)) | (rw [ht]; exact decide_eq_false (by omega))
      have hr2 : (decide (0 ≤ (idxF (fun x : Int => (x == key)) c.keys)) : Bool) = ((Lru.touch c key).2.1) := by
        first | (rw [ht]; done) | (rw [ht]; rfl) | (rw [ht]; exact (Lru.ins0 _ _).trans (by rw [Lru.nat1 (by omega)])) | (rw [ht]; exact decide_eq_true (by omega)) | (rw [ht]; exact decide_eq_false (by omega))
      have hr3 : ((-1) : Int) = ((Lru.touch c key).2.2) := by
        first | (rw [ht]; done) | (rw [ht]; rfl) | (rw [ht]; exact (Lru.ins0 _ _).trans (by rw [Lru.nat1 (by omega)])) | (rw [ht]; exact decide_eq_true (by omega)) | (rw [ht]; exact decide_eq_false (by omega))
      refine q_endX (p := (a26, c27, S28)) (rt2 rfl (r_tmp rfl) (r_tmp rfl)) ?_ (fun w hw => ?_)
      · exact (by have hcc := congr (congr (congr (congrArg (fun (y0 : Int) (y1 : List Int) (y2 : Bool) (y3 : Int) => (.tuple #[.bool y2, .int .i64 y3] : Value)) hr0) hr1) hr2) hr3; exact hcc)
      · have h2 := hw.pick (H' := [outer w0 [box Bc [.int .i64 c.room, .slice ac_0 c.keys.length cc_0] 98, own tInt Sc_0 ac_0 cc_0 c.keys], box Bc [.int .i64 c.room, .slice a26 (c.keys.take (0 : Int).toNat ++ ([key]) ++ c.keys.drop (0 : Int).toNat).length c27] 98, own tInt S28 a26 c27 (c.keys.take (0 : Int).toNat ++ ([key]) ++ c.keys.drop (0 : Int).toNat)]) [1, 2, 0] (by decide) rfl
        exact Eq.mp (congrArg (fun z => HeapIs w0 ((outer w0 [box Bc [.int .i64 c.room, .slice ac_0 c.keys.length cc_0] 98, own tInt Sc_0 ac_0 cc_0 c.keys]) :: z) w) ((by have hcc := congr (congr (congr (congrArg (fun (y0 : Int) (y1 : List Int) (y2 : Bool) (y3 : Int) => ([box Bc [.int .i64 y0, .slice a26 y1.length c27] 98, own tInt S28 a26 c27 y1] : List Ent)) hr0) hr1) hr2) hr3; exact hcc))) h2

set_option maxHeartbeats 8000000 in
set_option maxRecDepth 100000 in
theorem lrun_ok (c : DCache) (ac_0 : Option Addr) (cc_0 : Nat) (l : List Int) (al : Option Addr) (cl : Nat) : FnM Try.prog 32 [.agg #[.int .i64 c.room, .slice ac_0 c.keys.length cc_0], .slice al l.length cl] (fun w => Rd tInt w ac_0 cc_0 c.keys ∧ Rd tInt w al cl l) (Option Addr × Nat) (fun p => .tuple #[.agg #[.int .i64 (((Lru.run c l).1).room), .slice p.1 (((Lru.run c l).1).keys).length p.2], .int .i64 ((Lru.run c l).2), .int .i64 (Lru.runErr c l)]) (fun p S w => SlO tInt S w p.1 p.2 (((Lru.run c l).1).keys)) := by
  refine fnM (nt := 47) (F0 := [(0, .agg #[.int .i64 c.room, .slice ac_0 c.keys.length cc_0]), (1, .slice al l.length cl)]) Try.func32 rfl Try.ntmps32 rfl rfl (fun w0 hpre => ?_)
  obtain ⟨hc_0, hl⟩ := hpre
  have hlhc_0 := hc_0.2.1
  have hlhl := hl.2.1
  refine c_seq ?_
  refine c_region ?_
  refine o_box (v := .agg #[.int .i64 c.room, .slice ac_0 c.keys.length cc_0]) rfl rfl (fun B1 => ?_)
  refine o_alloc ze54 rfl (fun B2 => ?_)
  refine o_pure (p_assign (v := .int .i64 0) rfl) rfl rfl rfl ?_
  refine o_pure (p_assign (v := .int .i64 0) rfl) rfl rfl rfl ?_
  refine o_nil ?_
  refine q_then ?_
  refine c_seq ?_
  refine c_region ?_
  refine o_pure (p_load_agg (i := 1) (vs := [.int .i64 c.room, .slice ac_0 c.keys.length cc_0]) rfl rfl sh54 rfl rfl) rfl rfl rfl ?_
  refine o_call0 (v := .int .i64 (Lru.check c)) rfl (lcheck_ok c ac_0 cc_0) hf61 (fun w hw => (rd_base (i := 2) rfl hc_0) w hw) rfl ?_
  refine o_pure (p_assign (v := .int .i64 (Lru.check c)) rfl) rfl rfl rfl ?_
  refine o_nil ?_
  refine q_then ?_
  refine c_seq ?_
  refine c_seq ?_
  refine c_region ?_
  refine o_pure (p_move (v := .int .i64 (Lru.check c)) rfl) rfl rfl rfl ?_
  refine o_pure (p_eq (p := (Lru.check c)) (q := 0) rfl rfl) rfl rfl rfl ?_
  refine o_nil ?_
  refine q_then ?_
  refine c_cond (b := ((Lru.check c) == 0)) rfl (fun hc3 => ?_) (fun hc3 => ?_)
  · simp only [beq_iff_eq] at hc3
    have hok := Lru.ok_of hc3
    have hroom := hok.room
    have hlen := hok.len
    refine c_region ?_
    refine o_pure (p_move (v := .slice al l.length cl) rfl) rfl rfl rfl ?_
    refine o_call0 (v := .int .i64 (Lru.trace l)) rfl (checkTrace_ok l al cl) hf57 (fun w hw => (rd_base (i := 2) rfl hl) w hw) rfl ?_
    refine o_pure (p_assign (v := .int .i64 (Lru.trace l)) rfl) rfl rfl rfl ?_
    refine o_nil ?_
    refine q_then ?_
    refine c_seq ?_
    refine c_seq ?_
    refine c_region ?_
    refine o_pure (p_move (v := .int .i64 (Lru.trace l)) rfl) rfl rfl rfl ?_
    refine o_pure (p_ne (p := (Lru.trace l)) (q := 0) rfl rfl) rfl rfl rfl ?_
    refine o_nil ?_
    refine q_then ?_
    refine c_cond (b := ((Lru.trace l) != 0)) rfl (fun hc4 => ?_) (fun hc4 => ?_)
    · simp only [bne_iff_ne, ne_eq] at hc4
      refine c_seq ?_
      refine c_region ?_
      refine o_pure (p_build (cells := [.int .i64 0, .slice none 0 0]) fp54 ze54 rfl rfl) rfl rfl rfl ?_
      refine o_pure (p_move (v := .int .i64 (Lru.trace l)) rfl) rfl rfl rfl ?_
      refine o_storeN (i := 0) (vs := [.int .i64 0, .slice none 0 0]) (cs' := [.int .i64 0, .slice none 0 0]) rfl rfl rfl sz54 rfl rfl rfl rfl ?_
      refine o_pure (p_assign (v := .int .i64 0) rfl) rfl rfl rfl ?_
      refine o_pure (p_assign (v := .int .i64 (Lru.trace l)) rfl) rfl rfl rfl ?_
      refine o_nil ?_
      refine q_then ?_
      refine c_ret ?_
      refine q_then_ret ?_
      obtain ⟨ha, hae⟩ : _ ∧ _ := by first | exact Lru.run1 (c := c) (l := l) (by assumption) | exact Lru.run2 (c := c) (l := l) (by assumption) (by assumption) | (obtain ⟨h1, h2⟩ := Lru.run3 (c := c) (l := l) (by assumption) (by assumption); rw [hI.done (by omega)] at h1; exact ⟨h1, h2⟩)
      have hr0 : (0 : Int) = ((Lru.run c l).1).room := by
        simp only [ha, hae, Lru.zero]
      have hr1 : ([] : List Int) = ((Lru.run c l).1).keys := by
        simp only [ha, hae, Lru.zero]
      have hr2 : (0 : Int) = ((Lru.run c l).2) := by
        simp only [ha, hae, Lru.zero]
      have hr3 : ((Lru.trace l) : Int) = (Lru.runErr c l) := by
        simp only [ha, hae, Lru.zero]
      refine q_endM (p := (none, 0)) (fun _ => False) (rt3 rfl (r_cell (i := 0) rfl rfl sh54 rfl) (r_tmp rfl) (r_tmp rfl)) (i := 2) rfl ?_ ?_ ?_
      · exact (by have hcc := congr (congr (congr (congrArg (fun (y0 : Int) (y1 : List Int) (y2 : Int) (y3 : Int) => (.tuple #[.agg #[.int .i64 y0, .slice none y1.length 0], .int .i64 y2, .int .i64 y3] : Value)) hr0) hr1) hr2) hr3; exact hcc)
      · intro w hw b hb; exact hb.elim
      · intro w hw; exact Eq.mp (congrArg (fun y => SlO tInt _ w none 0 y) hr1) (SlO.nil tInt w)
    · simp only [bne_eq_false_iff_eq] at hc4
      refine c_skip ?_
      refine q_then ?_
      refine c_seq ?_
      refine c_region ?_
      refine o_pure (p_load_agg (i := 1) (vs := [.int .i64 c.room, .slice ac_0 c.keys.length cc_0]) rfl rfl sh54 rfl rfl) rfl rfl rfl ?_
      refine o_callX (pre := []) (R := [box B2 [.int .i64 0, .slice none 0 0] 54, box B1 [.int .i64 c.room, .slice ac_0 c.keys.length cc_0] 54, base w0]) rfl (lowned_ok c ac_0 cc_0 (by omega)) hf62 rfl (fun w hw => (rdX (i := 2) (js := []) rfl (by decide) rfl (fun _ hA => slR_base hc_0 hA)) w hw) rfl ?_
      rintro ⟨B5, a6, c7, S8⟩
      refine o_asH (H' := [box B5 [.int .i64 c.room, .slice a6 c.keys.length c7] 98, own tInt S8 a6 c7 c.keys, box B2 [.int .i64 0, .slice none 0 0] 54, box B1 [.int .i64 c.room, .slice ac_0 c.keys.length cc_0] 54, base w0]) rfl ?_
      refine o_pure (p_assign (v := .pointer (some ⟨B5, 0, none⟩)) rfl) rfl rfl rfl ?_
      refine o_pure (p_assign (v := .int .i64 0) rfl) rfl rfl rfl ?_
      refine o_nil ?_
      refine q_then ?_
      refine c_seq ?_
      refine c_seq ?_
      refine c_region ?_
      refine o_pure (p_move (v := .slice al l.length cl) rfl) rfl rfl rfl ?_
      refine o_pure (p_len_slice (len := l.length) rfl rfl Try.underlying30) rfl rfl rfl ?_
      refine o_pure (p_move (v := .int .i64 0) rfl) rfl rfl rfl ?_
      refine o_nil ?_
      refine q_then ?_
      refine c_block ?_
      refine c_loop (St := Int × Nat × DCache × Option Addr × Nat × (Nat → Prop))
        (fun ⟨hits, k, cc, acc_0, ccc_0, Scc_0⟩ => [(4, .pointer (some ⟨B2, 0, none⟩)), (8, .pointer (some ⟨B5, 0, none⟩)), (9, .int .i64 hits), (26, .slice al l.length cl), (27, .int .i64 (l.length : Int)), (28, .int .i64 (k : Int))])
        (fun ⟨hits, k, cc, acc_0, ccc_0, Scc_0⟩ => [box B5 [.int .i64 cc.room, .slice acc_0 cc.keys.length ccc_0] 98, own tInt Scc_0 acc_0 ccc_0 cc.keys, box B2 [.int .i64 0, .slice none 0 0] 54, box B1 [.int .i64 c.room, .slice ac_0 c.keys.length cc_0] 54, base w0])
        (fun ⟨hits, k, cc, acc_0, ccc_0, Scc_0⟩ => Lru.RInv c cc l hits k)
        (fun ⟨hits, k, cc, acc_0, ccc_0, Scc_0⟩ => l.length - k)
        (0, 0, c, a6, c7, S8) ?_ (Sub.cons rfl (Sub.cons rfl (Sub.cons rfl (Sub.cons rfl (Sub.cons rfl (Sub.cons rfl (Sub.nil _))))))) (fun _ hw => hw) ?_
      · exact Lru.RInv.start' (by assumption) (by assumption)
      rintro ⟨hits, k, cc, acc_0, ccc_0, Scc_0⟩ hI K hK10
      have hn0 := hI.n0
      have hn1 := hI.n1
      show SC _ _ Try.prog 47 w0 _ _ [(4, .pointer (some ⟨B2, 0, none⟩)), (8, .pointer (some ⟨B5, 0, none⟩)), (9, .int .i64 hits), (26, .slice al l.length cl), (27, .int .i64 (l.length : Int)), (28, .int .i64 (k : Int))] [box B5 [.int .i64 cc.room, .slice acc_0 cc.keys.length ccc_0] 98, own tInt Scc_0 acc_0 ccc_0 cc.keys, box B2 [.int .i64 0, .slice none 0 0] 54, box B1 [.int .i64 c.room, .slice ac_0 c.keys.length cc_0] 54, base w0]
      refine c_seq ?_
      refine c_region ?_
      refine o_pure (p_lt (p := (k : Int)) (q := (l.length : Int)) rfl rfl) rfl rfl rfl ?_
      refine o_nil ?_
      refine q_then ?_
      refine c_seq ?_
      refine c_cond (b := decide ((k : Int) < (l.length : Int))) rfl (fun hc11 => ?_) (fun hc11 => ?_)
      · simp only [decide_eq_true_eq] at hc11
        refine c_skip ?_
        refine q_then ?_
        refine c_seq ?_
        refine c_block ?_
        refine c_seq ?_
        refine c_region ?_
        refine o_pure (p_indexAddr (L := l) (T := tInt) (i := (k : Int)) rfl rfl (rd_base (i := 4) rfl hl) Try.underlying30 sz3 (by omega) (by omega)) rfl rfl rfl ?_
        refine o_pure (p_loadE1 (i := k) (T := tInt) (L := l) (v := .int .i64 (l[k])) rfl (rd_base (i := 4) rfl hl) (by first | assumption | omega) sh3 rfl) rfl rfl rfl ?_
        refine o_pure (p_assign (v := .int .i64 (l[k])) rfl) rfl rfl rfl ?_
        refine o_nil ?_
        refine q_then ?_
        refine c_seq ?_
        refine c_region ?_
        refine o_pure (p_move (v := .pointer (some ⟨B5, 0, none⟩)) rfl) rfl rfl rfl ?_
        refine o_pure (p_move (v := .int .i64 (l[k])) rfl) rfl rfl rfl ?_
        refine o_callX (pre := [box B5 [.int .i64 cc.room, .slice acc_0 cc.keys.length ccc_0] 98, own tInt Scc_0 acc_0 ccc_0 cc.keys]) (R := [box B2 [.int .i64 0, .slice none 0 0] 54, box B1 [.int .i64 c.room, .slice ac_0 c.keys.length cc_0] 54, base w0]) rfl (ltouch_ok cc B5 acc_0 ccc_0 Scc_0 (l[k]) (by first | assumption | exact hI.ok | omega)) hf63 rfl (fun _ _ => trivial) rfl ?_
        rintro ⟨a12, c13, S14⟩
        refine o_asH (H' := [box B5 [.int .i64 (((Lru.touch cc (l[k])).1).room), .slice a12 (((Lru.touch cc (l[k])).1).keys).length c13] 98, own tInt S14 a12 c13 (((Lru.touch cc (l[k])).1).keys), box B2 [.int .i64 0, .slice none 0 0] 54, box B1 [.int .i64 c.room, .slice ac_0 c.keys.length cc_0] 54, base w0]) rfl ?_
        refine o_pure (p_move (v := .tuple #[.bool ((Lru.touch cc (l[k])).2.1), .int .i64 ((Lru.touch cc (l[k])).2.2)]) rfl) rfl rfl rfl ?_
        refine o_pure (p_extract (vs := [.bool ((Lru.touch cc (l[k])).2.1), .int .i64 ((Lru.touch cc (l[k])).2.2)]) (v := .bool ((Lru.touch cc (l[k])).2.1)) rfl rfl) rfl rfl rfl ?_
        refine o_pure (p_extract (vs := [.bool ((Lru.touch cc (l[k])).2.1), .int .i64 ((Lru.touch cc (l[k])).2.2)]) (v := .int .i64 ((Lru.touch cc (l[k])).2.2)) rfl rfl) rfl rfl rfl ?_
        refine o_pure (p_assign (v := .bool ((Lru.touch cc (l[k])).2.1)) rfl) rfl rfl rfl ?_
        refine o_pure (p_assign (v := .int .i64 ((Lru.touch cc (l[k])).2.2)) rfl) rfl rfl rfl ?_
        refine o_nil ?_
        refine q_then ?_
        refine c_seq ?_
        refine c_region ?_
        refine o_pure (p_move (v := .bool ((Lru.touch cc (l[k])).2.1)) rfl) rfl rfl rfl ?_
        refine o_nil ?_
        refine q_then ?_
        refine c_cond (b := ((Lru.touch cc (l[k])).2.1)) rfl (fun hc16 => ?_) (fun hc16 => ?_)
        · skip
          refine c_region ?_
          refine o_pure (p_move (v := .int .i64 hits) rfl) rfl rfl rfl ?_
          refine o_pure (p_addb (p := hits) (q := 1) rfl rfl (by omega)) rfl rfl rfl ?_
          refine o_pure (p_assign (v := .int .i64 (hits + 1)) rfl) rfl rfl rfl ?_
          refine o_nil ?_
          refine q_block_normal (q_then ?_)
          refine c_region ?_
          refine o_pure (p_addb (p := (k : Int)) (q := 1) rfl rfl (by omega)) rfl rfl rfl ?_
          refine o_pure (p_move (v := .int .i64 ((k : Int) + 1)) rfl) rfl rfl rfl ?_
          refine o_nil ?_
          refine q_round hK10 ((hits + 1), k + 1, ((Lru.touch cc (l[k])).1), a12, c13, S14) ?_ ?_ ?_ ?_
          · clear hK10
            first | exact hI.hit (by omega) (by assumption) | exact hI.miss (by omega) (by assumption)
          · (try dsimp only); omega
          · exact Sub.cons rfl (Sub.cons rfl (Sub.cons rfl (Sub.cons rfl (Sub.cons rfl (Sub.cons rfl (Sub.nil _))))))
          · exact fun _ hw => HeapIs.pick hw [0, 1, 2, 3, 4] (by decide) rfl
        · skip
          refine c_skip ?_
          refine q_block_normal (q_then ?_)
          refine c_region ?_
          refine o_pure (p_addb (p := (k : Int)) (q := 1) rfl rfl (by omega)) rfl rfl rfl ?_
          refine o_pure (p_move (v := .int .i64 ((k : Int) + 1)) rfl) rfl rfl rfl ?_
          refine o_nil ?_
          refine q_round hK10 (hits, k + 1, ((Lru.touch cc (l[k])).1), a12, c13, S14) ?_ ?_ ?_ ?_
          · clear hK10
            first | exact hI.hit (by omega) (by assumption) | exact hI.miss (by omega) (by assumption)
          · (try dsimp only); omega
          · exact Sub.cons rfl (Sub.cons rfl (Sub.cons rfl (Sub.cons rfl (Sub.cons rfl (Sub.cons rfl (Sub.nil _))))))
          · exact fun _ hw => HeapIs.pick hw [0, 1, 2, 3, 4] (by decide) rfl
      · simp only [decide_eq_false_iff_not, Int.not_lt] at hc11
        refine c_exit ?_
        refine q_then_exit (q_then_exit (q_block_exit (q_then ?_)))
        refine c_seq ?_
        refine c_region ?_
        refine o_pure (p_move (v := .pointer (some ⟨B5, 0, none⟩)) rfl) rfl rfl rfl ?_
        refine o_pure (p_nilCheck rfl) rfl rfl rfl ?_
        refine o_pure (p_fieldAddr (B := B5) (j := 0) (j' := 0) rfl fo98_0 rfl) rfl rfl rfl ?_
        refine o_pure (p_load_agg (i := 0) (vs := [.int .i64 cc.room, .slice acc_0 cc.keys.length ccc_0]) rfl rfl sh54 rfl rfl) rfl rfl rfl ?_
        refine o_pure (p_move (v := .int .i64 hits) rfl) rfl rfl rfl ?_
        refine o_storeN (i := 2) (vs := [.int .i64 cc.room, .slice acc_0 cc.keys.length ccc_0]) (cs' := [.int .i64 cc.room, .slice acc_0 cc.keys.length ccc_0]) rfl rfl rfl sz54 rfl rfl rfl rfl ?_
        refine o_pure (p_assign (v := .int .i64 hits) rfl) rfl rfl rfl ?_
        refine o_pure (p_assign (v := .int .i64 0) rfl) rfl rfl rfl ?_
        refine o_nil ?_
        refine q_then ?_
        refine c_ret ?_
        obtain ⟨ha, hae⟩ : _ ∧ _ := by first | exact Lru.run1 (c := c) (l := l) (by assumption) | exact Lru.run2 (c := c) (l := l) (by assumption) (by assumption) | (obtain ⟨h1, h2⟩ := Lru.run3 (c := c) (l := l) (by assumption) (by assumption); rw [hI.done (by omega)] at h1; exact ⟨h1, h2⟩)
        have hr0 : (cc.room : Int) = ((Lru.run c l).1).room := by
          simp only [ha, hae, Lru.zero]
        have hr1 : (cc.keys : List Int) = ((Lru.run c l).1).keys := by
          simp only [ha, hae, Lru.zero]
        have hr2 : (hits : Int) = ((Lru.run c l).2) := by
          simp only [ha, hae, Lru.zero]
        have hr3 : (0 : Int) = (Lru.runErr c l) := by
          simp only [ha, hae, Lru.zero]
        refine q_endM (p := (acc_0, ccc_0)) Scc_0 (rt3 rfl (r_cell (i := 2) rfl rfl sh54 rfl) (r_tmp rfl) (r_tmp rfl)) (i := 4) rfl ?_ ?_ ?_
        · exact (by have hcc := congr (congr (congr (congrArg (fun (y0 : Int) (y1 : List Int) (y2 : Int) (y3 : Int) => (.tuple #[.agg #[.int .i64 y0, .slice acc_0 y1.length ccc_0], .int .i64 y2, .int .i64 y3] : Value)) hr0) hr1) hr2) hr3; exact hcc)
        · exact fun w hw => hw.above (i := 4) (j := 1) (by decide) rfl rfl
        · intro w hw; exact Eq.mp (congrArg (fun y => SlO tInt _ w acc_0 ccc_0 y) hr1) ((hw.at (i := 1) rfl).here)
  · simp only [beq_eq_false_iff_ne, ne_eq] at hc3
    refine c_skip ?_
    refine q_then ?_
    refine c_seq ?_
    refine c_seq ?_
    refine c_region ?_
    refine o_pure (p_move (v := .int .i64 (Lru.check c)) rfl) rfl rfl rfl ?_
    refine o_pure (p_ne (p := (Lru.check c)) (q := 0) rfl rfl) rfl rfl rfl ?_
    refine o_nil ?_
    refine q_then ?_
    refine c_cond (b := ((Lru.check c) != 0)) rfl (fun hc17 => ?_) (fun hc17 => ?_)
    · simp only [bne_iff_ne, ne_eq] at hc17
      refine c_seq ?_
      refine c_region ?_
      refine o_pure (p_build (cells := [.int .i64 0, .slice none 0 0]) fp54 ze54 rfl rfl) rfl rfl rfl ?_
      refine o_pure (p_move (v := .int .i64 (Lru.check c)) rfl) rfl rfl rfl ?_
      refine o_storeN (i := 0) (vs := [.int .i64 0, .slice none 0 0]) (cs' := [.int .i64 0, .slice none 0 0]) rfl rfl rfl sz54 rfl rfl rfl rfl ?_
      refine o_pure (p_assign (v := .int .i64 0) rfl) rfl rfl rfl ?_
      refine o_pure (p_assign (v := .int .i64 (Lru.check c)) rfl) rfl rfl rfl ?_
      refine o_nil ?_
      refine q_then ?_
      refine c_ret ?_
      refine q_then_ret ?_
      obtain ⟨ha, hae⟩ : _ ∧ _ := by first | exact Lru.run1 (c := c) (l := l) (by assumption) | exact Lru.run2 (c := c) (l := l) (by assumption) (by assumption) | (obtain ⟨h1, h2⟩ := Lru.run3 (c := c) (l := l) (by assumption) (by assumption); rw [hI.done (by omega)] at h1; exact ⟨h1, h2⟩)
      have hr0 : (0 : Int) = ((Lru.run c l).1).room := by
        simp only [ha, hae, Lru.zero]
      have hr1 : ([] : List Int) = ((Lru.run c l).1).keys := by
        simp only [ha, hae, Lru.zero]
      have hr2 : (0 : Int) = ((Lru.run c l).2) := by
        simp only [ha, hae, Lru.zero]
      have hr3 : ((Lru.check c) : Int) = (Lru.runErr c l) := by
        simp only [ha, hae, Lru.zero]
      refine q_endM (p := (none, 0)) (fun _ => False) (rt3 rfl (r_cell (i := 0) rfl rfl sh54 rfl) (r_tmp rfl) (r_tmp rfl)) (i := 2) rfl ?_ ?_ ?_
      · exact (by have hcc := congr (congr (congr (congrArg (fun (y0 : Int) (y1 : List Int) (y2 : Int) (y3 : Int) => (.tuple #[.agg #[.int .i64 y0, .slice none y1.length 0], .int .i64 y2, .int .i64 y3] : Value)) hr0) hr1) hr2) hr3; exact hcc)
      · intro w hw b hb; exact hb.elim
      · intro w hw; exact Eq.mp (congrArg (fun y => SlO tInt _ w none 0 y) hr1) (SlO.nil tInt w)
    · simp only [bne_eq_false_iff_eq] at hc17
      exfalso; first | contradiction | omega | simp_all
end Go.Proofs.Ytkndekkacimekaa
