/- The walks, printed by a program from the translation and a specification. -/
import Derived.Test.YtgjdmnljnimamaaOpF
import Derived.Test.YtgjdmnljnimamaaOpLaw2
import Derived.Test.YtgjdmnljnimamaaOpW8
import Derived.Test.YtgjdmnljnimamaaOpW7
namespace Go.Proofs.Ytgjdmnljnimamaa
open Go.Sx Go.RowKit
set_option maxHeartbeats 8000000 in
set_option maxRecDepth 100000 in
theorem optimalSpec_ok (l : List Int) (al : Option Addr) (cl : Nat) (room : Int) (i : Int) (misses : Int) (least : Int) : Fn0 Try.prog 11 [.slice al l.length cl, .int .i64 room, .int .i64 i, .int .i64 misses, .int .i64 least] (fun w => Rd tInt w al cl l) (.bool true) := by
  refine fn0 (nt := 162) (F0 := [(0, .slice al l.length cl), (1, .int .i64 room), (2, .int .i64 i), (3, .int .i64 misses), (4, .int .i64 least)]) Try.func11 rfl Try.ntmps11 rfl rfl (fun w0 hpre => ?_)
  have hl := hpre
  have hlhl := hl.2.1
  refine c_seq ?_
  refine c_region ?_
  refine o_pure (p_assign (v := .bool false) rfl) rfl rfl rfl ?_
  refine o_nil ?_
  refine q_then ?_
  refine c_seq ?_
  refine c_region ?_
  refine o_pure (p_move (v := .slice al l.length cl) rfl) rfl rfl rfl ?_
  refine o_pure (p_move (v := .int .i64 room) rfl) rfl rfl rfl ?_
  refine o_callM rfl (oevict_ok l al cl room) hf38 (fun w hw => (rd_base (i := 0) rfl hl) w hw) rfl (fun _ _ _ _ ha hA => SlO.agree ha hA) ?_
  rintro ⟨a3, c4⟩ S1
  refine o_know (fun w hw => own_len (i := 0) (T := tInt) hw rfl) (fun hlr5 => ?_)
  refine o_pure (p_move (v := .tuple #[.slice a3 ((Opt.ev l room).1).length c4, .int .i64 ((Opt.ev l room).2), .int .i64 (Opt.evErr l room)]) rfl) rfl rfl rfl ?_
  refine o_pure (p_extract (vs := [.slice a3 ((Opt.ev l room).1).length c4, .int .i64 ((Opt.ev l room).2), .int .i64 (Opt.evErr l room)]) (v := .slice a3 ((Opt.ev l room).1).length c4) rfl rfl) rfl rfl rfl ?_
  refine o_pure (p_extract (vs := [.slice a3 ((Opt.ev l room).1).length c4, .int .i64 ((Opt.ev l room).2), .int .i64 (Opt.evErr l room)]) (v := .int .i64 ((Opt.ev l room).2)) rfl rfl) rfl rfl rfl ?_
  refine o_pure (p_extract (vs := [.slice a3 ((Opt.ev l room).1).length c4, .int .i64 ((Opt.ev l room).2), .int .i64 (Opt.evErr l room)]) (v := .int .i64 (Opt.evErr l room)) rfl rfl) rfl rfl rfl ?_
  refine o_pure (p_assign (v := .slice a3 ((Opt.ev l room).1).length c4) rfl) rfl rfl rfl ?_
  refine o_pure (p_assign (v := .int .i64 ((Opt.ev l room).2)) rfl) rfl rfl rfl ?_
  refine o_pure (p_assign (v := .int .i64 (Opt.evErr l room)) rfl) rfl rfl rfl ?_
  refine o_nil ?_
  refine q_then ?_
  refine c_seq ?_
  refine c_region ?_
  refine o_pure (p_move (v := .slice al l.length cl) rfl) rfl rfl rfl ?_
  refine o_pure (p_move (v := .int .i64 i) rfl) rfl rfl rfl ?_
  refine o_call0 (v := .tuple #[.int .i64 (Opt.next l i), .int .i64 (Opt.nextErr l i)]) rfl (onext_ok l al cl i) hf39 (fun w hw => (rd_base (i := 1) rfl hl) w hw) rfl ?_
  refine o_pure (p_move (v := .tuple #[.int .i64 (Opt.next l i), .int .i64 (Opt.nextErr l i)]) rfl) rfl rfl rfl ?_
  refine o_pure (p_extract (vs := [.int .i64 (Opt.next l i), .int .i64 (Opt.nextErr l i)]) (v := .int .i64 (Opt.next l i)) rfl rfl) rfl rfl rfl ?_
  refine o_pure (p_extract (vs := [.int .i64 (Opt.next l i), .int .i64 (Opt.nextErr l i)]) (v := .int .i64 (Opt.nextErr l i)) rfl rfl) rfl rfl rfl ?_
  refine o_pure (p_assign (v := .int .i64 (Opt.next l i)) rfl) rfl rfl rfl ?_
  refine o_pure (p_assign (v := .int .i64 (Opt.nextErr l i)) rfl) rfl rfl rfl ?_
  refine o_nil ?_
  refine q_then ?_
  refine c_seq ?_
  refine c_region ?_
  refine o_pure (p_move (v := .int .i64 misses) rfl) rfl rfl rfl ?_
  refine o_pure (p_move (v := .int .i64 room) rfl) rfl rfl rfl ?_
  refine o_pure (p_move (v := .int .i64 least) rfl) rfl rfl rfl ?_
  refine o_call0 (v := .tuple #[.int .i64 (Opt.bound misses room least), .int .i64 (Opt.boundErr misses room least)]) rfl (obound_ok misses room least) hf40 (fun _ _ => trivial) rfl ?_
  refine o_pure (p_move (v := .tuple #[.int .i64 (Opt.bound misses room least), .int .i64 (Opt.boundErr misses room least)]) rfl) rfl rfl rfl ?_
  refine o_pure (p_extract (vs := [.int .i64 (Opt.bound misses room least), .int .i64 (Opt.boundErr misses room least)]) (v := .int .i64 (Opt.bound misses room least)) rfl rfl) rfl rfl rfl ?_
  refine o_pure (p_extract (vs := [.int .i64 (Opt.bound misses room least), .int .i64 (Opt.boundErr misses room least)]) (v := .int .i64 (Opt.boundErr misses room least)) rfl rfl) rfl rfl rfl ?_
  refine o_pure (p_assign (v := .int .i64 (Opt.bound misses room least)) rfl) rfl rfl rfl ?_
  refine o_pure (p_assign (v := .int .i64 (Opt.boundErr misses room least)) rfl) rfl rfl rfl ?_
  refine o_nil ?_
  refine q_then ?_
  refine c_seq ?_
  refine c_region ?_
  refine o_pure (p_move (v := .slice al l.length cl) rfl) rfl rfl rfl ?_
  refine o_call0 (v := .int .i64 (Lru.trace l)) rfl (traceCheck_ok l al cl) hf32 (fun w hw => (rd_base (i := 1) rfl hl) w hw) rfl ?_
  refine o_pure (p_assign (v := .int .i64 (Lru.trace l)) rfl) rfl rfl rfl ?_
  refine o_nil ?_
  refine q_then ?_
  refine c_seq ?_
  refine c_region ?_
  refine o_pure (p_move (v := .int .i64 (Lru.trace l)) rfl) rfl rfl rfl ?_
  refine o_pure (p_move (v := .int .i64 (Lru.trace l)) rfl) rfl rfl rfl ?_
  refine o_pure (p_assign (v := .int .i64 (Lru.trace l)) rfl) rfl rfl rfl ?_
  refine o_pure (p_assign (v := .int .i64 (Lru.trace l)) rfl) rfl rfl rfl ?_
  refine o_nil ?_
  refine q_then ?_
  refine c_seq ?_
  refine c_region ?_
  refine o_pure (p_assign (v := .slice none 0 0) rfl) rfl rfl rfl ?_
  refine o_nil ?_
  refine q_then ?_
  refine c_seq ?_
  refine c_region ?_
  refine o_pure (p_assign (v := .int .i64 0) rfl) rfl rfl rfl ?_
  refine o_pure (p_assign (v := .int .i64 0) rfl) rfl rfl rfl ?_
  refine o_nil ?_
  refine q_then ?_
  refine c_seq ?_
  refine c_seq ?_
  refine c_region ?_
  refine o_pure (p_move (v := .int .i64 (Lru.trace l)) rfl) rfl rfl rfl ?_
  refine o_pure (p_eq (p := (Lru.trace l)) (q := 0) rfl rfl) rfl rfl rfl ?_
  refine o_pure (p_move (v := .bool ((Lru.trace l) == 0)) rfl) rfl rfl rfl ?_
  refine o_and (p := 59) 7 (decide (room < 1) || decide (40 < room)) ?_ ?_ ?_
  · intro hb6 hk
    simp only [beq_iff_eq] at hb6
    refine o_unguard 52 rfl rfl ?_
    refine o_pure (p_move (v := .int .i64 room) rfl) rfl rfl rfl ?_
    refine o_unguard 52 rfl rfl ?_
    refine o_pure (p_lt (p := room) (q := 1) rfl rfl) rfl rfl rfl ?_
    refine o_unguard 52 rfl rfl ?_
    refine o_pure (p_move (v := .bool (decide (room < 1))) rfl) rfl rfl rfl ?_
    refine o_or (p := 58) 3 (decide (40 < room)) ?_ ?_ ?_
    · intro hb7 hk
      simp only [decide_eq_false_iff_not, Int.not_lt] at hb7
      refine o_unguard 55 rfl rfl ?_
      refine o_pure (p_move (v := .int .i64 room) rfl) rfl rfl rfl ?_
      refine o_unguard 55 rfl rfl ?_
      refine o_pure (p_gt (p := room) (q := 40) rfl rfl) rfl rfl rfl ?_
      refine o_unguard 52 rfl rfl ?_
      refine o_pure (p_pick_false (v := .bool (decide (40 < room))) rfl rfl) rfl rfl rfl ?_
      exact o_sub (Sub.cons rfl (Sub.skip rfl (Sub.skip rfl (Sub.skip rfl (Sub.skip rfl (Sub.refl _)))))) hk
    · intro hb7 hk
      refine o_guard_no rfl 55 rfl rfl rfl rfl rfl ?_
      refine o_guard_no rfl 55 rfl rfl rfl rfl rfl ?_
      refine o_unguard 52 rfl rfl ?_
      refine o_pure (p_pick_true (u := .bool true) rfl rfl) rfl rfl rfl ?_
      exact o_sub (Sub.cons rfl (Sub.skip rfl (Sub.skip rfl (Sub.skip rfl (Sub.skip rfl (Sub.refl _)))))) hk
    refine o_pure (p_pick_true (u := .bool (decide (room < 1) || decide (40 < room))) rfl rfl) rfl rfl rfl ?_
    exact o_sub (Sub.cons rfl (Sub.skip rfl (Sub.skip rfl (Sub.skip rfl (Sub.skip rfl (Sub.skip rfl (Sub.refl _))))))) hk
  · intro hb6 hk
    refine o_guard_no rfl 52 rfl rfl rfl rfl rfl ?_
    refine o_guard_no rfl 52 rfl rfl rfl rfl rfl ?_
    refine o_guard_no rfl 52 rfl rfl rfl rfl rfl ?_
    refine o_guard_no rfl 55 rfl rfl rfl rfl rfl ?_
    refine o_guard_no rfl 55 rfl rfl rfl rfl rfl ?_
    refine o_guard_no rfl 52 rfl rfl rfl rfl rfl ?_
    refine o_pure (p_pick_false (v := .bool false) rfl rfl) rfl rfl rfl ?_
    exact o_sub (Sub.cons rfl (Sub.skip rfl (Sub.skip rfl (Sub.skip rfl (Sub.skip rfl (Sub.skip rfl (Sub.skip rfl (Sub.skip rfl (Sub.skip rfl (Sub.refl _)))))))))) hk
  refine o_nil ?_
  refine q_then ?_
  refine c_join (G := Int)
    (fun w => [(0, .slice al l.length cl), (1, .int .i64 room), (2, .int .i64 i), (3, .int .i64 misses), (4, .int .i64 least), (11, .slice a3 ((Opt.ev l room).1).length c4), (12, .int .i64 ((Opt.ev l room).2)), (13, .int .i64 (Opt.evErr l room)), (14, .int .i64 (Opt.next l i)), (15, .int .i64 (Opt.nextErr l i)), (16, .int .i64 (Opt.bound misses room least)), (17, .int .i64 (Opt.boundErr misses room least)), (18, .int .i64 w), (19, .int .i64 (Lru.trace l)), (20, .int .i64 (Lru.trace l)), (21, .slice none 0 0), (22, .int .i64 0), (23, .int .i64 0)])
    (fun w => [own tInt S1 a3 c4 ((Opt.ev l room).1), base w0])
    (fun w => w = Opt.evErr l room)
    (fun K hK8 => ?_) ?_
  · refine c_cond (b := (((Lru.trace l) == 0) && (decide (room < 1) || decide (40 < room)))) rfl (fun hc9 => ?_) (fun hc9 => ?_)
    · simp only [Bool.and_eq_true, beq_iff_eq, Bool.or_eq_true, decide_eq_true_eq] at hc9
      have hja := hc9
      refine c_region ?_
      refine o_pure (p_assign (v := .int .i64 3) rfl) rfl rfl rfl ?_
      refine o_nil ?_
      refine q_join hK8 3 ?_ (Sub.cons rfl (Sub.cons rfl (Sub.cons rfl (Sub.cons rfl (Sub.cons rfl (Sub.cons rfl (Sub.cons rfl (Sub.cons rfl (Sub.cons rfl (Sub.cons rfl (Sub.cons rfl (Sub.cons rfl (Sub.cons rfl (Sub.cons rfl (Sub.cons rfl (Sub.cons rfl (Sub.cons rfl (Sub.cons rfl (Sub.nil _))))))))))))))))))) (fun _ hw => HeapIs.pick hw [0, 1] (by decide) rfl)
      clear hK8
      first | exact Opt.js1 hja.1 hja.2 | exact Opt.js2 (by omega)
    · simp only [Bool.and_eq_false_iff, beq_eq_false_iff_ne, ne_eq, Bool.or_eq_false_iff, decide_eq_false_iff_not, Int.not_lt] at hc9
      have hja := hc9
      refine c_skip ?_
      refine q_join hK8 (Lru.trace l) ?_ (Sub.cons rfl (Sub.cons rfl (Sub.cons rfl (Sub.cons rfl (Sub.cons rfl (Sub.cons rfl (Sub.cons rfl (Sub.cons rfl (Sub.cons rfl (Sub.cons rfl (Sub.cons rfl (Sub.cons rfl (Sub.cons rfl (Sub.cons rfl (Sub.cons rfl (Sub.cons rfl (Sub.cons rfl (Sub.cons rfl (Sub.nil _))))))))))))))))))) (fun _ hw => HeapIs.pick hw [0, 1] (by decide) rfl)
      clear hK8
      first | exact Opt.js1 hja.1 hja.2 | exact Opt.js2 (by omega)
  rintro w hj1
  show SQ _ 162 w0 _ _ [(0, .slice al l.length cl), (1, .int .i64 room), (2, .int .i64 i), (3, .int .i64 misses), (4, .int .i64 least), (11, .slice a3 ((Opt.ev l room).1).length c4), (12, .int .i64 ((Opt.ev l room).2)), (13, .int .i64 (Opt.evErr l room)), (14, .int .i64 (Opt.next l i)), (15, .int .i64 (Opt.nextErr l i)), (16, .int .i64 (Opt.bound misses room least)), (17, .int .i64 (Opt.boundErr misses room least)), (18, .int .i64 w), (19, .int .i64 (Lru.trace l)), (20, .int .i64 (Lru.trace l)), (21, .slice none 0 0), (22, .int .i64 0), (23, .int .i64 0)] [own tInt S1 a3 c4 ((Opt.ev l room).1), base w0]
  refine q_then ?_
  refine c_seq ?_
  refine c_seq ?_
  refine c_region ?_
  refine o_pure (p_move (v := .int .i64 w) rfl) rfl rfl rfl ?_
  refine o_pure (p_eq (p := w) (q := 0) rfl rfl) rfl rfl rfl ?_
  refine o_nil ?_
  refine q_then ?_
  refine c_heap (H' := [loose tInt (False) (fun _ => False) none 0 ([] : List Int), own tInt S1 a3 c4 ((Opt.ev l room).1), base w0]) (fun w hw => HeapIs.looseNil tInt hw) ?_
  refine c_join (G := List Int × Option Addr × Nat × (Nat → Prop) × Int)
    (fun ⟨gone, agone, cgone, Sgone, many⟩ => [(0, .slice al l.length cl), (1, .int .i64 room), (2, .int .i64 i), (3, .int .i64 misses), (4, .int .i64 least), (11, .slice a3 ((Opt.ev l room).1).length c4), (12, .int .i64 ((Opt.ev l room).2)), (13, .int .i64 (Opt.evErr l room)), (14, .int .i64 (Opt.next l i)), (15, .int .i64 (Opt.nextErr l i)), (16, .int .i64 (Opt.bound misses room least)), (17, .int .i64 (Opt.boundErr misses room least)), (18, .int .i64 w), (19, .int .i64 (Lru.trace l)), (20, .int .i64 (Lru.trace l)), (21, .slice agone gone.length cgone), (22, .int .i64 many), (23, .int .i64 0)])
    (fun ⟨gone, agone, cgone, Sgone, many⟩ => [loose tInt (False) Sgone agone cgone gone, own tInt S1 a3 c4 ((Opt.ev l room).1), base w0])
    (fun ⟨gone, agone, cgone, Sgone, many⟩ => gone = (Opt.ev l room).1 ∧ many = (Opt.ev l room).2)
    (fun K hK11 => ?_) ?_
  · refine c_cond (b := (w == 0)) rfl (fun hc12 => ?_) (fun hc12 => ?_)
    · simp only [beq_iff_eq] at hc12
      have hev := Opt.ev_ok (hj1 ▸ hc12)
      have hrm := Lru.room_ok hev.2.1
      have h200 := (Lru.trace_ok.1 hev.1).1
      refine c_region ?_
      refine o_pure (p_move (v := .slice al l.length cl) rfl) rfl rfl rfl ?_
      refine o_pure (p_move (v := .int .i64 room) rfl) rfl rfl rfl ?_
      refine o_callM rfl (bestGone_ok l al cl room (by omega)) hf41 (fun w hw => (rd_base (i := 2) rfl hl) w hw) rfl (fun _ _ _ _ ha hA => SlO.agree ha hA) ?_
      rintro ⟨a15, c16⟩ S13
      refine o_know (fun w hw => own_len (i := 0) (T := tInt) hw rfl) (fun hlr17 => ?_)
      refine o_pure (p_move (v := .tuple #[.slice a15 ((Opt.go l room l.length).2.1).length c16, .int .i64 ((Opt.go l room l.length).2.2)]) rfl) rfl rfl rfl ?_
      refine o_pure (p_extract (vs := [.slice a15 ((Opt.go l room l.length).2.1).length c16, .int .i64 ((Opt.go l room l.length).2.2)]) (v := .slice a15 ((Opt.go l room l.length).2.1).length c16) rfl rfl) rfl rfl rfl ?_
      refine o_pure (p_extract (vs := [.slice a15 ((Opt.go l room l.length).2.1).length c16, .int .i64 ((Opt.go l room l.length).2.2)]) (v := .int .i64 ((Opt.go l room l.length).2.2)) rfl rfl) rfl rfl rfl ?_
      refine o_pure (p_assign (v := .slice a15 ((Opt.go l room l.length).2.1).length c16) rfl) rfl rfl rfl ?_
      refine o_pure (p_assign (v := .int .i64 ((Opt.go l room l.length).2.2)) rfl) rfl rfl rfl ?_
      refine o_nil ?_
      refine q_heap (H' := [loose tInt (False) S13 a15 c16 ((Opt.go l room l.length).2.1), loose tInt (False) (fun _ => False) none 0 ([] : List Int), own tInt S1 a3 c4 ((Opt.ev l room).1), base w0]) (fun w hw => HeapIs.toLoose (i := 0) (T := tInt) rfl hw) ?_
      refine q_join hK11 (((Opt.go l room l.length).2.1), a15, c16, S13, ((Opt.go l room l.length).2.2)) ?_ (Sub.cons rfl (Sub.cons rfl (Sub.cons rfl (Sub.cons rfl (Sub.cons rfl (Sub.cons rfl (Sub.cons rfl (Sub.cons rfl (Sub.cons rfl (Sub.cons rfl (Sub.cons rfl (Sub.cons rfl (Sub.cons rfl (Sub.cons rfl (Sub.cons rfl (Sub.cons rfl (Sub.cons rfl (Sub.cons rfl (Sub.nil _))))))))))))))))))) (fun _ hw => HeapIs.pick hw [0, 2, 3] (by decide) rfl)
      clear hK11
      first | (rw [hev.2.2]; exact ⟨rfl, rfl⟩) | (rw [hev]; exact ⟨rfl, rfl⟩)
    · simp only [beq_eq_false_iff_ne, ne_eq] at hc12
      have hev := Opt.ev_bad (hj1 ▸ hc12)
      refine c_skip ?_
      refine q_join hK11 (([] : List Int), none, 0, (fun _ => False), 0) ?_ (Sub.cons rfl (Sub.cons rfl (Sub.cons rfl (Sub.cons rfl (Sub.cons rfl (Sub.cons rfl (Sub.cons rfl (Sub.cons rfl (Sub.cons rfl (Sub.cons rfl (Sub.cons rfl (Sub.cons rfl (Sub.cons rfl (Sub.cons rfl (Sub.cons rfl (Sub.cons rfl (Sub.cons rfl (Sub.cons rfl (Sub.nil _))))))))))))))))))) (fun _ hw => HeapIs.pick hw [0, 1, 2] (by decide) rfl)
      clear hK11
      first | (rw [hev.2.2]; exact ⟨rfl, rfl⟩) | (rw [hev]; exact ⟨rfl, rfl⟩)
  rintro ⟨gone, agone, cgone, Sgone, many⟩ hj2
  show SQ _ 162 w0 _ _ [(0, .slice al l.length cl), (1, .int .i64 room), (2, .int .i64 i), (3, .int .i64 misses), (4, .int .i64 least), (11, .slice a3 ((Opt.ev l room).1).length c4), (12, .int .i64 ((Opt.ev l room).2)), (13, .int .i64 (Opt.evErr l room)), (14, .int .i64 (Opt.next l i)), (15, .int .i64 (Opt.nextErr l i)), (16, .int .i64 (Opt.bound misses room least)), (17, .int .i64 (Opt.boundErr misses room least)), (18, .int .i64 w), (19, .int .i64 (Lru.trace l)), (20, .int .i64 (Lru.trace l)), (21, .slice agone gone.length cgone), (22, .int .i64 many), (23, .int .i64 0)] [loose tInt (False) Sgone agone cgone gone, own tInt S1 a3 c4 ((Opt.ev l room).1), base w0]
  refine q_then ?_
  refine c_seq ?_
  refine c_seq ?_
  refine c_region ?_
  refine o_pure (p_move (v := .int .i64 (Lru.trace l)) rfl) rfl rfl rfl ?_
  refine o_pure (p_eq (p := (Lru.trace l)) (q := 0) rfl rfl) rfl rfl rfl ?_
  refine o_pure (p_move (v := .bool ((Lru.trace l) == 0)) rfl) rfl rfl rfl ?_
  refine o_and (p := 79) 9 (decide (i < 0) || decide ((l.length : Int) ≤ i)) ?_ ?_ ?_
  · intro hb18 hk
    simp only [beq_iff_eq] at hb18
    refine o_unguard 70 rfl rfl ?_
    refine o_pure (p_move (v := .int .i64 i) rfl) rfl rfl rfl ?_
    refine o_unguard 70 rfl rfl ?_
    refine o_pure (p_lt (p := i) (q := 0) rfl rfl) rfl rfl rfl ?_
    refine o_unguard 70 rfl rfl ?_
    refine o_pure (p_move (v := .bool (decide (i < 0))) rfl) rfl rfl rfl ?_
    refine o_or (p := 78) 5 (decide ((l.length : Int) ≤ i)) ?_ ?_ ?_
    · intro hb19 hk
      simp only [decide_eq_false_iff_not, Int.not_lt] at hb19
      refine o_unguard 73 rfl rfl ?_
      refine o_pure (p_move (v := .int .i64 i) rfl) rfl rfl rfl ?_
      refine o_unguard 73 rfl rfl ?_
      refine o_pure (p_move (v := .slice al l.length cl) rfl) rfl rfl rfl ?_
      refine o_unguard 73 rfl rfl ?_
      refine o_pure (p_len_slice (len := l.length) rfl rfl Try.underlying23) rfl rfl rfl ?_
      refine o_unguard 73 rfl rfl ?_
      refine o_pure (p_ge (p := i) (q := (l.length : Int)) rfl rfl) rfl rfl rfl ?_
      refine o_unguard 70 rfl rfl ?_
      refine o_pure (p_pick_false (v := .bool (decide ((l.length : Int) ≤ i))) rfl rfl) rfl rfl rfl ?_
      exact o_sub (Sub.cons rfl (Sub.skip rfl (Sub.skip rfl (Sub.skip rfl (Sub.skip rfl (Sub.skip rfl (Sub.skip rfl (Sub.refl _)))))))) hk
    · intro hb19 hk
      refine o_guard_no rfl 73 rfl rfl rfl rfl rfl ?_
      refine o_guard_no rfl 73 rfl rfl rfl rfl rfl ?_
      refine o_guard_no rfl 73 rfl rfl rfl rfl rfl ?_
      refine o_guard_no rfl 73 rfl rfl rfl rfl rfl ?_
      refine o_unguard 70 rfl rfl ?_
      refine o_pure (p_pick_true (u := .bool true) rfl rfl) rfl rfl rfl ?_
      exact o_sub (Sub.cons rfl (Sub.skip rfl (Sub.skip rfl (Sub.skip rfl (Sub.skip rfl (Sub.skip rfl (Sub.skip rfl (Sub.refl _)))))))) hk
    refine o_pure (p_pick_true (u := .bool (decide (i < 0) || decide ((l.length : Int) ≤ i))) rfl rfl) rfl rfl rfl ?_
    exact o_sub (Sub.cons rfl (Sub.skip rfl (Sub.skip rfl (Sub.skip rfl (Sub.skip rfl (Sub.skip rfl (Sub.refl _))))))) hk
  · intro hb18 hk
    refine o_guard_no rfl 70 rfl rfl rfl rfl rfl ?_
    refine o_guard_no rfl 70 rfl rfl rfl rfl rfl ?_
    refine o_guard_no rfl 70 rfl rfl rfl rfl rfl ?_
    refine o_guard_no rfl 73 rfl rfl rfl rfl rfl ?_
    refine o_guard_no rfl 73 rfl rfl rfl rfl rfl ?_
    refine o_guard_no rfl 73 rfl rfl rfl rfl rfl ?_
    refine o_guard_no rfl 73 rfl rfl rfl rfl rfl ?_
    refine o_guard_no rfl 70 rfl rfl rfl rfl rfl ?_
    refine o_pure (p_pick_false (v := .bool false) rfl rfl) rfl rfl rfl ?_
    exact o_sub (Sub.cons rfl (Sub.skip rfl (Sub.skip rfl (Sub.skip rfl (Sub.skip rfl (Sub.skip rfl (Sub.skip rfl (Sub.skip rfl (Sub.skip rfl (Sub.skip rfl (Sub.skip rfl (Sub.refl _)))))))))))) hk
  refine o_nil ?_
  refine q_then ?_
  refine c_join (G := Int × Int)
    (fun ⟨u, next_⟩ => [(1, .int .i64 room), (3, .int .i64 misses), (4, .int .i64 least), (11, .slice a3 ((Opt.ev l room).1).length c4), (12, .int .i64 ((Opt.ev l room).2)), (13, .int .i64 (Opt.evErr l room)), (14, .int .i64 (Opt.next l i)), (15, .int .i64 (Opt.nextErr l i)), (16, .int .i64 (Opt.bound misses room least)), (17, .int .i64 (Opt.boundErr misses room least)), (18, .int .i64 w), (20, .int .i64 u), (21, .slice agone gone.length cgone), (22, .int .i64 many), (23, .int .i64 next_)])
    (fun ⟨u, next_⟩ => [loose tInt (False) Sgone agone cgone gone, own tInt S1 a3 c4 ((Opt.ev l room).1), base w0])
    (fun ⟨u, next_⟩ => u = Opt.nextErr l i ∧ next_ = Opt.next l i)
    (fun K hK20 => ?_) ?_
  · refine c_cond (b := (((Lru.trace l) == 0) && (decide (i < 0) || decide ((l.length : Int) ≤ i)))) rfl (fun hc21 => ?_) (fun hc21 => ?_)
    · simp only [Bool.and_eq_true, beq_iff_eq, Bool.or_eq_true, decide_eq_true_eq] at hc21
      have hjb := hc21
      refine c_region ?_
      refine o_pure (p_assign (v := .int .i64 3) rfl) rfl rfl rfl ?_
      refine o_nil ?_
      refine q_join hK20 (3, 0) ?_ (Sub.cons rfl (Sub.cons rfl (Sub.cons rfl (Sub.cons rfl (Sub.cons rfl (Sub.cons rfl (Sub.cons rfl (Sub.cons rfl (Sub.cons rfl (Sub.cons rfl (Sub.cons rfl (Sub.cons rfl (Sub.cons rfl (Sub.cons rfl (Sub.cons rfl (Sub.nil _)))))))))))))))) (fun _ hw => HeapIs.pick hw [0, 1, 2] (by decide) rfl)
      clear hK20
      first | exact Opt.jn1 hjb.1 hjb.2 | exact Opt.jn2 (by assumption) (by omega) | exact Opt.jn3 (by assumption)
    · simp only [Bool.and_eq_false_iff, beq_eq_false_iff_ne, ne_eq, Bool.or_eq_false_iff, decide_eq_false_iff_not, Int.not_lt, Int.not_le] at hc21
      have hjb := hc21
      refine c_seq ?_
      refine c_region ?_
      refine o_pure (p_move (v := .int .i64 (Lru.trace l)) rfl) rfl rfl rfl ?_
      refine o_pure (p_eq (p := (Lru.trace l)) (q := 0) rfl rfl) rfl rfl rfl ?_
      refine o_nil ?_
      refine q_then ?_
      refine c_cond (b := ((Lru.trace l) == 0)) rfl (fun hc22 => ?_) (fun hc22 => ?_)
      · simp only [beq_iff_eq] at hc22
        refine c_region ?_
        refine o_pure (p_move (v := .slice al l.length cl) rfl) rfl rfl rfl ?_
        refine o_pure (p_move (v := .int .i64 i) rfl) rfl rfl rfl ?_
        refine o_call0 (v := .int .i64 ((Opt.ca l (i.toNat + 1) (l.getD i.toNat 0) : Nat) : Int)) rfl (bestNext_ok l al cl i (by omega)) hf42 (fun w hw => (rd_base (i := 2) rfl hl) w hw) rfl ?_
        refine o_pure (p_assign (v := .int .i64 ((Opt.ca l (i.toNat + 1) (l.getD i.toNat 0) : Nat) : Int)) rfl) rfl rfl rfl ?_
        refine o_nil ?_
        refine q_join hK20 ((Lru.trace l), ((Opt.ca l (i.toNat + 1) (l.getD i.toNat 0) : Nat) : Int)) ?_ (Sub.cons rfl (Sub.cons rfl (Sub.cons rfl (Sub.cons rfl (Sub.cons rfl (Sub.cons rfl (Sub.cons rfl (Sub.cons rfl (Sub.cons rfl (Sub.cons rfl (Sub.cons rfl (Sub.cons rfl (Sub.cons rfl (Sub.cons rfl (Sub.cons rfl (Sub.nil _)))))))))))))))) (fun _ hw => HeapIs.pick hw [0, 1, 2] (by decide) rfl)
        clear hK20
        first | exact Opt.jn1 hjb.1 hjb.2 | exact Opt.jn2 (by assumption) (by omega) | exact Opt.jn3 (by assumption)
      · simp only [beq_eq_false_iff_ne, ne_eq] at hc22
        refine c_skip ?_
        refine q_join hK20 ((Lru.trace l), 0) ?_ (Sub.cons rfl (Sub.cons rfl (Sub.cons rfl (Sub.cons rfl (Sub.cons rfl (Sub.cons rfl (Sub.cons rfl (Sub.cons rfl (Sub.cons rfl (Sub.cons rfl (Sub.cons rfl (Sub.cons rfl (Sub.cons rfl (Sub.cons rfl (Sub.cons rfl (Sub.nil _)))))))))))))))) (fun _ hw => HeapIs.pick hw [0, 1, 2] (by decide) rfl)
        clear hK20
        first | exact Opt.jn1 hjb.1 hjb.2 | exact Opt.jn2 (by assumption) (by omega) | exact Opt.jn3 (by assumption)
  rintro ⟨u, next_⟩ hj3
  show SQ _ 162 w0 _ _ [(1, .int .i64 room), (3, .int .i64 misses), (4, .int .i64 least), (11, .slice a3 ((Opt.ev l room).1).length c4), (12, .int .i64 ((Opt.ev l room).2)), (13, .int .i64 (Opt.evErr l room)), (14, .int .i64 (Opt.next l i)), (15, .int .i64 (Opt.nextErr l i)), (16, .int .i64 (Opt.bound misses room least)), (17, .int .i64 (Opt.boundErr misses room least)), (18, .int .i64 w), (20, .int .i64 u), (21, .slice agone gone.length cgone), (22, .int .i64 many), (23, .int .i64 next_)] [loose tInt (False) Sgone agone cgone gone, own tInt S1 a3 c4 ((Opt.ev l room).1), base w0]
  refine q_then ?_
  refine c_seq ?_
  refine c_region ?_
  refine o_pure (p_assign (v := .int .i64 0) rfl) rfl rfl rfl ?_
  refine o_pure (p_assign (v := .int .i64 0) rfl) rfl rfl rfl ?_
  refine o_nil ?_
  refine q_then ?_
  refine c_seq ?_
  refine c_seq ?_
  refine c_region ?_
  refine o_pure (p_move (v := .int .i64 misses) rfl) rfl rfl rfl ?_
  refine o_pure (p_lt (p := misses) (q := 0) rfl rfl) rfl rfl rfl ?_
  refine o_pure (p_move (v := .bool (decide (misses < 0))) rfl) rfl rfl rfl ?_
  refine o_or (p := 90) 3 (decide (200 < misses)) ?_ ?_ ?_
  · intro hb23 hk
    simp only [decide_eq_false_iff_not, Int.not_lt] at hb23
    refine o_unguard 87 rfl rfl ?_
    refine o_pure (p_move (v := .int .i64 misses) rfl) rfl rfl rfl ?_
    refine o_unguard 87 rfl rfl ?_
    refine o_pure (p_gt (p := misses) (q := 200) rfl rfl) rfl rfl rfl ?_
    refine o_pure (p_pick_false (v := .bool (decide (200 < misses))) rfl rfl) rfl rfl rfl ?_
    exact o_sub (Sub.cons rfl (Sub.skip rfl (Sub.skip rfl (Sub.skip rfl (Sub.skip rfl (Sub.refl _)))))) hk
  · intro hb23 hk
    refine o_guard_no rfl 87 rfl rfl rfl rfl rfl ?_
    refine o_guard_no rfl 87 rfl rfl rfl rfl rfl ?_
    refine o_pure (p_pick_true (u := .bool true) rfl rfl) rfl rfl rfl ?_
    exact o_sub (Sub.cons rfl (Sub.skip rfl (Sub.skip rfl (Sub.skip rfl (Sub.skip rfl (Sub.refl _)))))) hk
  refine o_pure (p_move (v := .bool (decide (misses < 0) || decide (200 < misses))) rfl) rfl rfl rfl ?_
  refine o_or (p := 94) 3 (decide (room < 1)) ?_ ?_ ?_
  · intro hb24 hk
    simp only [Bool.or_eq_false_iff, decide_eq_false_iff_not, Int.not_lt] at hb24
    refine o_unguard 91 rfl rfl ?_
    refine o_pure (p_move (v := .int .i64 room) rfl) rfl rfl rfl ?_
    refine o_unguard 91 rfl rfl ?_
    refine o_pure (p_lt (p := room) (q := 1) rfl rfl) rfl rfl rfl ?_
    refine o_pure (p_pick_false (v := .bool (decide (room < 1))) rfl rfl) rfl rfl rfl ?_
    exact o_sub (Sub.cons rfl (Sub.skip rfl (Sub.skip rfl (Sub.skip rfl (Sub.skip rfl (Sub.refl _)))))) hk
  · intro hb24 hk
    refine o_guard_no rfl 91 rfl rfl rfl rfl rfl ?_
    refine o_guard_no rfl 91 rfl rfl rfl rfl rfl ?_
    refine o_pure (p_pick_true (u := .bool true) rfl rfl) rfl rfl rfl ?_
    exact o_sub (Sub.cons rfl (Sub.skip rfl (Sub.skip rfl (Sub.skip rfl (Sub.skip rfl (Sub.refl _)))))) hk
  refine o_pure (p_move (v := .bool ((decide (misses < 0) || decide (200 < misses)) || decide (room < 1))) rfl) rfl rfl rfl ?_
  refine o_or (p := 98) 3 (decide (40 < room)) ?_ ?_ ?_
  · intro hb25 hk
    simp only [Bool.or_eq_false_iff, decide_eq_false_iff_not, Int.not_lt] at hb25
    refine o_unguard 95 rfl rfl ?_
    refine o_pure (p_move (v := .int .i64 room) rfl) rfl rfl rfl ?_
    refine o_unguard 95 rfl rfl ?_
    refine o_pure (p_gt (p := room) (q := 40) rfl rfl) rfl rfl rfl ?_
    refine o_pure (p_pick_false (v := .bool (decide (40 < room))) rfl rfl) rfl rfl rfl ?_
    exact o_sub (Sub.cons rfl (Sub.skip rfl (Sub.skip rfl (Sub.skip rfl (Sub.skip rfl (Sub.refl _)))))) hk
  · intro hb25 hk
    refine o_guard_no rfl 95 rfl rfl rfl rfl rfl ?_
    refine o_guard_no rfl 95 rfl rfl rfl rfl rfl ?_
    refine o_pure (p_pick_true (u := .bool true) rfl rfl) rfl rfl rfl ?_
    exact o_sub (Sub.cons rfl (Sub.skip rfl (Sub.skip rfl (Sub.skip rfl (Sub.skip rfl (Sub.refl _)))))) hk
  refine o_pure (p_move (v := .bool (((decide (misses < 0) || decide (200 < misses)) || decide (room < 1)) || decide (40 < room))) rfl) rfl rfl rfl ?_
  refine o_or (p := 102) 3 (decide (least < 1)) ?_ ?_ ?_
  · intro hb26 hk
    simp only [Bool.or_eq_false_iff, decide_eq_false_iff_not, Int.not_lt] at hb26
    refine o_unguard 99 rfl rfl ?_
    refine o_pure (p_move (v := .int .i64 least) rfl) rfl rfl rfl ?_
    refine o_unguard 99 rfl rfl ?_
    refine o_pure (p_lt (p := least) (q := 1) rfl rfl) rfl rfl rfl ?_
    refine o_pure (p_pick_false (v := .bool (decide (least < 1))) rfl rfl) rfl rfl rfl ?_
    exact o_sub (Sub.cons rfl (Sub.skip rfl (Sub.skip rfl (Sub.skip rfl (Sub.skip rfl (Sub.refl _)))))) hk
  · intro hb26 hk
    refine o_guard_no rfl 99 rfl rfl rfl rfl rfl ?_
    refine o_guard_no rfl 99 rfl rfl rfl rfl rfl ?_
    refine o_pure (p_pick_true (u := .bool true) rfl rfl) rfl rfl rfl ?_
    exact o_sub (Sub.cons rfl (Sub.skip rfl (Sub.skip rfl (Sub.skip rfl (Sub.skip rfl (Sub.refl _)))))) hk
  refine o_pure (p_move (v := .bool ((((decide (misses < 0) || decide (200 < misses)) || decide (room < 1)) || decide (40 < room)) || decide (least < 1))) rfl) rfl rfl rfl ?_
  refine o_or (p := 106) 3 (decide (40 < least)) ?_ ?_ ?_
  · intro hb27 hk
    simp only [Bool.or_eq_false_iff, decide_eq_false_iff_not, Int.not_lt] at hb27
    refine o_unguard 103 rfl rfl ?_
    refine o_pure (p_move (v := .int .i64 least) rfl) rfl rfl rfl ?_
    refine o_unguard 103 rfl rfl ?_
    refine o_pure (p_gt (p := least) (q := 40) rfl rfl) rfl rfl rfl ?_
    refine o_pure (p_pick_false (v := .bool (decide (40 < least))) rfl rfl) rfl rfl rfl ?_
    exact o_sub (Sub.cons rfl (Sub.skip rfl (Sub.skip rfl (Sub.skip rfl (Sub.skip rfl (Sub.refl _)))))) hk
  · intro hb27 hk
    refine o_guard_no rfl 103 rfl rfl rfl rfl rfl ?_
    refine o_guard_no rfl 103 rfl rfl rfl rfl rfl ?_
    refine o_pure (p_pick_true (u := .bool true) rfl rfl) rfl rfl rfl ?_
    exact o_sub (Sub.cons rfl (Sub.skip rfl (Sub.skip rfl (Sub.skip rfl (Sub.skip rfl (Sub.refl _)))))) hk
  refine o_nil ?_
  refine q_then ?_
  refine c_join (G := Int × Int)
    (fun ⟨o, bound⟩ => [(11, .slice a3 ((Opt.ev l room).1).length c4), (12, .int .i64 ((Opt.ev l room).2)), (13, .int .i64 (Opt.evErr l room)), (14, .int .i64 (Opt.next l i)), (15, .int .i64 (Opt.nextErr l i)), (16, .int .i64 (Opt.bound misses room least)), (17, .int .i64 (Opt.boundErr misses room least)), (18, .int .i64 w), (20, .int .i64 u), (21, .slice agone gone.length cgone), (22, .int .i64 many), (23, .int .i64 next_), (24, .int .i64 o), (25, .int .i64 bound)])
    (fun ⟨o, bound⟩ => [loose tInt (False) Sgone agone cgone gone, own tInt S1 a3 c4 ((Opt.ev l room).1), base w0])
    (fun ⟨o, bound⟩ => o = Opt.boundErr misses room least ∧ bound = Opt.bound misses room least)
    (fun K hK28 => ?_) ?_
  · refine c_cond (b := (((((decide (misses < 0) || decide (200 < misses)) || decide (room < 1)) || decide (40 < room)) || decide (least < 1)) || decide (40 < least))) rfl (fun hc29 => ?_) (fun hc29 => ?_)
    · simp only [Bool.or_eq_true, decide_eq_true_eq] at hc29
      have hjc := hc29
      refine c_region ?_
      refine o_pure (p_assign (v := .int .i64 3) rfl) rfl rfl rfl ?_
      refine o_nil ?_
      refine q_join hK28 (3, 0) ?_ (Sub.cons rfl (Sub.cons rfl (Sub.cons rfl (Sub.cons rfl (Sub.cons rfl (Sub.cons rfl (Sub.cons rfl (Sub.cons rfl (Sub.cons rfl (Sub.cons rfl (Sub.cons rfl (Sub.cons rfl (Sub.cons rfl (Sub.cons rfl (Sub.nil _))))))))))))))) (fun _ hw => HeapIs.pick hw [0, 1, 2] (by decide) rfl)
      clear hK28
      first | exact Opt.jb1 hjc | exact Opt.jb2 hjc (by assumption) | exact hdn
    · simp only [Bool.or_eq_false_iff, decide_eq_false_iff_not, Int.not_lt] at hc29
      have hjc := hc29
      refine c_seq ?_
      refine c_region ?_
      refine o_pure (p_move (v := .int .i64 least) rfl) rfl rfl rfl ?_
      refine o_pure (p_move (v := .int .i64 room) rfl) rfl rfl rfl ?_
      refine o_pure (p_gt (p := least) (q := room) rfl rfl) rfl rfl rfl ?_
      refine o_nil ?_
      refine q_then ?_
      refine c_cond (b := decide (room < least)) rfl (fun hc30 => ?_) (fun hc30 => ?_)
      · simp only [decide_eq_true_eq] at hc30
        refine c_region ?_
        refine o_pure (p_assign (v := .int .i64 4) rfl) rfl rfl rfl ?_
        refine o_nil ?_
        refine q_join hK28 (4, 0) ?_ (Sub.cons rfl (Sub.cons rfl (Sub.cons rfl (Sub.cons rfl (Sub.cons rfl (Sub.cons rfl (Sub.cons rfl (Sub.cons rfl (Sub.cons rfl (Sub.cons rfl (Sub.cons rfl (Sub.cons rfl (Sub.cons rfl (Sub.cons rfl (Sub.nil _))))))))))))))) (fun _ hw => HeapIs.pick hw [0, 1, 2] (by decide) rfl)
        clear hK28
        first | exact Opt.jb1 hjc | exact Opt.jb2 hjc (by assumption) | exact hdn
      · simp only [decide_eq_false_iff_not, Int.not_lt] at hc30
        refine c_seq ?_
        refine c_region ?_
        refine o_pure (p_move (v := .int .i64 room) rfl) rfl rfl rfl ?_
        refine o_pure (p_assign (v := .int .i64 room) rfl) rfl rfl rfl ?_
        refine o_nil ?_
        refine q_then ?_
        refine c_block ?_
        refine c_loop (St := Int)
          (fun bound => [(1, .int .i64 room), (3, .int .i64 misses), (4, .int .i64 least), (11, .slice a3 ((Opt.ev l room).1).length c4), (12, .int .i64 ((Opt.ev l room).2)), (13, .int .i64 (Opt.evErr l room)), (14, .int .i64 (Opt.next l i)), (15, .int .i64 (Opt.nextErr l i)), (16, .int .i64 (Opt.bound misses room least)), (17, .int .i64 (Opt.boundErr misses room least)), (18, .int .i64 w), (20, .int .i64 u), (21, .slice agone gone.length cgone), (22, .int .i64 many), (23, .int .i64 next_), (24, .int .i64 0), (25, .int .i64 bound)])
          (fun bound => [loose tInt (False) Sgone agone cgone gone, own tInt S1 a3 c4 ((Opt.ev l room).1), base w0])
          (fun bound => Opt.QI misses room least bound)
          (fun bound => (8000 - (bound - room)).toNat)
          room ?_ (Sub.cons rfl (Sub.cons rfl (Sub.cons rfl (Sub.cons rfl (Sub.cons rfl (Sub.cons rfl (Sub.cons rfl (Sub.cons rfl (Sub.cons rfl (Sub.cons rfl (Sub.cons rfl (Sub.cons rfl (Sub.cons rfl (Sub.cons rfl (Sub.cons rfl (Sub.cons rfl (Sub.cons rfl (Sub.nil _)))))))))))))))))) (fun _ hw => hw) ?_
        · exact Opt.QI.start (by omega) (by omega) (by omega) (by assumption)
        rintro bound hI K hK31
        show SC _ _ Try.prog 162 w0 _ _ [(1, .int .i64 room), (3, .int .i64 misses), (4, .int .i64 least), (11, .slice a3 ((Opt.ev l room).1).length c4), (12, .int .i64 ((Opt.ev l room).2)), (13, .int .i64 (Opt.evErr l room)), (14, .int .i64 (Opt.next l i)), (15, .int .i64 (Opt.nextErr l i)), (16, .int .i64 (Opt.bound misses room least)), (17, .int .i64 (Opt.boundErr misses room least)), (18, .int .i64 w), (20, .int .i64 u), (21, .slice agone gone.length cgone), (22, .int .i64 many), (23, .int .i64 next_), (24, .int .i64 0), (25, .int .i64 bound)] [loose tInt (False) Sgone agone cgone gone, own tInt S1 a3 c4 ((Opt.ev l room).1), base w0]
        refine c_seq ?_
        refine c_seq ?_
        refine c_region ?_
        refine o_pure (p_move (v := .int .i64 bound) rfl) rfl rfl rfl ?_
        refine o_pure (p_move (v := .int .i64 room) rfl) rfl rfl rfl ?_
        refine o_pure (p_subb (p := bound) (q := room) rfl rfl (by have hq := hI.bd; have hq2 := hI.lo; omega)) rfl rfl rfl ?_
        refine o_pure (p_addb (p := (bound - room)) (q := 1) rfl rfl (by have hq := hI.bd; have hq2 := hI.lo; omega)) rfl rfl rfl ?_
        refine o_pure (p_move (v := .int .i64 room) rfl) rfl rfl rfl ?_
        refine o_pure (p_move (v := .int .i64 least) rfl) rfl rfl rfl ?_
        refine o_pure (p_subb (p := room) (q := least) rfl rfl (by omega)) rfl rfl rfl ?_
        refine o_pure (p_addb (p := (room - least)) (q := 1) rfl rfl (by omega)) rfl rfl rfl ?_
        refine o_pure (p_mulb (p := ((bound - room) + 1)) (q := ((room - least) + 1)) rfl rfl (by have hq := hI.bd; omega)) rfl rfl rfl ?_
        refine o_pure (p_move (v := .int .i64 room) rfl) rfl rfl rfl ?_
        refine o_pure (p_move (v := .int .i64 misses) rfl) rfl rfl rfl ?_
        refine o_pure (p_mulb (p := room) (q := misses) rfl rfl (by have hq := hI.rm; omega)) rfl rfl rfl ?_
        refine o_pure (p_le (p := (((bound - room) + 1) * ((room - least) + 1))) (q := (room * misses)) rfl rfl) rfl rfl rfl ?_
        refine o_nil ?_
        refine q_then ?_
        refine c_cond (b := decide ((((bound - room) + 1) * ((room - least) + 1)) ≤ (room * misses))) rfl (fun hc32 => ?_) (fun hc32 => ?_)
        · simp only [decide_eq_true_eq] at hc32
          refine c_skip ?_
          refine q_then ?_
          refine c_seq ?_
          refine c_block ?_
          refine c_skip ?_
          refine q_block_normal (q_then ?_)
          refine c_region ?_
          refine o_pure (p_move (v := .int .i64 bound) rfl) rfl rfl rfl ?_
          refine o_pure (p_addb (p := bound) (q := 1) rfl rfl (by have hq := hI.bd; have hq2 := hI.lo; omega)) rfl rfl rfl ?_
          refine o_pure (p_assign (v := .int .i64 (bound + 1)) rfl) rfl rfl rfl ?_
          refine o_nil ?_
          refine q_round hK31 (bound + 1) ?_ ?_ ?_ ?_
          · clear hK31
            exact hI.next (by assumption)
          · (try dsimp only); have hq := hI.lt (by assumption); omega
          · exact Sub.cons rfl (Sub.cons rfl (Sub.cons rfl (Sub.cons rfl (Sub.cons rfl (Sub.cons rfl (Sub.cons rfl (Sub.cons rfl (Sub.cons rfl (Sub.cons rfl (Sub.cons rfl (Sub.cons rfl (Sub.cons rfl (Sub.cons rfl (Sub.cons rfl (Sub.cons rfl (Sub.cons rfl (Sub.nil _)))))))))))))))))
          · exact fun _ hw => HeapIs.pick hw [0, 1, 2] (by decide) rfl
        · simp only [decide_eq_false_iff_not, Int.not_le] at hc32
          have hdn := hI.done hc32
          refine c_exit ?_
          refine q_then_exit (q_then_exit (q_block_exit ?_))
          refine q_join hK28 (0, bound) ?_ (Sub.cons rfl (Sub.cons rfl (Sub.cons rfl (Sub.cons rfl (Sub.cons rfl (Sub.cons rfl (Sub.cons rfl (Sub.cons rfl (Sub.cons rfl (Sub.cons rfl (Sub.cons rfl (Sub.cons rfl (Sub.cons rfl (Sub.cons rfl (Sub.nil _))))))))))))))) (fun _ hw => HeapIs.pick hw [0, 1, 2] (by decide) rfl)
          clear hK28
          first | exact Opt.jb1 hjc | exact Opt.jb2 hjc (by assumption) | exact hdn
  rintro ⟨o, bound⟩ hj4
  show SQ _ 162 w0 _ _ [(11, .slice a3 ((Opt.ev l room).1).length c4), (12, .int .i64 ((Opt.ev l room).2)), (13, .int .i64 (Opt.evErr l room)), (14, .int .i64 (Opt.next l i)), (15, .int .i64 (Opt.nextErr l i)), (16, .int .i64 (Opt.bound misses room least)), (17, .int .i64 (Opt.boundErr misses room least)), (18, .int .i64 w), (20, .int .i64 u), (21, .slice agone gone.length cgone), (22, .int .i64 many), (23, .int .i64 next_), (24, .int .i64 o), (25, .int .i64 bound)] [loose tInt (False) Sgone agone cgone gone, own tInt S1 a3 c4 ((Opt.ev l room).1), base w0]
  refine q_then ?_
  refine c_seq ?_
  refine c_region ?_
  refine o_call0 (v := .bool true) rfl (bestBegun_ok ) hf43 (fun _ _ => trivial) rfl ?_
  refine o_pure (p_move (v := .bool true) rfl) rfl rfl rfl ?_
  refine o_unguard 127 rfl rfl ?_
  refine o_pure (p_move (v := .slice a3 ((Opt.ev l room).1).length c4) rfl) rfl rfl rfl ?_
  refine o_unguard 127 rfl rfl ?_
  refine o_pure (p_move (v := .slice agone gone.length cgone) rfl) rfl rfl rfl ?_
  refine o_unguard 127 rfl rfl ?_
  refine o_call0 (v := .bool (Ref.sameInts ((Opt.ev l room).1) gone)) rfl (sameInts_ok ((Opt.ev l room).1) a3 c4 gone agone cgone) hf26 (fun w hw => ⟨(rd_own (i := 1) rfl) w hw, (rd_loose (i := 0) rfl (fun hφ => hφ.elim)) w hw⟩) rfl ?_
  refine o_pure (p_pick_true (u := .bool (Ref.sameInts ((Opt.ev l room).1) gone)) rfl rfl) rfl rfl rfl ?_
  refine o_pure (p_move (v := .bool (Ref.sameInts ((Opt.ev l room).1) gone)) rfl) rfl rfl rfl ?_
  refine o_and (p := 136) 4 (((Opt.ev l room).2) == many) ?_ ?_ ?_
  · intro hb33 hk
    skip
    refine o_unguard 132 rfl rfl ?_
    refine o_pure (p_move (v := .int .i64 ((Opt.ev l room).2)) rfl) rfl rfl rfl ?_
    refine o_unguard 132 rfl rfl ?_
    refine o_pure (p_move (v := .int .i64 many) rfl) rfl rfl rfl ?_
    refine o_unguard 132 rfl rfl ?_
    refine o_pure (p_eq (p := ((Opt.ev l room).2)) (q := many) rfl rfl) rfl rfl rfl ?_
    refine o_pure (p_pick_true (u := .bool (((Opt.ev l room).2) == many)) rfl rfl) rfl rfl rfl ?_
    exact o_sub (Sub.cons rfl (Sub.skip rfl (Sub.skip rfl (Sub.skip rfl (Sub.skip rfl (Sub.skip rfl (Sub.refl _))))))) hk
  · intro hb33 hk
    refine o_guard_no rfl 132 rfl rfl rfl rfl rfl ?_
    refine o_guard_no rfl 132 rfl rfl rfl rfl rfl ?_
    refine o_guard_no rfl 132 rfl rfl rfl rfl rfl ?_
    refine o_pure (p_pick_false (v := .bool false) rfl rfl) rfl rfl rfl ?_
    exact o_sub (Sub.cons rfl (Sub.skip rfl (Sub.skip rfl (Sub.skip rfl (Sub.skip rfl (Sub.skip rfl (Sub.refl _))))))) hk
  refine o_pure (p_move (v := .bool ((Ref.sameInts ((Opt.ev l room).1) gone) && (((Opt.ev l room).2) == many))) rfl) rfl rfl rfl ?_
  refine o_and (p := 141) 4 ((Opt.evErr l room) == w) ?_ ?_ ?_
  · intro hb34 hk
    simp only [Bool.and_eq_true, beq_iff_eq] at hb34
    refine o_unguard 137 rfl rfl ?_
    refine o_pure (p_move (v := .int .i64 (Opt.evErr l room)) rfl) rfl rfl rfl ?_
    refine o_unguard 137 rfl rfl ?_
    refine o_pure (p_move (v := .int .i64 w) rfl) rfl rfl rfl ?_
    refine o_unguard 137 rfl rfl ?_
    refine o_pure (p_eq (p := (Opt.evErr l room)) (q := w) rfl rfl) rfl rfl rfl ?_
    refine o_pure (p_pick_true (u := .bool ((Opt.evErr l room) == w)) rfl rfl) rfl rfl rfl ?_
    exact o_sub (Sub.cons rfl (Sub.skip rfl (Sub.skip rfl (Sub.skip rfl (Sub.skip rfl (Sub.skip rfl (Sub.refl _))))))) hk
  · intro hb34 hk
    refine o_guard_no rfl 137 rfl rfl rfl rfl rfl ?_
    refine o_guard_no rfl 137 rfl rfl rfl rfl rfl ?_
    refine o_guard_no rfl 137 rfl rfl rfl rfl rfl ?_
    refine o_pure (p_pick_false (v := .bool false) rfl rfl) rfl rfl rfl ?_
    exact o_sub (Sub.cons rfl (Sub.skip rfl (Sub.skip rfl (Sub.skip rfl (Sub.skip rfl (Sub.skip rfl (Sub.refl _))))))) hk
  refine o_pure (p_move (v := .bool (((Ref.sameInts ((Opt.ev l room).1) gone) && (((Opt.ev l room).2) == many)) && ((Opt.evErr l room) == w))) rfl) rfl rfl rfl ?_
  refine o_and (p := 146) 4 ((Opt.next l i) == next_) ?_ ?_ ?_
  · intro hb35 hk
    simp only [Bool.and_eq_true, beq_iff_eq] at hb35
    refine o_unguard 142 rfl rfl ?_
    refine o_pure (p_move (v := .int .i64 (Opt.next l i)) rfl) rfl rfl rfl ?_
    refine o_unguard 142 rfl rfl ?_
    refine o_pure (p_move (v := .int .i64 next_) rfl) rfl rfl rfl ?_
    refine o_unguard 142 rfl rfl ?_
    refine o_pure (p_eq (p := (Opt.next l i)) (q := next_) rfl rfl) rfl rfl rfl ?_
    refine o_pure (p_pick_true (u := .bool ((Opt.next l i) == next_)) rfl rfl) rfl rfl rfl ?_
    exact o_sub (Sub.cons rfl (Sub.skip rfl (Sub.skip rfl (Sub.skip rfl (Sub.skip rfl (Sub.skip rfl (Sub.refl _))))))) hk
  · intro hb35 hk
    refine o_guard_no rfl 142 rfl rfl rfl rfl rfl ?_
    refine o_guard_no rfl 142 rfl rfl rfl rfl rfl ?_
    refine o_guard_no rfl 142 rfl rfl rfl rfl rfl ?_
    refine o_pure (p_pick_false (v := .bool false) rfl rfl) rfl rfl rfl ?_
    exact o_sub (Sub.cons rfl (Sub.skip rfl (Sub.skip rfl (Sub.skip rfl (Sub.skip rfl (Sub.skip rfl (Sub.refl _))))))) hk
  refine o_pure (p_move (v := .bool ((((Ref.sameInts ((Opt.ev l room).1) gone) && (((Opt.ev l room).2) == many)) && ((Opt.evErr l room) == w)) && ((Opt.next l i) == next_))) rfl) rfl rfl rfl ?_
  refine o_and (p := 151) 4 ((Opt.nextErr l i) == u) ?_ ?_ ?_
  · intro hb36 hk
    simp only [Bool.and_eq_true, beq_iff_eq] at hb36
    refine o_unguard 147 rfl rfl ?_
    refine o_pure (p_move (v := .int .i64 (Opt.nextErr l i)) rfl) rfl rfl rfl ?_
    refine o_unguard 147 rfl rfl ?_
    refine o_pure (p_move (v := .int .i64 u) rfl) rfl rfl rfl ?_
    refine o_unguard 147 rfl rfl ?_
    refine o_pure (p_eq (p := (Opt.nextErr l i)) (q := u) rfl rfl) rfl rfl rfl ?_
    refine o_pure (p_pick_true (u := .bool ((Opt.nextErr l i) == u)) rfl rfl) rfl rfl rfl ?_
    exact o_sub (Sub.cons rfl (Sub.skip rfl (Sub.skip rfl (Sub.skip rfl (Sub.skip rfl (Sub.skip rfl (Sub.refl _))))))) hk
  · intro hb36 hk
    refine o_guard_no rfl 147 rfl rfl rfl rfl rfl ?_
    refine o_guard_no rfl 147 rfl rfl rfl rfl rfl ?_
    refine o_guard_no rfl 147 rfl rfl rfl rfl rfl ?_
    refine o_pure (p_pick_false (v := .bool false) rfl rfl) rfl rfl rfl ?_
    exact o_sub (Sub.cons rfl (Sub.skip rfl (Sub.skip rfl (Sub.skip rfl (Sub.skip rfl (Sub.skip rfl (Sub.refl _))))))) hk
  refine o_pure (p_move (v := .bool (((((Ref.sameInts ((Opt.ev l room).1) gone) && (((Opt.ev l room).2) == many)) && ((Opt.evErr l room) == w)) && ((Opt.next l i) == next_)) && ((Opt.nextErr l i) == u))) rfl) rfl rfl rfl ?_
  refine o_and (p := 156) 4 ((Opt.bound misses room least) == bound) ?_ ?_ ?_
  · intro hb37 hk
    simp only [Bool.and_eq_true, beq_iff_eq] at hb37
    refine o_unguard 152 rfl rfl ?_
    refine o_pure (p_move (v := .int .i64 (Opt.bound misses room least)) rfl) rfl rfl rfl ?_
    refine o_unguard 152 rfl rfl ?_
    refine o_pure (p_move (v := .int .i64 bound) rfl) rfl rfl rfl ?_
    refine o_unguard 152 rfl rfl ?_
    refine o_pure (p_eq (p := (Opt.bound misses room least)) (q := bound) rfl rfl) rfl rfl rfl ?_
    refine o_pure (p_pick_true (u := .bool ((Opt.bound misses room least) == bound)) rfl rfl) rfl rfl rfl ?_
    exact o_sub (Sub.cons rfl (Sub.skip rfl (Sub.skip rfl (Sub.skip rfl (Sub.skip rfl (Sub.skip rfl (Sub.refl _))))))) hk
  · intro hb37 hk
    refine o_guard_no rfl 152 rfl rfl rfl rfl rfl ?_
    refine o_guard_no rfl 152 rfl rfl rfl rfl rfl ?_
    refine o_guard_no rfl 152 rfl rfl rfl rfl rfl ?_
    refine o_pure (p_pick_false (v := .bool false) rfl rfl) rfl rfl rfl ?_
    exact o_sub (Sub.cons rfl (Sub.skip rfl (Sub.skip rfl (Sub.skip rfl (Sub.skip rfl (Sub.skip rfl (Sub.refl _))))))) hk
  refine o_pure (p_move (v := .bool ((((((Ref.sameInts ((Opt.ev l room).1) gone) && (((Opt.ev l room).2) == many)) && ((Opt.evErr l room) == w)) && ((Opt.next l i) == next_)) && ((Opt.nextErr l i) == u)) && ((Opt.bound misses room least) == bound))) rfl) rfl rfl rfl ?_
  refine o_and (p := 161) 4 ((Opt.boundErr misses room least) == o) ?_ ?_ ?_
  · intro hb38 hk
    simp only [Bool.and_eq_true, beq_iff_eq] at hb38
    refine o_unguard 157 rfl rfl ?_
    refine o_pure (p_move (v := .int .i64 (Opt.boundErr misses room least)) rfl) rfl rfl rfl ?_
    refine o_unguard 157 rfl rfl ?_
    refine o_pure (p_move (v := .int .i64 o) rfl) rfl rfl rfl ?_
    refine o_unguard 157 rfl rfl ?_
    refine o_pure (p_eq (p := (Opt.boundErr misses room least)) (q := o) rfl rfl) rfl rfl rfl ?_
    refine o_pure (p_pick_true (u := .bool ((Opt.boundErr misses room least) == o)) rfl rfl) rfl rfl rfl ?_
    exact o_sub (Sub.cons rfl (Sub.skip rfl (Sub.skip rfl (Sub.skip rfl (Sub.skip rfl (Sub.skip rfl (Sub.refl _))))))) hk
  · intro hb38 hk
    refine o_guard_no rfl 157 rfl rfl rfl rfl rfl ?_
    refine o_guard_no rfl 157 rfl rfl rfl rfl rfl ?_
    refine o_guard_no rfl 157 rfl rfl rfl rfl rfl ?_
    refine o_pure (p_pick_false (v := .bool false) rfl rfl) rfl rfl rfl ?_
    exact o_sub (Sub.cons rfl (Sub.skip rfl (Sub.skip rfl (Sub.skip rfl (Sub.skip rfl (Sub.skip rfl (Sub.refl _))))))) hk
  refine o_pure (p_assign (v := .bool (((((((Ref.sameInts ((Opt.ev l room).1) gone) && (((Opt.ev l room).2) == many)) && ((Opt.evErr l room) == w)) && ((Opt.next l i) == next_)) && ((Opt.nextErr l i) == u)) && ((Opt.bound misses room least) == bound)) && ((Opt.boundErr misses room least) == o))) rfl) rfl rfl rfl ?_
  refine o_nil ?_
  refine q_then ?_
  refine c_ret ?_
  have hr0 : ((((((((Ref.sameInts ((Opt.ev l room).1) gone) && (((Opt.ev l room).2) == many)) && ((Opt.evErr l room) == w)) && ((Opt.next l i) == next_)) && ((Opt.nextErr l i) == u)) && ((Opt.bound misses room least) == bound)) && ((Opt.boundErr misses room least) == o)) : Bool) = true := by
    obtain ⟨rfl, rfl⟩ := hj2; obtain ⟨rfl, rfl⟩ := hj3; obtain ⟨rfl, rfl⟩ := hj4; subst hj1; simp [Ref.sameInts]
  refine q_end0 (v := .bool (((((((Ref.sameInts ((Opt.ev l room).1) gone) && (((Opt.ev l room).2) == many)) && ((Opt.evErr l room) == w)) && ((Opt.next l i) == next_)) && ((Opt.nextErr l i) == u)) && ((Opt.bound misses room least) == bound)) && ((Opt.boundErr misses room least) == o))) (rt1 rfl (r_tmp rfl)) (i := 2) rfl ?_
  exact (by have hcc := congrArg (fun (y0 : Bool) => (.bool y0 : Value)) hr0; exact hcc)
end Go.Proofs.Ytgjdmnljnimamaa
