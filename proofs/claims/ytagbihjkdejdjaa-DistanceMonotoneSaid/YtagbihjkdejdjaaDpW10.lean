/- The walks, printed by a program from the translation and a specification. -/
import Derived.Test.YtagbihjkdejdjaaDpF
import Derived.Test.YtagbihjkdejdjaaDpLaw3
import Derived.Test.YtagbihjkdejdjaaDpW8
namespace Go.Proofs.Ytagbihjkdejdjaa
open Go.Sx Go.RowKit
set_option maxHeartbeats 8000000 in
set_option maxRecDepth 100000 in
theorem distanceMonotone_ok (l : List Int) (al : Option Addr) (cl : Nat) (a : Int) (b : Int) : Fn0 Try.prog 9 [.slice al l.length cl, .int .i64 a, .int .i64 b] (fun w => Rd tInt w al cl l) (.bool true) := by
  refine fn0 (nt := 169) (F0 := [(0, .slice al l.length cl), (1, .int .i64 a), (2, .int .i64 b)]) Try.func9 rfl Try.ntmps9 rfl rfl (fun w0 hpre => ?_)
  have hl := hpre
  have hlhl := hl.2.1
  refine c_seq ?_
  refine c_region ?_
  refine o_pure (p_assign (v := .bool false) rfl) rfl rfl rfl ?_
  refine o_nil ?_
  refine q_then ?_
  refine c_seq ?_
  refine c_region ?_
  refine o_pure (p_move (v := .slice al l.length cl) rfl) rfl rfl rfl ?_
  refine o_callM rfl (dHits_ok l al cl) hf30 (fun w hw => (rd_base (i := 0) rfl hl) w hw) rfl (fun _ _ _ _ ha hA => SlO.agree ha hA) ?_
  rintro ⟨a3, c4⟩ S1
  refine o_know (fun w hw => own_len (i := 0) (T := tInt) hw rfl) (fun hlr5 => ?_)
  refine o_pure (p_move (v := .tuple #[.slice a3 (Deep.hitsR l).length c4, .int .i64 (Lru.trace l)]) rfl) rfl rfl rfl ?_
  refine o_pure (p_extract (vs := [.slice a3 (Deep.hitsR l).length c4, .int .i64 (Lru.trace l)]) (v := .slice a3 (Deep.hitsR l).length c4) rfl rfl) rfl rfl rfl ?_
  refine o_pure (p_extract (vs := [.slice a3 (Deep.hitsR l).length c4, .int .i64 (Lru.trace l)]) (v := .int .i64 (Lru.trace l)) rfl rfl) rfl rfl rfl ?_
  refine o_pure (p_assign (v := .slice a3 (Deep.hitsR l).length c4) rfl) rfl rfl rfl ?_
  refine o_pure (p_assign (v := .int .i64 (Lru.trace l)) rfl) rfl rfl rfl ?_
  refine o_nil ?_
  refine q_then ?_
  refine c_seq ?_
  refine c_region ?_
  refine o_pure (p_move (v := .slice al l.length cl) rfl) rfl rfl rfl ?_
  refine o_callM rfl (dMisses_ok l al cl) hf31 (fun w hw => (rd_base (i := 1) rfl hl) w hw) rfl (fun _ _ _ _ ha hA => SlO.agree ha hA) ?_
  rintro ⟨a8, c9⟩ S6
  refine o_know (fun w hw => own_len (i := 0) (T := tInt) hw rfl) (fun hlr10 => ?_)
  refine o_pure (p_move (v := .tuple #[.slice a8 (Deep.misses l).length c9, .int .i64 (Lru.trace l)]) rfl) rfl rfl rfl ?_
  refine o_pure (p_extract (vs := [.slice a8 (Deep.misses l).length c9, .int .i64 (Lru.trace l)]) (v := .slice a8 (Deep.misses l).length c9) rfl rfl) rfl rfl rfl ?_
  refine o_pure (p_extract (vs := [.slice a8 (Deep.misses l).length c9, .int .i64 (Lru.trace l)]) (v := .int .i64 (Lru.trace l)) rfl rfl) rfl rfl rfl ?_
  refine o_pure (p_assign (v := .slice a8 (Deep.misses l).length c9) rfl) rfl rfl rfl ?_
  refine o_pure (p_assign (v := .int .i64 (Lru.trace l)) rfl) rfl rfl rfl ?_
  refine o_nil ?_
  refine q_then ?_
  refine c_seq ?_
  refine c_region ?_
  refine o_pure (p_move (v := .slice al l.length cl) rfl) rfl rfl rfl ?_
  refine o_pure (p_move (v := .int .i64 a) rfl) rfl rfl rfl ?_
  refine o_call0 (v := .tuple #[.int .i64 (Deep.room l a), .int .i64 (Deep.roomErr l a)]) rfl (dRoom_ok l al cl a) hf32 (fun w hw => (rd_base (i := 2) rfl hl) w hw) rfl ?_
  refine o_pure (p_move (v := .tuple #[.int .i64 (Deep.room l a), .int .i64 (Deep.roomErr l a)]) rfl) rfl rfl rfl ?_
  refine o_pure (p_extract (vs := [.int .i64 (Deep.room l a), .int .i64 (Deep.roomErr l a)]) (v := .int .i64 (Deep.room l a)) rfl rfl) rfl rfl rfl ?_
  refine o_pure (p_extract (vs := [.int .i64 (Deep.room l a), .int .i64 (Deep.roomErr l a)]) (v := .int .i64 (Deep.roomErr l a)) rfl rfl) rfl rfl rfl ?_
  refine o_pure (p_assign (v := .int .i64 (Deep.room l a)) rfl) rfl rfl rfl ?_
  refine o_pure (p_assign (v := .int .i64 (Deep.roomErr l a)) rfl) rfl rfl rfl ?_
  refine o_nil ?_
  refine q_then ?_
  refine c_seq ?_
  refine c_region ?_
  refine o_pure (p_move (v := .slice al l.length cl) rfl) rfl rfl rfl ?_
  refine o_pure (p_move (v := .int .i64 b) rfl) rfl rfl rfl ?_
  refine o_call0 (v := .tuple #[.int .i64 (Deep.room l b), .int .i64 (Deep.roomErr l b)]) rfl (dRoom_ok l al cl b) hf32 (fun w hw => (rd_base (i := 2) rfl hl) w hw) rfl ?_
  refine o_pure (p_move (v := .tuple #[.int .i64 (Deep.room l b), .int .i64 (Deep.roomErr l b)]) rfl) rfl rfl rfl ?_
  refine o_pure (p_extract (vs := [.int .i64 (Deep.room l b), .int .i64 (Deep.roomErr l b)]) (v := .int .i64 (Deep.room l b)) rfl rfl) rfl rfl rfl ?_
  refine o_pure (p_extract (vs := [.int .i64 (Deep.room l b), .int .i64 (Deep.roomErr l b)]) (v := .int .i64 (Deep.roomErr l b)) rfl rfl) rfl rfl rfl ?_
  refine o_pure (p_assign (v := .int .i64 (Deep.room l b)) rfl) rfl rfl rfl ?_
  refine o_pure (p_assign (v := .int .i64 (Deep.roomErr l b)) rfl) rfl rfl rfl ?_
  refine o_nil ?_
  refine q_then ?_
  refine c_seq ?_
  refine c_seq ?_
  refine c_region ?_
  refine o_call0 (v := .bool true) rfl (deepBegun_ok ) hf29 (fun _ _ => trivial) rfl ?_
  refine o_pure (p_not (b := true) rfl) rfl rfl rfl ?_
  refine o_nil ?_
  refine q_then ?_
  refine c_false rfl ?_
  refine c_skip ?_
  refine q_then ?_
  refine c_seq ?_
  refine c_seq ?_
  refine c_region ?_
  refine o_pure (p_move (v := .int .i64 (Lru.trace l)) rfl) rfl rfl rfl ?_
  refine o_pure (p_ne (p := (Lru.trace l)) (q := 0) rfl rfl) rfl rfl rfl ?_
  refine o_nil ?_
  refine q_then ?_
  refine c_cond (b := ((Lru.trace l) != 0)) rfl (fun hc11 => ?_) (fun hc11 => ?_)
  · simp only [bne_iff_ne, ne_eq] at hc11
    refine c_seq ?_
    refine c_region ?_
    refine o_pure (p_move (v := .slice a3 (Deep.hitsR l).length c4) rfl) rfl rfl rfl ?_
    refine o_pure (p_len_slice (len := (Deep.hitsR l).length) rfl rfl Try.underlying25) rfl rfl rfl ?_
    refine o_pure (p_eq (p := ((Deep.hitsR l).length : Int)) (q := 0) rfl rfl) rfl rfl rfl ?_
    refine o_pure (p_move (v := .bool (((Deep.hitsR l).length : Int) == 0)) rfl) rfl rfl rfl ?_
    refine o_and (p := 49) 4 ((Lru.trace l) == (Lru.trace l)) ?_ ?_ ?_
    · intro hb12 hk
      simp only [beq_iff_eq] at hb12
      refine o_unguard 45 rfl rfl ?_
      refine o_pure (p_move (v := .int .i64 (Lru.trace l)) rfl) rfl rfl rfl ?_
      refine o_unguard 45 rfl rfl ?_
      refine o_pure (p_move (v := .int .i64 (Lru.trace l)) rfl) rfl rfl rfl ?_
      refine o_unguard 45 rfl rfl ?_
      refine o_pure (p_eq (p := (Lru.trace l)) (q := (Lru.trace l)) rfl rfl) rfl rfl rfl ?_
      refine o_pure (p_pick_true (u := .bool ((Lru.trace l) == (Lru.trace l))) rfl rfl) rfl rfl rfl ?_
      exact o_sub (Sub.cons rfl (Sub.skip rfl (Sub.skip rfl (Sub.skip rfl (Sub.skip rfl (Sub.skip rfl (Sub.refl _))))))) hk
    · intro hb12 hk
      refine o_guard_no rfl 45 rfl rfl rfl rfl rfl ?_
      refine o_guard_no rfl 45 rfl rfl rfl rfl rfl ?_
      refine o_guard_no rfl 45 rfl rfl rfl rfl rfl ?_
      refine o_pure (p_pick_false (v := .bool false) rfl rfl) rfl rfl rfl ?_
      exact o_sub (Sub.cons rfl (Sub.skip rfl (Sub.skip rfl (Sub.skip rfl (Sub.skip rfl (Sub.skip rfl (Sub.refl _))))))) hk
    refine o_pure (p_move (v := .bool ((((Deep.hitsR l).length : Int) == 0) && ((Lru.trace l) == (Lru.trace l)))) rfl) rfl rfl rfl ?_
    refine o_and (p := 54) 4 ((Deep.roomErr l a) == (Lru.trace l)) ?_ ?_ ?_
    · intro hb13 hk
      simp only [Bool.and_eq_true, beq_iff_eq] at hb13
      refine o_unguard 50 rfl rfl ?_
      refine o_pure (p_move (v := .int .i64 (Deep.roomErr l a)) rfl) rfl rfl rfl ?_
      refine o_unguard 50 rfl rfl ?_
      refine o_pure (p_move (v := .int .i64 (Lru.trace l)) rfl) rfl rfl rfl ?_
      refine o_unguard 50 rfl rfl ?_
      refine o_pure (p_eq (p := (Deep.roomErr l a)) (q := (Lru.trace l)) rfl rfl) rfl rfl rfl ?_
      refine o_pure (p_pick_true (u := .bool ((Deep.roomErr l a) == (Lru.trace l))) rfl rfl) rfl rfl rfl ?_
      exact o_sub (Sub.cons rfl (Sub.skip rfl (Sub.skip rfl (Sub.skip rfl (Sub.skip rfl (Sub.skip rfl (Sub.refl _))))))) hk
    · intro hb13 hk
      refine o_guard_no rfl 50 rfl rfl rfl rfl rfl ?_
      refine o_guard_no rfl 50 rfl rfl rfl rfl rfl ?_
      refine o_guard_no rfl 50 rfl rfl rfl rfl rfl ?_
      refine o_pure (p_pick_false (v := .bool false) rfl rfl) rfl rfl rfl ?_
      exact o_sub (Sub.cons rfl (Sub.skip rfl (Sub.skip rfl (Sub.skip rfl (Sub.skip rfl (Sub.skip rfl (Sub.refl _))))))) hk
    refine o_pure (p_move (v := .bool (((((Deep.hitsR l).length : Int) == 0) && ((Lru.trace l) == (Lru.trace l))) && ((Deep.roomErr l a) == (Lru.trace l)))) rfl) rfl rfl rfl ?_
    refine o_and (p := 59) 4 ((Deep.roomErr l b) == (Lru.trace l)) ?_ ?_ ?_
    · intro hb14 hk
      simp only [Bool.and_eq_true, beq_iff_eq] at hb14
      refine o_unguard 55 rfl rfl ?_
      refine o_pure (p_move (v := .int .i64 (Deep.roomErr l b)) rfl) rfl rfl rfl ?_
      refine o_unguard 55 rfl rfl ?_
      refine o_pure (p_move (v := .int .i64 (Lru.trace l)) rfl) rfl rfl rfl ?_
      refine o_unguard 55 rfl rfl ?_
      refine o_pure (p_eq (p := (Deep.roomErr l b)) (q := (Lru.trace l)) rfl rfl) rfl rfl rfl ?_
      refine o_pure (p_pick_true (u := .bool ((Deep.roomErr l b) == (Lru.trace l))) rfl rfl) rfl rfl rfl ?_
      exact o_sub (Sub.cons rfl (Sub.skip rfl (Sub.skip rfl (Sub.skip rfl (Sub.skip rfl (Sub.skip rfl (Sub.refl _))))))) hk
    · intro hb14 hk
      refine o_guard_no rfl 55 rfl rfl rfl rfl rfl ?_
      refine o_guard_no rfl 55 rfl rfl rfl rfl rfl ?_
      refine o_guard_no rfl 55 rfl rfl rfl rfl rfl ?_
      refine o_pure (p_pick_false (v := .bool false) rfl rfl) rfl rfl rfl ?_
      exact o_sub (Sub.cons rfl (Sub.skip rfl (Sub.skip rfl (Sub.skip rfl (Sub.skip rfl (Sub.skip rfl (Sub.refl _))))))) hk
    refine o_pure (p_assign (v := .bool ((((((Deep.hitsR l).length : Int) == 0) && ((Lru.trace l) == (Lru.trace l))) && ((Deep.roomErr l a) == (Lru.trace l))) && ((Deep.roomErr l b) == (Lru.trace l)))) rfl) rfl rfl rfl ?_
    refine o_nil ?_
    refine q_then ?_
    refine c_ret ?_
    refine q_then_ret ?_
    have hr0 : (((((((Deep.hitsR l).length : Int) == 0) && ((Lru.trace l) == (Lru.trace l))) && ((Deep.roomErr l a) == (Lru.trace l))) && ((Deep.roomErr l b) == (Lru.trace l))) : Bool) = true := by
      first | rfl | (have h9 : Lru.trace l ≠ 0 := (by assumption); obtain ⟨q1, q2, q3⟩ := Deep.spec_bad h9; obtain ⟨q4, q5⟩ := Deep.spec_bad2 a h9; obtain ⟨q6, q7⟩ := Deep.spec_bad2 b h9; simp [q2, q5, q7]; done) | (rcases Deep.mono_end l a b with h | h | h | h <;> simp [h])
    refine q_end0 (v := .bool ((((((Deep.hitsR l).length : Int) == 0) && ((Lru.trace l) == (Lru.trace l))) && ((Deep.roomErr l a) == (Lru.trace l))) && ((Deep.roomErr l b) == (Lru.trace l)))) (rt1 rfl (r_tmp rfl)) (i := 2) rfl ?_
    exact (by have hcc := congrArg (fun (y0 : Bool) => (.bool y0 : Value)) hr0; exact hcc)
  · simp only [bne_eq_false_iff_eq] at hc11
    have ht := hc11
    have h40 := Deep.hitsR_len ht
    have hml := Deep.misses_len l
    have hra := Deep.room_bd l a
    refine c_skip ?_
    refine q_then ?_
    refine c_seq ?_
    refine c_seq ?_
    refine c_region ?_
    refine o_pure (p_move (v := .int .i64 (Lru.trace l)) rfl) rfl rfl rfl ?_
    refine o_pure (p_ne (p := (Lru.trace l)) (q := 0) rfl rfl) rfl rfl rfl ?_
    refine o_pure (p_move (v := .bool ((Lru.trace l) != 0)) rfl) rfl rfl rfl ?_
    refine o_or (p := 68) 6 (((Deep.misses l).length : Int) != ((Deep.hitsR l).length : Int)) ?_ ?_ ?_
    · intro hb15 hk
      simp only [bne_eq_false_iff_eq] at hb15
      refine o_unguard 62 rfl rfl ?_
      refine o_pure (p_move (v := .slice a8 (Deep.misses l).length c9) rfl) rfl rfl rfl ?_
      refine o_unguard 62 rfl rfl ?_
      refine o_pure (p_len_slice (len := (Deep.misses l).length) rfl rfl Try.underlying25) rfl rfl rfl ?_
      refine o_unguard 62 rfl rfl ?_
      refine o_pure (p_move (v := .slice a3 (Deep.hitsR l).length c4) rfl) rfl rfl rfl ?_
      refine o_unguard 62 rfl rfl ?_
      refine o_pure (p_len_slice (len := (Deep.hitsR l).length) rfl rfl Try.underlying25) rfl rfl rfl ?_
      refine o_unguard 62 rfl rfl ?_
      refine o_pure (p_ne (p := ((Deep.misses l).length : Int)) (q := ((Deep.hitsR l).length : Int)) rfl rfl) rfl rfl rfl ?_
      refine o_pure (p_pick_false (v := .bool (((Deep.misses l).length : Int) != ((Deep.hitsR l).length : Int))) rfl rfl) rfl rfl rfl ?_
      exact o_sub (Sub.cons rfl (Sub.skip rfl (Sub.skip rfl (Sub.skip rfl (Sub.skip rfl (Sub.skip rfl (Sub.skip rfl (Sub.skip rfl (Sub.refl _))))))))) hk
    · intro hb15 hk
      refine o_guard_no rfl 62 rfl rfl rfl rfl rfl ?_
      refine o_guard_no rfl 62 rfl rfl rfl rfl rfl ?_
      refine o_guard_no rfl 62 rfl rfl rfl rfl rfl ?_
      refine o_guard_no rfl 62 rfl rfl rfl rfl rfl ?_
      refine o_guard_no rfl 62 rfl rfl rfl rfl rfl ?_
      refine o_pure (p_pick_true (u := .bool true) rfl rfl) rfl rfl rfl ?_
      exact o_sub (Sub.cons rfl (Sub.skip rfl (Sub.skip rfl (Sub.skip rfl (Sub.skip rfl (Sub.skip rfl (Sub.skip rfl (Sub.skip rfl (Sub.refl _))))))))) hk
    refine o_nil ?_
    refine q_then ?_
    refine c_cond (b := (((Lru.trace l) != 0) || (((Deep.misses l).length : Int) != ((Deep.hitsR l).length : Int)))) rfl (fun hc16 => ?_) (fun hc16 => ?_)
    · simp only [Bool.or_eq_true, bne_iff_ne, ne_eq] at hc16
      exfalso; omega
    · simp only [Bool.or_eq_false_iff, bne_eq_false_iff_eq] at hc16
      refine c_skip ?_
      refine q_then ?_
      refine c_seq ?_
      refine c_seq ?_
      refine c_region ?_
      refine o_pure (p_assign (v := .int .i64 1) rfl) rfl rfl rfl ?_
      refine o_nil ?_
      refine q_then ?_
      refine c_block ?_
      refine c_loop (St := Nat)
        (fun k => [(0, .slice al l.length cl), (1, .int .i64 a), (2, .int .i64 b), (7, .slice a3 (Deep.hitsR l).length c4), (9, .slice a8 (Deep.misses l).length c9), (11, .int .i64 (Deep.room l a)), (12, .int .i64 (Deep.roomErr l a)), (13, .int .i64 (Deep.room l b)), (14, .int .i64 (Deep.roomErr l b)), (15, .int .i64 (k : Int))])
        (fun k => [own tInt S6 a8 c9 (Deep.misses l), own tInt S1 a3 c4 (Deep.hitsR l), base w0])
        (fun k => 1 ≤ k)
        (fun k => (Deep.hitsR l).length - k)
        1 ?_ (Sub.cons rfl (Sub.cons rfl (Sub.cons rfl (Sub.cons rfl (Sub.cons rfl (Sub.cons rfl (Sub.cons rfl (Sub.cons rfl (Sub.cons rfl (Sub.cons rfl (Sub.nil _))))))))))) (fun _ hw => hw) ?_
      · exact Nat.le_refl _
      rintro k hI K hK17
      show SC _ _ Try.prog 169 w0 _ _ [(0, .slice al l.length cl), (1, .int .i64 a), (2, .int .i64 b), (7, .slice a3 (Deep.hitsR l).length c4), (9, .slice a8 (Deep.misses l).length c9), (11, .int .i64 (Deep.room l a)), (12, .int .i64 (Deep.roomErr l a)), (13, .int .i64 (Deep.room l b)), (14, .int .i64 (Deep.roomErr l b)), (15, .int .i64 (k : Int))] [own tInt S6 a8 c9 (Deep.misses l), own tInt S1 a3 c4 (Deep.hitsR l), base w0]
      refine c_seq ?_
      refine c_seq ?_
      refine c_region ?_
      refine o_pure (p_move (v := .int .i64 (k : Int)) rfl) rfl rfl rfl ?_
      refine o_pure (p_move (v := .slice a3 (Deep.hitsR l).length c4) rfl) rfl rfl rfl ?_
      refine o_pure (p_len_slice (len := (Deep.hitsR l).length) rfl rfl Try.underlying25) rfl rfl rfl ?_
      refine o_pure (p_lt (p := (k : Int)) (q := ((Deep.hitsR l).length : Int)) rfl rfl) rfl rfl rfl ?_
      refine o_nil ?_
      refine q_then ?_
      refine c_cond (b := decide ((k : Int) < ((Deep.hitsR l).length : Int))) rfl (fun hc18 => ?_) (fun hc18 => ?_)
      · simp only [decide_eq_true_eq] at hc18
        refine c_skip ?_
        refine q_then ?_
        refine c_seq ?_
        refine c_block ?_
        refine c_seq ?_
        refine c_draw hmix (by kernel_rfl) ?_
        refine w_pure (p_move (v := .slice a3 (Deep.hitsR l).length c4) rfl) rfl rfl rfl ?_
        refine w_pure (p_move (v := .int .i64 (k : Int)) rfl) rfl rfl rfl ?_
        refine w_pure (p_indexAddr (L := (Deep.hitsR l)) (T := tInt) (i := (k : Int)) rfl rfl (rd_own (i := 1) rfl) Try.underlying25 sz3 (by omega) (by omega)) rfl rfl rfl ?_
        refine w_pure (p_loadE1 (i := k) (T := tInt) (L := (Deep.hitsR l)) (v := .int .i64 ((Deep.hitsR l)[k])) rfl (rd_own (i := 1) rfl) (by first | assumption | omega) sh3 rfl) rfl rfl rfl ?_
        refine w_pure (p_move (v := .slice a3 (Deep.hitsR l).length c4) rfl) rfl rfl rfl ?_
        refine w_pure (p_move (v := .int .i64 (k : Int)) rfl) rfl rfl rfl ?_
        refine w_pure (p_subb (p := (k : Int)) (q := 1) rfl rfl (by omega)) rfl rfl rfl ?_
        refine w_pure (p_indexAddr (L := (Deep.hitsR l)) (T := tInt) (i := ((k : Int) - 1)) rfl rfl (rd_own (i := 1) rfl) Try.underlying25 sz3 (by omega) (by omega)) rfl rfl rfl ?_
        refine w_pure (p_loadE1 (i := ((k : Int) - 1).toNat) (T := tInt) (L := (Deep.hitsR l)) (v := .int .i64 ((Deep.hitsR l)[((k : Int) - 1).toNat])) rfl (rd_own (i := 1) rfl) (by first | assumption | omega) sh3 rfl) rfl rfl rfl ?_
        refine w_pure (p_lt (p := (Deep.hitsR l)[k]) (q := (Deep.hitsR l)[((k : Int) - 1).toNat]) rfl rfl) rfl rfl rfl ?_
        refine w_pure (p_move (v := .bool (decide ((Deep.hitsR l)[k] < (Deep.hitsR l)[((k : Int) - 1).toNat]))) rfl) rfl rfl rfl ?_
        refine w_or (p := 96) 11 (decide ((Deep.misses l)[((k : Int) - 1).toNat] < (Deep.misses l)[k])) ?_ ?_ ?_
        · intro hb19 hk
          simp only [decide_eq_false_iff_not, Int.not_lt] at hb19
          refine w_unguard 85 rfl rfl ?_
          refine w_pure (p_move (v := .slice a8 (Deep.misses l).length c9) rfl) rfl rfl rfl ?_
          refine w_unguard 85 rfl rfl ?_
          refine w_pure (p_move (v := .int .i64 (k : Int)) rfl) rfl rfl rfl ?_
          refine w_unguard 85 rfl rfl ?_
          refine w_pure (p_indexAddr (L := (Deep.misses l)) (T := tInt) (i := (k : Int)) rfl rfl (rd_own (i := 0) rfl) Try.underlying25 sz3 (by omega) (by omega)) rfl rfl rfl ?_
          refine w_unguard 85 rfl rfl ?_
          refine w_pure (p_loadE1 (i := k) (T := tInt) (L := (Deep.misses l)) (v := .int .i64 ((Deep.misses l)[k])) rfl (rd_own (i := 0) rfl) (by first | assumption | omega) sh3 rfl) rfl rfl rfl ?_
          refine w_unguard 85 rfl rfl ?_
          refine w_pure (p_move (v := .slice a8 (Deep.misses l).length c9) rfl) rfl rfl rfl ?_
          refine w_unguard 85 rfl rfl ?_
          refine w_pure (p_move (v := .int .i64 (k : Int)) rfl) rfl rfl rfl ?_
          refine w_unguard 85 rfl rfl ?_
          refine w_pure (p_subb (p := (k : Int)) (q := 1) rfl rfl (by omega)) rfl rfl rfl ?_
          refine w_unguard 85 rfl rfl ?_
          refine w_pure (p_indexAddr (L := (Deep.misses l)) (T := tInt) (i := ((k : Int) - 1)) rfl rfl (rd_own (i := 0) rfl) Try.underlying25 sz3 (by omega) (by omega)) rfl rfl rfl ?_
          refine w_unguard 85 rfl rfl ?_
          refine w_pure (p_loadE1 (i := ((k : Int) - 1).toNat) (T := tInt) (L := (Deep.misses l)) (v := .int .i64 ((Deep.misses l)[((k : Int) - 1).toNat])) rfl (rd_own (i := 0) rfl) (by first | assumption | omega) sh3 rfl) rfl rfl rfl ?_
          refine w_unguard 85 rfl rfl ?_
          refine w_pure (p_gt (p := (Deep.misses l)[k]) (q := (Deep.misses l)[((k : Int) - 1).toNat]) rfl rfl) rfl rfl rfl ?_
          refine w_pure (p_pick_false (v := .bool (decide ((Deep.misses l)[((k : Int) - 1).toNat] < (Deep.misses l)[k]))) rfl rfl) rfl rfl rfl ?_
          exact w_sub (Sub.cons rfl (Sub.skip rfl (Sub.skip rfl (Sub.skip rfl (Sub.skip rfl (Sub.skip rfl (Sub.skip rfl (Sub.skip rfl (Sub.skip rfl (Sub.skip rfl (Sub.skip rfl (Sub.skip rfl (Sub.skip rfl (Sub.refl _)))))))))))))) hk
        · intro hb19 hk
          refine w_guard_no rfl 85 rfl rfl rfl rfl rfl ?_
          refine w_guard_no rfl 85 rfl rfl rfl rfl rfl ?_
          refine w_guard_no rfl 85 rfl rfl rfl rfl rfl ?_
          refine w_guard_no rfl 85 rfl rfl rfl rfl rfl ?_
          refine w_guard_no rfl 85 rfl rfl rfl rfl rfl ?_
          refine w_guard_no rfl 85 rfl rfl rfl rfl rfl ?_
          refine w_guard_no rfl 85 rfl rfl rfl rfl rfl ?_
          refine w_guard_no rfl 85 rfl rfl rfl rfl rfl ?_
          refine w_guard_no rfl 85 rfl rfl rfl rfl rfl ?_
          refine w_guard_no rfl 85 rfl rfl rfl rfl rfl ?_
          refine w_pure (p_pick_true (u := .bool true) rfl rfl) rfl rfl rfl ?_
          exact w_sub (Sub.cons rfl (Sub.skip rfl (Sub.skip rfl (Sub.skip rfl (Sub.skip rfl (Sub.skip rfl (Sub.skip rfl (Sub.skip rfl (Sub.skip rfl (Sub.skip rfl (Sub.skip rfl (Sub.skip rfl (Sub.skip rfl (Sub.refl _)))))))))))))) hk
        refine w_pure (p_move (v := .bool (decide ((Deep.hitsR l)[k] < (Deep.hitsR l)[((k : Int) - 1).toNat]) || decide ((Deep.misses l)[((k : Int) - 1).toNat] < (Deep.misses l)[k]))) rfl) rfl rfl rfl ?_
        refine w_or (p := 110) 13 ((IntKind.i64.wrap ((Deep.hitsR l)[k] + (Deep.misses l)[k])) != (l.length : Int)) ?_ ?_ ?_
        · intro hb20 hk
          simp only [Bool.or_eq_false_iff, decide_eq_false_iff_not, Int.not_lt] at hb20
          refine w_unguard 97 rfl rfl ?_
          refine w_pure (p_move (v := .slice a3 (Deep.hitsR l).length c4) rfl) rfl rfl rfl ?_
          refine w_unguard 97 rfl rfl ?_
          refine w_pure (p_move (v := .int .i64 (k : Int)) rfl) rfl rfl rfl ?_
          refine w_unguard 97 rfl rfl ?_
          refine w_pure (p_indexAddr (L := (Deep.hitsR l)) (T := tInt) (i := (k : Int)) rfl rfl (rd_own (i := 1) rfl) Try.underlying25 sz3 (by omega) (by omega)) rfl rfl rfl ?_
          refine w_unguard 97 rfl rfl ?_
          refine w_pure (p_loadE1 (i := k) (T := tInt) (L := (Deep.hitsR l)) (v := .int .i64 ((Deep.hitsR l)[k])) rfl (rd_own (i := 1) rfl) (by first | assumption | omega) sh3 rfl) rfl rfl rfl ?_
          refine w_unguard 97 rfl rfl ?_
          refine w_pure (p_move (v := .slice a8 (Deep.misses l).length c9) rfl) rfl rfl rfl ?_
          refine w_unguard 97 rfl rfl ?_
          refine w_pure (p_move (v := .int .i64 (k : Int)) rfl) rfl rfl rfl ?_
          refine w_unguard 97 rfl rfl ?_
          refine w_pure (p_indexAddr (L := (Deep.misses l)) (T := tInt) (i := (k : Int)) rfl rfl (rd_own (i := 0) rfl) Try.underlying25 sz3 (by omega) (by omega)) rfl rfl rfl ?_
          refine w_unguard 97 rfl rfl ?_
          refine w_pure (p_loadE1 (i := k) (T := tInt) (L := (Deep.misses l)) (v := .int .i64 ((Deep.misses l)[k])) rfl (rd_own (i := 0) rfl) (by first | assumption | omega) sh3 rfl) rfl rfl rfl ?_
          refine w_unguard 97 rfl rfl ?_
          refine w_pure (p_add (p := (Deep.hitsR l)[k]) (q := (Deep.misses l)[k]) rfl rfl) rfl rfl rfl ?_
          refine w_unguard 97 rfl rfl ?_
          refine w_pure (p_move (v := .slice al l.length cl) rfl) rfl rfl rfl ?_
          refine w_unguard 97 rfl rfl ?_
          refine w_pure (p_len_slice (len := l.length) rfl rfl Try.underlying25) rfl rfl rfl ?_
          refine w_unguard 97 rfl rfl ?_
          refine w_pure (p_ne (p := (IntKind.i64.wrap ((Deep.hitsR l)[k] + (Deep.misses l)[k]))) (q := (l.length : Int)) rfl rfl) rfl rfl rfl ?_
          refine w_pure (p_pick_false (v := .bool ((IntKind.i64.wrap ((Deep.hitsR l)[k] + (Deep.misses l)[k])) != (l.length : Int))) rfl rfl) rfl rfl rfl ?_
          exact w_sub (Sub.cons rfl (Sub.skip rfl (Sub.skip rfl (Sub.skip rfl (Sub.skip rfl (Sub.skip rfl (Sub.skip rfl (Sub.skip rfl (Sub.skip rfl (Sub.skip rfl (Sub.skip rfl (Sub.skip rfl (Sub.skip rfl (Sub.skip rfl (Sub.skip rfl (Sub.refl _)))))))))))))))) hk
        · intro hb20 hk
          refine w_guard_no rfl 97 rfl rfl rfl rfl rfl ?_
          refine w_guard_no rfl 97 rfl rfl rfl rfl rfl ?_
          refine w_guard_no rfl 97 rfl rfl rfl rfl rfl ?_
          refine w_guard_no rfl 97 rfl rfl rfl rfl rfl ?_
          refine w_guard_no rfl 97 rfl rfl rfl rfl rfl ?_
          refine w_guard_no rfl 97 rfl rfl rfl rfl rfl ?_
          refine w_guard_no rfl 97 rfl rfl rfl rfl rfl ?_
          refine w_guard_no rfl 97 rfl rfl rfl rfl rfl ?_
          refine w_guard_no rfl 97 rfl rfl rfl rfl rfl ?_
          refine w_guard_no rfl 97 rfl rfl rfl rfl rfl ?_
          refine w_guard_no rfl 97 rfl rfl rfl rfl rfl ?_
          refine w_guard_no rfl 97 rfl rfl rfl rfl rfl ?_
          refine w_pure (p_pick_true (u := .bool true) rfl rfl) rfl rfl rfl ?_
          exact w_sub (Sub.cons rfl (Sub.skip rfl (Sub.skip rfl (Sub.skip rfl (Sub.skip rfl (Sub.skip rfl (Sub.skip rfl (Sub.skip rfl (Sub.skip rfl (Sub.skip rfl (Sub.skip rfl (Sub.skip rfl (Sub.skip rfl (Sub.skip rfl (Sub.skip rfl (Sub.refl _)))))))))))))))) hk
        refine w_nil ?_
        refine q_then ?_
        refine c_cond (b := ((decide ((Deep.hitsR l)[k] < (Deep.hitsR l)[((k : Int) - 1).toNat]) || decide ((Deep.misses l)[((k : Int) - 1).toNat] < (Deep.misses l)[k])) || ((IntKind.i64.wrap ((Deep.hitsR l)[k] + (Deep.misses l)[k])) != (l.length : Int)))) rfl (fun hc21 => ?_) (fun hc21 => ?_)
        · simp only [Bool.or_eq_true, decide_eq_true_eq, bne_iff_ne, ne_eq] at hc21
          exfalso; have m1 := Deep.mono_h (l := l) (j := ((k : Int) - 1).toNat) (k := k) (by omega) (by omega) (by omega); have m2 := Deep.mono_m (l := l) (j := ((k : Int) - 1).toNat) (k := k) (by omega) (by omega) (by omega); have m3 := Deep.mono_wrap (l := l) (k := k) ht (by omega) (by omega); omega
        · simp only [Bool.or_eq_false_iff, decide_eq_false_iff_not, Int.not_lt, bne_eq_false_iff_eq] at hc21
          refine c_skip ?_
          refine q_block_normal (q_then ?_)
          refine c_region ?_
          refine o_pure (p_move (v := .int .i64 (k : Int)) rfl) rfl rfl rfl ?_
          refine o_pure (p_addb (p := (k : Int)) (q := 1) rfl rfl (by omega)) rfl rfl rfl ?_
          refine o_pure (p_assign (v := .int .i64 ((k : Int) + 1)) rfl) rfl rfl rfl ?_
          refine o_nil ?_
          refine q_round hK17 (k + 1) ?_ ?_ ?_ ?_
          · clear hK17
            omega
          · (try dsimp only); omega
          · exact Sub.cons rfl (Sub.cons rfl (Sub.cons rfl (Sub.cons rfl (Sub.cons rfl (Sub.cons rfl (Sub.cons rfl (Sub.cons rfl (Sub.cons rfl (Sub.cons rfl (Sub.nil _))))))))))
          · exact fun _ hw => HeapIs.pick hw [0, 1, 2] (by decide) rfl
      · simp only [decide_eq_false_iff_not, Int.not_lt] at hc18
        refine c_exit ?_
        refine q_then_exit (q_then_exit (q_block_exit (q_then ?_)))
        refine c_seq ?_
        refine c_seq ?_
        refine c_region ?_
        refine o_pure (p_move (v := .int .i64 (Deep.roomErr l a)) rfl) rfl rfl rfl ?_
        refine o_pure (p_eq (p := (Deep.roomErr l a)) (q := 0) rfl rfl) rfl rfl rfl ?_
        refine o_pure (p_move (v := .bool ((Deep.roomErr l a) == 0)) rfl) rfl rfl rfl ?_
        refine o_and (p := 152) 39 (((decide ((Deep.room l a) < 1) || decide (((Deep.hitsR l).length : Int) < (Deep.room l a))) || decide ((IntKind.i64.wrap (100 * (Deep.hitsR l)[((Deep.room l a) - 1).toNat])) < (IntKind.i64.wrap (a * (l.length : Int))))) || (decide (1 < (Deep.room l a)) && decide ((IntKind.i64.wrap (a * (l.length : Int))) ≤ (IntKind.i64.wrap (100 * (Deep.hitsR l)[((Deep.room l a) - 2).toNat]))))) ?_ ?_ ?_
        · intro hb22 hk
          simp only [beq_iff_eq] at hb22
          refine o_unguard 113 rfl rfl ?_
          refine o_pure (p_move (v := .int .i64 (Deep.room l a)) rfl) rfl rfl rfl ?_
          refine o_unguard 113 rfl rfl ?_
          refine o_pure (p_lt (p := (Deep.room l a)) (q := 1) rfl rfl) rfl rfl rfl ?_
          refine o_unguard 113 rfl rfl ?_
          refine o_pure (p_move (v := .bool (decide ((Deep.room l a) < 1))) rfl) rfl rfl rfl ?_
          refine o_or (p := 121) 5 (decide (((Deep.hitsR l).length : Int) < (Deep.room l a))) ?_ ?_ ?_
          · intro hb23 hk
            simp only [decide_eq_false_iff_not, Int.not_lt] at hb23
            refine o_unguard 116 rfl rfl ?_
            refine o_pure (p_move (v := .int .i64 (Deep.room l a)) rfl) rfl rfl rfl ?_
            refine o_unguard 116 rfl rfl ?_
            refine o_pure (p_move (v := .slice a3 (Deep.hitsR l).length c4) rfl) rfl rfl rfl ?_
            refine o_unguard 116 rfl rfl ?_
            refine o_pure (p_len_slice (len := (Deep.hitsR l).length) rfl rfl Try.underlying25) rfl rfl rfl ?_
            refine o_unguard 116 rfl rfl ?_
            refine o_pure (p_gt (p := (Deep.room l a)) (q := ((Deep.hitsR l).length : Int)) rfl rfl) rfl rfl rfl ?_
            refine o_unguard 113 rfl rfl ?_
            refine o_pure (p_pick_false (v := .bool (decide (((Deep.hitsR l).length : Int) < (Deep.room l a)))) rfl rfl) rfl rfl rfl ?_
            exact o_sub (Sub.cons rfl (Sub.skip rfl (Sub.skip rfl (Sub.skip rfl (Sub.skip rfl (Sub.skip rfl (Sub.skip rfl (Sub.refl _)))))))) hk
          · intro hb23 hk
            refine o_guard_no rfl 116 rfl rfl rfl rfl rfl ?_
            refine o_guard_no rfl 116 rfl rfl rfl rfl rfl ?_
            refine o_guard_no rfl 116 rfl rfl rfl rfl rfl ?_
            refine o_guard_no rfl 116 rfl rfl rfl rfl rfl ?_
            refine o_unguard 113 rfl rfl ?_
            refine o_pure (p_pick_true (u := .bool true) rfl rfl) rfl rfl rfl ?_
            exact o_sub (Sub.cons rfl (Sub.skip rfl (Sub.skip rfl (Sub.skip rfl (Sub.skip rfl (Sub.skip rfl (Sub.skip rfl (Sub.refl _)))))))) hk
          refine o_unguard 113 rfl rfl ?_
          refine o_pure (p_move (v := .bool (decide ((Deep.room l a) < 1) || decide (((Deep.hitsR l).length : Int) < (Deep.room l a)))) rfl) rfl rfl rfl ?_
          refine o_or (p := 134) 12 (decide ((IntKind.i64.wrap (100 * (Deep.hitsR l)[((Deep.room l a) - 1).toNat])) < (IntKind.i64.wrap (a * (l.length : Int))))) ?_ ?_ ?_
          · intro hb24 hk
            simp only [Bool.or_eq_false_iff, decide_eq_false_iff_not, Int.not_lt] at hb24
            refine o_unguard 122 rfl rfl ?_
            refine o_pure (p_move (v := .slice a3 (Deep.hitsR l).length c4) rfl) rfl rfl rfl ?_
            refine o_unguard 122 rfl rfl ?_
            refine o_pure (p_move (v := .int .i64 (Deep.room l a)) rfl) rfl rfl rfl ?_
            refine o_unguard 122 rfl rfl ?_
            refine o_pure (p_subb (p := (Deep.room l a)) (q := 1) rfl rfl (by omega)) rfl rfl rfl ?_
            refine o_unguard 122 rfl rfl ?_
            refine o_pure (p_indexAddr (L := (Deep.hitsR l)) (T := tInt) (i := ((Deep.room l a) - 1)) rfl rfl (rd_own (i := 1) rfl) Try.underlying25 sz3 (by omega) (by omega)) rfl rfl rfl ?_
            refine o_unguard 122 rfl rfl ?_
            refine o_pure (p_loadE1 (i := ((Deep.room l a) - 1).toNat) (T := tInt) (L := (Deep.hitsR l)) (v := .int .i64 ((Deep.hitsR l)[((Deep.room l a) - 1).toNat])) rfl (rd_own (i := 1) rfl) (by first | assumption | omega) sh3 rfl) rfl rfl rfl ?_
            refine o_unguard 122 rfl rfl ?_
            refine o_pure (p_mul (p := 100) (q := (Deep.hitsR l)[((Deep.room l a) - 1).toNat]) rfl rfl) rfl rfl rfl ?_
            refine o_unguard 122 rfl rfl ?_
            refine o_pure (p_move (v := .int .i64 a) rfl) rfl rfl rfl ?_
            refine o_unguard 122 rfl rfl ?_
            refine o_pure (p_move (v := .slice al l.length cl) rfl) rfl rfl rfl ?_
            refine o_unguard 122 rfl rfl ?_
            refine o_pure (p_len_slice (len := l.length) rfl rfl Try.underlying25) rfl rfl rfl ?_
            refine o_unguard 122 rfl rfl ?_
            refine o_pure (p_mul (p := a) (q := (l.length : Int)) rfl rfl) rfl rfl rfl ?_
            refine o_unguard 122 rfl rfl ?_
            refine o_pure (p_lt (p := (IntKind.i64.wrap (100 * (Deep.hitsR l)[((Deep.room l a) - 1).toNat]))) (q := (IntKind.i64.wrap (a * (l.length : Int)))) rfl rfl) rfl rfl rfl ?_
            refine o_unguard 113 rfl rfl ?_
            refine o_pure (p_pick_false (v := .bool (decide ((IntKind.i64.wrap (100 * (Deep.hitsR l)[((Deep.room l a) - 1).toNat])) < (IntKind.i64.wrap (a * (l.length : Int)))))) rfl rfl) rfl rfl rfl ?_
            exact o_sub (Sub.cons rfl (Sub.skip rfl (Sub.skip rfl (Sub.skip rfl (Sub.skip rfl (Sub.skip rfl (Sub.skip rfl (Sub.skip rfl (Sub.skip rfl (Sub.skip rfl (Sub.skip rfl (Sub.skip rfl (Sub.skip rfl (Sub.skip rfl (Sub.refl _))))))))))))))) hk
          · intro hb24 hk
            refine o_guard_no rfl 122 rfl rfl rfl rfl rfl ?_
            refine o_guard_no rfl 122 rfl rfl rfl rfl rfl ?_
            refine o_guard_no rfl 122 rfl rfl rfl rfl rfl ?_
            refine o_guard_no rfl 122 rfl rfl rfl rfl rfl ?_
            refine o_guard_no rfl 122 rfl rfl rfl rfl rfl ?_
            refine o_guard_no rfl 122 rfl rfl rfl rfl rfl ?_
            refine o_guard_no rfl 122 rfl rfl rfl rfl rfl ?_
            refine o_guard_no rfl 122 rfl rfl rfl rfl rfl ?_
            refine o_guard_no rfl 122 rfl rfl rfl rfl rfl ?_
            refine o_guard_no rfl 122 rfl rfl rfl rfl rfl ?_
            refine o_guard_no rfl 122 rfl rfl rfl rfl rfl ?_
            refine o_unguard 113 rfl rfl ?_
            refine o_pure (p_pick_true (u := .bool true) rfl rfl) rfl rfl rfl ?_
            exact o_sub (Sub.cons rfl (Sub.skip rfl (Sub.skip rfl (Sub.skip rfl (Sub.skip rfl (Sub.skip rfl (Sub.skip rfl (Sub.skip rfl (Sub.skip rfl (Sub.skip rfl (Sub.skip rfl (Sub.skip rfl (Sub.skip rfl (Sub.skip rfl (Sub.refl _))))))))))))))) hk
          refine o_unguard 113 rfl rfl ?_
          refine o_pure (p_move (v := .bool ((decide ((Deep.room l a) < 1) || decide (((Deep.hitsR l).length : Int) < (Deep.room l a))) || decide ((IntKind.i64.wrap (100 * (Deep.hitsR l)[((Deep.room l a) - 1).toNat])) < (IntKind.i64.wrap (a * (l.length : Int)))))) rfl) rfl rfl rfl ?_
          refine o_or (p := 151) 16 (decide (1 < (Deep.room l a)) && decide ((IntKind.i64.wrap (a * (l.length : Int))) ≤ (IntKind.i64.wrap (100 * (Deep.hitsR l)[((Deep.room l a) - 2).toNat])))) ?_ ?_ ?_
          · intro hb25 hk
            simp only [Bool.or_eq_false_iff, decide_eq_false_iff_not, Int.not_lt] at hb25
            refine o_unguard 135 rfl rfl ?_
            refine o_pure (p_move (v := .int .i64 (Deep.room l a)) rfl) rfl rfl rfl ?_
            refine o_unguard 135 rfl rfl ?_
            refine o_pure (p_gt (p := (Deep.room l a)) (q := 1) rfl rfl) rfl rfl rfl ?_
            refine o_unguard 135 rfl rfl ?_
            refine o_pure (p_move (v := .bool (decide (1 < (Deep.room l a)))) rfl) rfl rfl rfl ?_
            refine o_and (p := 150) 12 (decide ((IntKind.i64.wrap (a * (l.length : Int))) ≤ (IntKind.i64.wrap (100 * (Deep.hitsR l)[((Deep.room l a) - 2).toNat])))) ?_ ?_ ?_
            · intro hb26 hk
              simp only [decide_eq_true_eq] at hb26
              refine o_unguard 138 rfl rfl ?_
              refine o_pure (p_move (v := .slice a3 (Deep.hitsR l).length c4) rfl) rfl rfl rfl ?_
              refine o_unguard 138 rfl rfl ?_
              refine o_pure (p_move (v := .int .i64 (Deep.room l a)) rfl) rfl rfl rfl ?_
              refine o_unguard 138 rfl rfl ?_
              refine o_pure (p_subb (p := (Deep.room l a)) (q := 2) rfl rfl (by omega)) rfl rfl rfl ?_
              refine o_unguard 138 rfl rfl ?_
              refine o_pure (p_indexAddr (L := (Deep.hitsR l)) (T := tInt) (i := ((Deep.room l a) - 2)) rfl rfl (rd_own (i := 1) rfl) Try.underlying25 sz3 (by omega) (by omega)) rfl rfl rfl ?_
              refine o_unguard 138 rfl rfl ?_
              refine o_pure (p_loadE1 (i := ((Deep.room l a) - 2).toNat) (T := tInt) (L := (Deep.hitsR l)) (v := .int .i64 ((Deep.hitsR l)[((Deep.room l a) - 2).toNat])) rfl (rd_own (i := 1) rfl) (by first | assumption | omega) sh3 rfl) rfl rfl rfl ?_
              refine o_unguard 138 rfl rfl ?_
              refine o_pure (p_mul (p := 100) (q := (Deep.hitsR l)[((Deep.room l a) - 2).toNat]) rfl rfl) rfl rfl rfl ?_
              refine o_unguard 138 rfl rfl ?_
              refine o_pure (p_move (v := .int .i64 a) rfl) rfl rfl rfl ?_
              refine o_unguard 138 rfl rfl ?_
              refine o_pure (p_move (v := .slice al l.length cl) rfl) rfl rfl rfl ?_
              refine o_unguard 138 rfl rfl ?_
              refine o_pure (p_len_slice (len := l.length) rfl rfl Try.underlying25) rfl rfl rfl ?_
              refine o_unguard 138 rfl rfl ?_
              refine o_pure (p_mul (p := a) (q := (l.length : Int)) rfl rfl) rfl rfl rfl ?_
              refine o_unguard 138 rfl rfl ?_
              refine o_pure (p_ge (p := (IntKind.i64.wrap (100 * (Deep.hitsR l)[((Deep.room l a) - 2).toNat]))) (q := (IntKind.i64.wrap (a * (l.length : Int)))) rfl rfl) rfl rfl rfl ?_
              refine o_unguard 135 rfl rfl ?_
              refine o_pure (p_pick_true (u := .bool (decide ((IntKind.i64.wrap (a * (l.length : Int))) ≤ (IntKind.i64.wrap (100 * (Deep.hitsR l)[((Deep.room l a) - 2).toNat]))))) rfl rfl) rfl rfl rfl ?_
              exact o_sub (Sub.cons rfl (Sub.skip rfl (Sub.skip rfl (Sub.skip rfl (Sub.skip rfl (Sub.skip rfl (Sub.skip rfl (Sub.skip rfl (Sub.skip rfl (Sub.skip rfl (Sub.skip rfl (Sub.skip rfl (Sub.skip rfl (Sub.skip rfl (Sub.refl _))))))))))))))) hk
            · intro hb26 hk
              refine o_guard_no rfl 138 rfl rfl rfl rfl rfl ?_
              refine o_guard_no rfl 138 rfl rfl rfl rfl rfl ?_
              refine o_guard_no rfl 138 rfl rfl rfl rfl rfl ?_
              refine o_guard_no rfl 138 rfl rfl rfl rfl rfl ?_
              refine o_guard_no rfl 138 rfl rfl rfl rfl rfl ?_
              refine o_guard_no rfl 138 rfl rfl rfl rfl rfl ?_
              refine o_guard_no rfl 138 rfl rfl rfl rfl rfl ?_
              refine o_guard_no rfl 138 rfl rfl rfl rfl rfl ?_
              refine o_guard_no rfl 138 rfl rfl rfl rfl rfl ?_
              refine o_guard_no rfl 138 rfl rfl rfl rfl rfl ?_
              refine o_guard_no rfl 138 rfl rfl rfl rfl rfl ?_
              refine o_unguard 135 rfl rfl ?_
              refine o_pure (p_pick_false (v := .bool false) rfl rfl) rfl rfl rfl ?_
              exact o_sub (Sub.cons rfl (Sub.skip rfl (Sub.skip rfl (Sub.skip rfl (Sub.skip rfl (Sub.skip rfl (Sub.skip rfl (Sub.skip rfl (Sub.skip rfl (Sub.skip rfl (Sub.skip rfl (Sub.skip rfl (Sub.skip rfl (Sub.skip rfl (Sub.refl _))))))))))))))) hk
            refine o_unguard 113 rfl rfl ?_
            refine o_pure (p_pick_false (v := .bool (decide (1 < (Deep.room l a)) && decide ((IntKind.i64.wrap (a * (l.length : Int))) ≤ (IntKind.i64.wrap (100 * (Deep.hitsR l)[((Deep.room l a) - 2).toNat]))))) rfl rfl) rfl rfl rfl ?_
            exact o_sub (Sub.cons rfl (Sub.skip rfl (Sub.skip rfl (Sub.skip rfl (Sub.skip rfl (Sub.skip rfl (Sub.refl _))))))) hk
          · intro hb25 hk
            refine o_guard_no rfl 135 rfl rfl rfl rfl rfl ?_
            refine o_guard_no rfl 135 rfl rfl rfl rfl rfl ?_
            refine o_guard_no rfl 135 rfl rfl rfl rfl rfl ?_
            refine o_guard_no rfl 138 rfl rfl rfl rfl rfl ?_
            refine o_guard_no rfl 138 rfl rfl rfl rfl rfl ?_
            refine o_guard_no rfl 138 rfl rfl rfl rfl rfl ?_
            refine o_guard_no rfl 138 rfl rfl rfl rfl rfl ?_
            refine o_guard_no rfl 138 rfl rfl rfl rfl rfl ?_
            refine o_guard_no rfl 138 rfl rfl rfl rfl rfl ?_
            refine o_guard_no rfl 138 rfl rfl rfl rfl rfl ?_
            refine o_guard_no rfl 138 rfl rfl rfl rfl rfl ?_
            refine o_guard_no rfl 138 rfl rfl rfl rfl rfl ?_
            refine o_guard_no rfl 138 rfl rfl rfl rfl rfl ?_
            refine o_guard_no rfl 138 rfl rfl rfl rfl rfl ?_
            refine o_guard_no rfl 135 rfl rfl rfl rfl rfl ?_
            refine o_unguard 113 rfl rfl ?_
            refine o_pure (p_pick_true (u := .bool true) rfl rfl) rfl rfl rfl ?_
            exact o_sub (Sub.cons rfl (Sub.skip rfl (Sub.skip rfl (Sub.skip rfl (Sub.skip rfl (Sub.skip rfl (Sub.skip rfl (Sub.skip rfl (Sub.skip rfl (Sub.skip rfl (Sub.skip rfl (Sub.skip rfl (Sub.skip rfl (Sub.skip rfl (Sub.skip rfl (Sub.skip rfl (Sub.skip rfl (Sub.skip rfl (Sub.refl _))))))))))))))))))) hk
          refine o_pure (p_pick_true (u := .bool (((decide ((Deep.room l a) < 1) || decide (((Deep.hitsR l).length : Int) < (Deep.room l a))) || decide ((IntKind.i64.wrap (100 * (Deep.hitsR l)[((Deep.room l a) - 1).toNat])) < (IntKind.i64.wrap (a * (l.length : Int))))) || (decide (1 < (Deep.room l a)) && decide ((IntKind.i64.wrap (a * (l.length : Int))) ≤ (IntKind.i64.wrap (100 * (Deep.hitsR l)[((Deep.room l a) - 2).toNat])))))) rfl rfl) rfl rfl rfl ?_
          exact o_sub (Sub.cons rfl (Sub.skip rfl (Sub.skip rfl (Sub.skip rfl (Sub.skip rfl (Sub.skip rfl (Sub.skip rfl (Sub.skip rfl (Sub.refl _))))))))) hk
        · intro hb22 hk
          refine o_guard_no rfl 113 rfl rfl rfl rfl rfl ?_
          refine o_guard_no rfl 113 rfl rfl rfl rfl rfl ?_
          refine o_guard_no rfl 113 rfl rfl rfl rfl rfl ?_
          refine o_guard_no rfl 116 rfl rfl rfl rfl rfl ?_
          refine o_guard_no rfl 116 rfl rfl rfl rfl rfl ?_
          refine o_guard_no rfl 116 rfl rfl rfl rfl rfl ?_
          refine o_guard_no rfl 116 rfl rfl rfl rfl rfl ?_
          refine o_guard_no rfl 113 rfl rfl rfl rfl rfl ?_
          refine o_guard_no rfl 113 rfl rfl rfl rfl rfl ?_
          refine o_guard_no rfl 122 rfl rfl rfl rfl rfl ?_
          refine o_guard_no rfl 122 rfl rfl rfl rfl rfl ?_
          refine o_guard_no rfl 122 rfl rfl rfl rfl rfl ?_
          refine o_guard_no rfl 122 rfl rfl rfl rfl rfl ?_
          refine o_guard_no rfl 122 rfl rfl rfl rfl rfl ?_
          refine o_guard_no rfl 122 rfl rfl rfl rfl rfl ?_
          refine o_guard_no rfl 122 rfl rfl rfl rfl rfl ?_
          refine o_guard_no rfl 122 rfl rfl rfl rfl rfl ?_
          refine o_guard_no rfl 122 rfl rfl rfl rfl rfl ?_
          refine o_guard_no rfl 122 rfl rfl rfl rfl rfl ?_
          refine o_guard_no rfl 122 rfl rfl rfl rfl rfl ?_
          refine o_guard_no rfl 113 rfl rfl rfl rfl rfl ?_
          refine o_guard_no rfl 113 rfl rfl rfl rfl rfl ?_
          refine o_guard_no rfl 135 rfl rfl rfl rfl rfl ?_
          refine o_guard_no rfl 135 rfl rfl rfl rfl rfl ?_
          refine o_guard_no rfl 135 rfl rfl rfl rfl rfl ?_
          refine o_guard_no rfl 138 rfl rfl rfl rfl rfl ?_
          refine o_guard_no rfl 138 rfl rfl rfl rfl rfl ?_
          refine o_guard_no rfl 138 rfl rfl rfl rfl rfl ?_
          refine o_guard_no rfl 138 rfl rfl rfl rfl rfl ?_
          refine o_guard_no rfl 138 rfl rfl rfl rfl rfl ?_
          refine o_guard_no rfl 138 rfl rfl rfl rfl rfl ?_
          refine o_guard_no rfl 138 rfl rfl rfl rfl rfl ?_
          refine o_guard_no rfl 138 rfl rfl rfl rfl rfl ?_
          refine o_guard_no rfl 138 rfl rfl rfl rfl rfl ?_
          refine o_guard_no rfl 138 rfl rfl rfl rfl rfl ?_
          refine o_guard_no rfl 138 rfl rfl rfl rfl rfl ?_
          refine o_guard_no rfl 135 rfl rfl rfl rfl rfl ?_
          refine o_guard_no rfl 113 rfl rfl rfl rfl rfl ?_
          refine o_pure (p_pick_false (v := .bool false) rfl rfl) rfl rfl rfl ?_
          exact o_sub (Sub.cons rfl (Sub.skip rfl (Sub.skip rfl (Sub.skip rfl (Sub.skip rfl (Sub.skip rfl (Sub.skip rfl (Sub.skip rfl (Sub.skip rfl (Sub.skip rfl (Sub.skip rfl (Sub.skip rfl (Sub.skip rfl (Sub.skip rfl (Sub.skip rfl (Sub.skip rfl (Sub.skip rfl (Sub.skip rfl (Sub.skip rfl (Sub.skip rfl (Sub.skip rfl (Sub.skip rfl (Sub.skip rfl (Sub.skip rfl (Sub.skip rfl (Sub.skip rfl (Sub.skip rfl (Sub.skip rfl (Sub.skip rfl (Sub.skip rfl (Sub.skip rfl (Sub.skip rfl (Sub.skip rfl (Sub.skip rfl (Sub.skip rfl (Sub.skip rfl (Sub.skip rfl (Sub.skip rfl (Sub.skip rfl (Sub.skip rfl (Sub.skip rfl (Sub.refl _)))))))))))))))))))))))))))))))))))))))))) hk
        refine o_nil ?_
        refine q_then ?_
        refine c_cond (b := (((Deep.roomErr l a) == 0) && (((decide ((Deep.room l a) < 1) || decide (((Deep.hitsR l).length : Int) < (Deep.room l a))) || decide ((IntKind.i64.wrap (100 * (Deep.hitsR l)[((Deep.room l a) - 1).toNat])) < (IntKind.i64.wrap (a * (l.length : Int))))) || (decide (1 < (Deep.room l a)) && decide ((IntKind.i64.wrap (a * (l.length : Int))) ≤ (IntKind.i64.wrap (100 * (Deep.hitsR l)[((Deep.room l a) - 2).toNat]))))))) rfl (fun hc27 => ?_) (fun hc27 => ?_)
        · simp only [Bool.and_eq_true, beq_iff_eq, Bool.or_eq_true, decide_eq_true_eq] at hc27
          exfalso; have e1 := Deep.room_in hc27.1; have e2 := Deep.room_enough (j := (Deep.room l a - 1).toNat) hc27.1 (by omega) (by omega); have e3 : 1 < Deep.room l a → IntKind.i64.wrap (100 * (Deep.hitsR l)[(Deep.room l a - 2).toNat]) < IntKind.i64.wrap (a * (l.length : Int)) := fun h => Deep.room_less (j := (Deep.room l a - 2).toNat) hc27.1 (by omega) (by omega)
          omega
        · simp only [Bool.and_eq_false_iff, beq_eq_false_iff_ne, ne_eq, Bool.or_eq_false_iff, decide_eq_false_iff_not, Int.not_lt, Int.not_le] at hc27
          refine c_skip ?_
          refine q_then ?_
          refine c_seq ?_
          refine c_region ?_
          refine o_pure (p_move (v := .int .i64 (Deep.roomErr l a)) rfl) rfl rfl rfl ?_
          refine o_pure (p_ne (p := (Deep.roomErr l a)) (q := 0) rfl rfl) rfl rfl rfl ?_
          refine o_pure (p_move (v := .bool ((Deep.roomErr l a) != 0)) rfl) rfl rfl rfl ?_
          refine o_or (p := 158) 3 ((Deep.roomErr l b) != 0) ?_ ?_ ?_
          · intro hb28 hk
            simp only [bne_eq_false_iff_eq] at hb28
            refine o_unguard 155 rfl rfl ?_
            refine o_pure (p_move (v := .int .i64 (Deep.roomErr l b)) rfl) rfl rfl rfl ?_
            refine o_unguard 155 rfl rfl ?_
            refine o_pure (p_ne (p := (Deep.roomErr l b)) (q := 0) rfl rfl) rfl rfl rfl ?_
            refine o_pure (p_pick_false (v := .bool ((Deep.roomErr l b) != 0)) rfl rfl) rfl rfl rfl ?_
            exact o_sub (Sub.cons rfl (Sub.skip rfl (Sub.skip rfl (Sub.skip rfl (Sub.skip rfl (Sub.refl _)))))) hk
          · intro hb28 hk
            refine o_guard_no rfl 155 rfl rfl rfl rfl rfl ?_
            refine o_guard_no rfl 155 rfl rfl rfl rfl rfl ?_
            refine o_pure (p_pick_true (u := .bool true) rfl rfl) rfl rfl rfl ?_
            exact o_sub (Sub.cons rfl (Sub.skip rfl (Sub.skip rfl (Sub.skip rfl (Sub.skip rfl (Sub.refl _)))))) hk
          refine o_pure (p_move (v := .bool (((Deep.roomErr l a) != 0) || ((Deep.roomErr l b) != 0))) rfl) rfl rfl rfl ?_
          refine o_or (p := 163) 4 (decide (b < a)) ?_ ?_ ?_
          · intro hb29 hk
            simp only [Bool.or_eq_false_iff, bne_eq_false_iff_eq] at hb29
            refine o_unguard 159 rfl rfl ?_
            refine o_pure (p_move (v := .int .i64 a) rfl) rfl rfl rfl ?_
            refine o_unguard 159 rfl rfl ?_
            refine o_pure (p_move (v := .int .i64 b) rfl) rfl rfl rfl ?_
            refine o_unguard 159 rfl rfl ?_
            refine o_pure (p_gt (p := a) (q := b) rfl rfl) rfl rfl rfl ?_
            refine o_pure (p_pick_false (v := .bool (decide (b < a))) rfl rfl) rfl rfl rfl ?_
            exact o_sub (Sub.cons rfl (Sub.skip rfl (Sub.skip rfl (Sub.skip rfl (Sub.skip rfl (Sub.skip rfl (Sub.refl _))))))) hk
          · intro hb29 hk
            refine o_guard_no rfl 159 rfl rfl rfl rfl rfl ?_
            refine o_guard_no rfl 159 rfl rfl rfl rfl rfl ?_
            refine o_guard_no rfl 159 rfl rfl rfl rfl rfl ?_
            refine o_pure (p_pick_true (u := .bool true) rfl rfl) rfl rfl rfl ?_
            exact o_sub (Sub.cons rfl (Sub.skip rfl (Sub.skip rfl (Sub.skip rfl (Sub.skip rfl (Sub.skip rfl (Sub.refl _))))))) hk
          refine o_pure (p_move (v := .bool ((((Deep.roomErr l a) != 0) || ((Deep.roomErr l b) != 0)) || decide (b < a))) rfl) rfl rfl rfl ?_
          refine o_or (p := 168) 4 (decide ((Deep.room l a) ≤ (Deep.room l b))) ?_ ?_ ?_
          · intro hb30 hk
            simp only [Bool.or_eq_false_iff, bne_eq_false_iff_eq, decide_eq_false_iff_not, Int.not_lt] at hb30
            refine o_unguard 164 rfl rfl ?_
            refine o_pure (p_move (v := .int .i64 (Deep.room l a)) rfl) rfl rfl rfl ?_
            refine o_unguard 164 rfl rfl ?_
            refine o_pure (p_move (v := .int .i64 (Deep.room l b)) rfl) rfl rfl rfl ?_
            refine o_unguard 164 rfl rfl ?_
            refine o_pure (p_le (p := (Deep.room l a)) (q := (Deep.room l b)) rfl rfl) rfl rfl rfl ?_
            refine o_pure (p_pick_false (v := .bool (decide ((Deep.room l a) ≤ (Deep.room l b)))) rfl rfl) rfl rfl rfl ?_
            exact o_sub (Sub.cons rfl (Sub.skip rfl (Sub.skip rfl (Sub.skip rfl (Sub.skip rfl (Sub.skip rfl (Sub.refl _))))))) hk
          · intro hb30 hk
            refine o_guard_no rfl 164 rfl rfl rfl rfl rfl ?_
            refine o_guard_no rfl 164 rfl rfl rfl rfl rfl ?_
            refine o_guard_no rfl 164 rfl rfl rfl rfl rfl ?_
            refine o_pure (p_pick_true (u := .bool true) rfl rfl) rfl rfl rfl ?_
            exact o_sub (Sub.cons rfl (Sub.skip rfl (Sub.skip rfl (Sub.skip rfl (Sub.skip rfl (Sub.skip rfl (Sub.refl _))))))) hk
          refine o_pure (p_assign (v := .bool (((((Deep.roomErr l a) != 0) || ((Deep.roomErr l b) != 0)) || decide (b < a)) || decide ((Deep.room l a) ≤ (Deep.room l b)))) rfl) rfl rfl rfl ?_
          refine o_nil ?_
          refine q_then ?_
          refine c_ret ?_
          have hr0 : ((((((Deep.roomErr l a) != 0) || ((Deep.roomErr l b) != 0)) || decide (b < a)) || decide ((Deep.room l a) ≤ (Deep.room l b))) : Bool) = true := by
            first | rfl | (have h9 : Lru.trace l ≠ 0 := (by assumption); obtain ⟨q1, q2, q3⟩ := Deep.spec_bad h9; obtain ⟨q4, q5⟩ := Deep.spec_bad2 a h9; obtain ⟨q6, q7⟩ := Deep.spec_bad2 b h9; simp [q2, q5, q7]; done) | (rcases Deep.mono_end l a b with h | h | h | h <;> simp [h])
          refine q_end0 (v := .bool (((((Deep.roomErr l a) != 0) || ((Deep.roomErr l b) != 0)) || decide (b < a)) || decide ((Deep.room l a) ≤ (Deep.room l b)))) (rt1 rfl (r_tmp rfl)) (i := 2) rfl ?_
          exact (by have hcc := congrArg (fun (y0 : Bool) => (.bool y0 : Value)) hr0; exact hcc)
end Go.Proofs.Ytagbihjkdejdjaa
