/- The walks, printed by a program from the translation and a specification. -/
import Derived.Test.YtkndekkacimekaaDpF
import Derived.Test.YtkndekkacimekaaDpLaw3
import Derived.Test.YtkndekkacimekaaDpW8
import Derived.Test.YtkndekkacimekaaDpW4
namespace Go.Proofs.Ytkndekkacimekaa
open Go.Sx Go.RowKit
set_option maxHeartbeats 8000000 in
set_option maxRecDepth 100000 in
theorem distanceHits_ok (l : List Int) (al : Option Addr) (cl : Nat) (room : Int) : Fn0 Try.prog 8 [.slice al l.length cl, .int .i64 room] (fun w => Rd tInt w al cl l) (.bool true) := by
  refine fn0 (nt := 53) (F0 := [(0, .slice al l.length cl), (1, .int .i64 room)]) Try.func8 rfl Try.ntmps8 rfl rfl (fun w0 hpre => ?_)
  have hl := hpre
  have hlhl := hl.2.1
  refine c_seq ?_
  refine c_region ?_
  refine o_pure (p_assign (v := .bool false) rfl) rfl rfl rfl ?_
  refine o_nil ?_
  refine q_then ?_
  refine c_seq ?_
  refine c_region ?_
  refine o_pure (p_move (v := .slice al l.length cl) rfl) rfl rfl rfl ?_
  refine o_callM rfl (dHits_ok l al cl) hf31 (fun w hw => (rd_base (i := 0) rfl hl) w hw) rfl (fun _ _ _ _ ha hA => SlO.agree ha hA) ?_
  rintro ⟨a3, c4⟩ S1
  refine o_know (fun w hw => own_len (i := 0) (T := tInt) hw rfl) (fun hlr5 => ?_)
  refine o_pure (p_move (v := .tuple #[.slice a3 (Deep.hitsR l).length c4, .int .i64 (Lru.trace l)]) rfl) rfl rfl rfl ?_
  refine o_pure (p_extract (vs := [.slice a3 (Deep.hitsR l).length c4, .int .i64 (Lru.trace l)]) (v := .slice a3 (Deep.hitsR l).length c4) rfl rfl) rfl rfl rfl ?_
  refine o_pure (p_extract (vs := [.slice a3 (Deep.hitsR l).length c4, .int .i64 (Lru.trace l)]) (v := .int .i64 (Lru.trace l)) rfl rfl) rfl rfl rfl ?_
  refine o_pure (p_assign (v := .slice a3 (Deep.hitsR l).length c4) rfl) rfl rfl rfl ?_
  refine o_pure (p_assign (v := .int .i64 (Lru.trace l)) rfl) rfl rfl rfl ?_
  refine o_nil ?_
  refine q_then ?_
  refine c_seq ?_
  refine c_region ?_
  refine o_pure (p_move (v := .int .i64 room) rfl) rfl rfl rfl ?_
  refine o_pure (p_build (cells := [.int .i64 room, .slice none 0 0]) fp54 ze54 rfl rfl) rfl rfl rfl ?_
  refine o_pure (p_move (v := .slice al l.length cl) rfl) rfl rfl rfl ?_
  refine o_callM rfl (lrun_ok (⟨room, []⟩ : DCache) none 0 l al cl) hf32 (fun w hw => ⟨rd_nil w hw, (rd_base (i := 1) rfl hl) w hw⟩) rfl (fun _ _ _ _ ha hA => SlO.agree ha hA) ?_
  rintro ⟨a8, c9⟩ S6
  refine o_know (fun w hw => own_len (i := 0) (T := tInt) hw rfl) (fun hlr10 => ?_)
  refine o_pure (p_move (v := .tuple #[.agg #[.int .i64 (((Lru.run (⟨room, []⟩ : DCache) l).1).room), .slice a8 (((Lru.run (⟨room, []⟩ : DCache) l).1).keys).length c9], .int .i64 ((Lru.run (⟨room, []⟩ : DCache) l).2), .int .i64 (Lru.runErr (⟨room, []⟩ : DCache) l)]) rfl) rfl rfl rfl ?_
  refine o_pure (p_extract (vs := [.agg #[.int .i64 (((Lru.run (⟨room, []⟩ : DCache) l).1).room), .slice a8 (((Lru.run (⟨room, []⟩ : DCache) l).1).keys).length c9], .int .i64 ((Lru.run (⟨room, []⟩ : DCache) l).2), .int .i64 (Lru.runErr (⟨room, []⟩ : DCache) l)]) (v := .agg #[.int .i64 (((Lru.run (⟨room, []⟩ : DCache) l).1).room), .slice a8 (((Lru.run (⟨room, []⟩ : DCache) l).1).keys).length c9]) rfl rfl) rfl rfl rfl ?_
  refine o_pure (p_extract (vs := [.agg #[.int .i64 (((Lru.run (⟨room, []⟩ : DCache) l).1).room), .slice a8 (((Lru.run (⟨room, []⟩ : DCache) l).1).keys).length c9], .int .i64 ((Lru.run (⟨room, []⟩ : DCache) l).2), .int .i64 (Lru.runErr (⟨room, []⟩ : DCache) l)]) (v := .int .i64 ((Lru.run (⟨room, []⟩ : DCache) l).2)) rfl rfl) rfl rfl rfl ?_
  refine o_pure (p_extract (vs := [.agg #[.int .i64 (((Lru.run (⟨room, []⟩ : DCache) l).1).room), .slice a8 (((Lru.run (⟨room, []⟩ : DCache) l).1).keys).length c9], .int .i64 ((Lru.run (⟨room, []⟩ : DCache) l).2), .int .i64 (Lru.runErr (⟨room, []⟩ : DCache) l)]) (v := .int .i64 (Lru.runErr (⟨room, []⟩ : DCache) l)) rfl rfl) rfl rfl rfl ?_
  refine o_alloc ze54 rfl (fun B11 => ?_)
  refine o_storeN (i := 0) (vs := [.int .i64 (((Lru.run (⟨room, []⟩ : DCache) l).1).room), .slice a8 (((Lru.run (⟨room, []⟩ : DCache) l).1).keys).length c9]) (cs' := [.int .i64 (((Lru.run (⟨room, []⟩ : DCache) l).1).room), .slice a8 (((Lru.run (⟨room, []⟩ : DCache) l).1).keys).length c9]) rfl rfl rfl sz54 rfl rfl rfl rfl ?_
  refine o_pure (p_assign (v := .int .i64 ((Lru.run (⟨room, []⟩ : DCache) l).2)) rfl) rfl rfl rfl ?_
  refine o_pure (p_assign (v := .int .i64 (Lru.runErr (⟨room, []⟩ : DCache) l)) rfl) rfl rfl rfl ?_
  refine o_nil ?_
  refine q_then ?_
  refine c_seq ?_
  refine c_seq ?_
  refine c_region ?_
  refine o_call0 (v := .bool true) rfl (deepBegun_ok ) hf29 (fun _ _ => trivial) rfl ?_
  refine o_pure (p_not (b := true) rfl) rfl rfl rfl ?_
  refine o_nil ?_
  refine q_then ?_
  refine c_false rfl ?_
  refine c_skip ?_
  refine q_then ?_
  refine c_seq ?_
  refine c_seq ?_
  refine c_region ?_
  refine o_pure (p_move (v := .int .i64 (Lru.trace l)) rfl) rfl rfl rfl ?_
  refine o_pure (p_ne (p := (Lru.trace l)) (q := 0) rfl rfl) rfl rfl rfl ?_
  refine o_pure (p_move (v := .bool ((Lru.trace l) != 0)) rfl) rfl rfl rfl ?_
  refine o_or (p := 30) 3 ((Lru.runErr (⟨room, []⟩ : DCache) l) != 0) ?_ ?_ ?_
  · intro hb12 hk
    simp only [bne_eq_false_iff_eq] at hb12
    refine o_unguard 27 rfl rfl ?_
    refine o_pure (p_move (v := .int .i64 (Lru.runErr (⟨room, []⟩ : DCache) l)) rfl) rfl rfl rfl ?_
    refine o_unguard 27 rfl rfl ?_
    refine o_pure (p_ne (p := (Lru.runErr (⟨room, []⟩ : DCache) l)) (q := 0) rfl rfl) rfl rfl rfl ?_
    refine o_pure (p_pick_false (v := .bool ((Lru.runErr (⟨room, []⟩ : DCache) l) != 0)) rfl rfl) rfl rfl rfl ?_
    exact o_sub (Sub.cons rfl (Sub.skip rfl (Sub.skip rfl (Sub.skip rfl (Sub.skip rfl (Sub.refl _)))))) hk
  · intro hb12 hk
    refine o_guard_no rfl 27 rfl rfl rfl rfl rfl ?_
    refine o_guard_no rfl 27 rfl rfl rfl rfl rfl ?_
    refine o_pure (p_pick_true (u := .bool true) rfl rfl) rfl rfl rfl ?_
    exact o_sub (Sub.cons rfl (Sub.skip rfl (Sub.skip rfl (Sub.skip rfl (Sub.skip rfl (Sub.refl _)))))) hk
  refine o_nil ?_
  refine q_then ?_
  refine c_cond (b := (((Lru.trace l) != 0) || ((Lru.runErr (⟨room, []⟩ : DCache) l) != 0))) rfl (fun hc13 => ?_) (fun hc13 => ?_)
  · simp only [Bool.or_eq_true, bne_iff_ne, ne_eq] at hc13
    have hbad := hc13
    refine c_seq ?_
    refine c_region ?_
    refine o_pure (p_move (v := .int .i64 (Lru.trace l)) rfl) rfl rfl rfl ?_
    refine o_pure (p_ne (p := (Lru.trace l)) (q := 0) rfl rfl) rfl rfl rfl ?_
    refine o_pure (p_move (v := .bool ((Lru.trace l) != 0)) rfl) rfl rfl rfl ?_
    refine o_or (p := 36) 3 (decide (room < 1)) ?_ ?_ ?_
    · intro hb14 hk
      simp only [bne_eq_false_iff_eq] at hb14
      refine o_unguard 33 rfl rfl ?_
      refine o_pure (p_move (v := .int .i64 room) rfl) rfl rfl rfl ?_
      refine o_unguard 33 rfl rfl ?_
      refine o_pure (p_lt (p := room) (q := 1) rfl rfl) rfl rfl rfl ?_
      refine o_pure (p_pick_false (v := .bool (decide (room < 1))) rfl rfl) rfl rfl rfl ?_
      exact o_sub (Sub.cons rfl (Sub.skip rfl (Sub.skip rfl (Sub.skip rfl (Sub.skip rfl (Sub.refl _)))))) hk
    · intro hb14 hk
      refine o_guard_no rfl 33 rfl rfl rfl rfl rfl ?_
      refine o_guard_no rfl 33 rfl rfl rfl rfl rfl ?_
      refine o_pure (p_pick_true (u := .bool true) rfl rfl) rfl rfl rfl ?_
      exact o_sub (Sub.cons rfl (Sub.skip rfl (Sub.skip rfl (Sub.skip rfl (Sub.skip rfl (Sub.refl _)))))) hk
    refine o_pure (p_move (v := .bool (((Lru.trace l) != 0) || decide (room < 1))) rfl) rfl rfl rfl ?_
    refine o_or (p := 40) 3 (decide (40 < room)) ?_ ?_ ?_
    · intro hb15 hk
      simp only [Bool.or_eq_false_iff, bne_eq_false_iff_eq, decide_eq_false_iff_not, Int.not_lt] at hb15
      refine o_unguard 37 rfl rfl ?_
      refine o_pure (p_move (v := .int .i64 room) rfl) rfl rfl rfl ?_
      refine o_unguard 37 rfl rfl ?_
      refine o_pure (p_gt (p := room) (q := 40) rfl rfl) rfl rfl rfl ?_
      refine o_pure (p_pick_false (v := .bool (decide (40 < room))) rfl rfl) rfl rfl rfl ?_
      exact o_sub (Sub.cons rfl (Sub.skip rfl (Sub.skip rfl (Sub.skip rfl (Sub.skip rfl (Sub.refl _)))))) hk
    · intro hb15 hk
      refine o_guard_no rfl 37 rfl rfl rfl rfl rfl ?_
      refine o_guard_no rfl 37 rfl rfl rfl rfl rfl ?_
      refine o_pure (p_pick_true (u := .bool true) rfl rfl) rfl rfl rfl ?_
      exact o_sub (Sub.cons rfl (Sub.skip rfl (Sub.skip rfl (Sub.skip rfl (Sub.skip rfl (Sub.refl _)))))) hk
    refine o_pure (p_assign (v := .bool ((((Lru.trace l) != 0) || decide (room < 1)) || decide (40 < room))) rfl) rfl rfl rfl ?_
    refine o_nil ?_
    refine q_then ?_
    refine c_ret ?_
    refine q_then_ret ?_
    have hr0 : (((((Lru.trace l) != 0) || decide (room < 1)) || decide (40 < room)) : Bool) = true := by
      first | exact Deep.hits_err hbad | (rw [hh2]; simp [h40]; done)
    refine q_end0 (v := .bool ((((Lru.trace l) != 0) || decide (room < 1)) || decide (40 < room))) (rt1 rfl (r_tmp rfl)) (i := 3) rfl ?_
    exact (by have hcc := congrArg (fun (y0 : Bool) => (.bool y0 : Value)) hr0; exact hcc)
  · simp only [Bool.or_eq_false_iff, bne_eq_false_iff_eq] at hc13
    have ht := hc13.1
    have h40 := Deep.hitsR_len ht
    obtain ⟨hrr, hhh⟩ := Deep.lru_hits ht hc13.2
    have hh2 := hhh (by omega)
    refine c_skip ?_
    refine q_then ?_
    refine c_seq ?_
    refine c_region ?_
    refine o_pure (p_move (v := .slice a3 (Deep.hitsR l).length c4) rfl) rfl rfl rfl ?_
    refine o_pure (p_len_slice (len := (Deep.hitsR l).length) rfl rfl Try.underlying30) rfl rfl rfl ?_
    refine o_pure (p_eq (p := ((Deep.hitsR l).length : Int)) (q := 40) rfl rfl) rfl rfl rfl ?_
    refine o_pure (p_move (v := .bool (((Deep.hitsR l).length : Int) == 40)) rfl) rfl rfl rfl ?_
    refine o_and (p := 52) 8 ((Deep.hitsR l)[(room - 1).toNat] == ((Lru.run (⟨room, []⟩ : DCache) l).2)) ?_ ?_ ?_
    · intro hb16 hk
      simp only [beq_iff_eq] at hb16
      refine o_unguard 44 rfl rfl ?_
      refine o_pure (p_move (v := .slice a3 (Deep.hitsR l).length c4) rfl) rfl rfl rfl ?_
      refine o_unguard 44 rfl rfl ?_
      refine o_pure (p_move (v := .int .i64 room) rfl) rfl rfl rfl ?_
      refine o_unguard 44 rfl rfl ?_
      refine o_pure (p_subb (p := room) (q := 1) rfl rfl (by omega)) rfl rfl rfl ?_
      refine o_unguard 44 rfl rfl ?_
      refine o_pure (p_indexAddr (L := (Deep.hitsR l)) (T := tInt) (i := (room - 1)) rfl rfl (rd_own (i := 2) rfl) Try.underlying30 sz3 (by omega) (by omega)) rfl rfl rfl ?_
      refine o_unguard 44 rfl rfl ?_
      refine o_pure (p_loadE1 (i := (room - 1).toNat) (T := tInt) (L := (Deep.hitsR l)) (v := .int .i64 ((Deep.hitsR l)[(room - 1).toNat])) rfl (rd_own (i := 2) rfl) (by first | assumption | omega) sh3 rfl) rfl rfl rfl ?_
      refine o_unguard 44 rfl rfl ?_
      refine o_pure (p_move (v := .int .i64 ((Lru.run (⟨room, []⟩ : DCache) l).2)) rfl) rfl rfl rfl ?_
      refine o_unguard 44 rfl rfl ?_
      refine o_pure (p_eq (p := (Deep.hitsR l)[(room - 1).toNat]) (q := ((Lru.run (⟨room, []⟩ : DCache) l).2)) rfl rfl) rfl rfl rfl ?_
      refine o_pure (p_pick_true (u := .bool ((Deep.hitsR l)[(room - 1).toNat] == ((Lru.run (⟨room, []⟩ : DCache) l).2))) rfl rfl) rfl rfl rfl ?_
      exact o_sub (Sub.cons rfl (Sub.skip rfl (Sub.skip rfl (Sub.skip rfl (Sub.skip rfl (Sub.skip rfl (Sub.skip rfl (Sub.skip rfl (Sub.skip rfl (Sub.skip rfl (Sub.refl _))))))))))) hk
    · intro hb16 hk
      refine o_guard_no rfl 44 rfl rfl rfl rfl rfl ?_
      refine o_guard_no rfl 44 rfl rfl rfl rfl rfl ?_
      refine o_guard_no rfl 44 rfl rfl rfl rfl rfl ?_
      refine o_guard_no rfl 44 rfl rfl rfl rfl rfl ?_
      refine o_guard_no rfl 44 rfl rfl rfl rfl rfl ?_
      refine o_guard_no rfl 44 rfl rfl rfl rfl rfl ?_
      refine o_guard_no rfl 44 rfl rfl rfl rfl rfl ?_
      refine o_pure (p_pick_false (v := .bool false) rfl rfl) rfl rfl rfl ?_
      exact o_sub (Sub.cons rfl (Sub.skip rfl (Sub.skip rfl (Sub.skip rfl (Sub.skip rfl (Sub.skip rfl (Sub.skip rfl (Sub.skip rfl (Sub.skip rfl (Sub.skip rfl (Sub.refl _))))))))))) hk
    refine o_pure (p_assign (v := .bool ((((Deep.hitsR l).length : Int) == 40) && ((Deep.hitsR l)[(room - 1).toNat] == ((Lru.run (⟨room, []⟩ : DCache) l).2)))) rfl) rfl rfl rfl ?_
    refine o_nil ?_
    refine q_then ?_
    refine c_ret ?_
    have hr0 : (((((Deep.hitsR l).length : Int) == 40) && ((Deep.hitsR l)[(room - 1).toNat] == ((Lru.run (⟨room, []⟩ : DCache) l).2))) : Bool) = true := by
      first | exact Deep.hits_err hbad | (rw [hh2]; simp [h40]; done)
    refine q_end0 (v := .bool ((((Deep.hitsR l).length : Int) == 40) && ((Deep.hitsR l)[(room - 1).toNat] == ((Lru.run (⟨room, []⟩ : DCache) l).2)))) (rt1 rfl (r_tmp rfl)) (i := 3) rfl ?_
    exact (by have hcc := congrArg (fun (y0 : Bool) => (.bool y0 : Value)) hr0; exact hcc)
end Go.Proofs.Ytkndekkacimekaa
