/- The walks, printed by a program from the translation and a specification. -/
import Derived.Test.YtkndekkacimekaaTdF
import Derived.Test.YtkndekkacimekaaTdLaw
import Derived.Test.YtkndekkacimekaaTdW8
import Derived.Test.YtkndekkacimekaaTdW10
import Derived.Test.YtkndekkacimekaaTdW11
namespace Go.Proofs.Ytkndekkacimekaa
open Go.Sx Go.RowKit
set_option maxHeartbeats 8000000 in
set_option maxRecDepth 100000 in
theorem topDepths_ok (near : Int) (far : Int) (l : List Int) (al : Option Addr) (cl : Nat) : Fn0 Try.prog 13 [.int .i64 near, .int .i64 far, .slice al l.length cl] (fun w => Rd tInt w al cl l) (.bool true) := by
  refine fn0 (nt := 73) (F0 := [(0, .int .i64 near), (1, .int .i64 far), (2, .slice al l.length cl)]) Try.func13 rfl Try.ntmps13 rfl rfl (fun w0 hpre => ?_)
  have hl := hpre
  have hlhl := hl.2.1
  refine c_seq ?_
  refine c_region ?_
  refine o_pure (p_assign (v := .bool false) rfl) rfl rfl rfl ?_
  refine o_nil ?_
  refine q_then ?_
  refine c_seq ?_
  refine c_seq ?_
  refine c_region ?_
  refine o_call0 (v := .bool true) rfl (tbegun_ok ) hf43 (fun _ _ => trivial) rfl ?_
  refine o_pure (p_not (b := true) rfl) rfl rfl rfl ?_
  refine o_nil ?_
  refine q_then ?_
  refine c_false rfl ?_
  refine c_skip ?_
  refine q_then ?_
  refine c_seq ?_
  refine c_region ?_
  refine o_pure (p_move (v := .slice al l.length cl) rfl) rfl rfl rfl ?_
  refine o_callM rfl (dHits_ok l al cl) hf31 (fun w hw => (rd_base (i := 0) rfl hl) w hw) rfl (fun _ _ _ _ ha hA => SlO.agree ha hA) ?_
  rintro ⟨a3, c4⟩ S1
  refine o_know (fun w hw => own_len (i := 0) (T := tInt) hw rfl) (fun hlr5 => ?_)
  refine o_pure (p_move (v := .tuple #[.slice a3 (Deep.hitsR l).length c4, .int .i64 (Lru.trace l)]) rfl) rfl rfl rfl ?_
  refine o_pure (p_extract (vs := [.slice a3 (Deep.hitsR l).length c4, .int .i64 (Lru.trace l)]) (v := .slice a3 (Deep.hitsR l).length c4) rfl rfl) rfl rfl rfl ?_
  refine o_pure (p_extract (vs := [.slice a3 (Deep.hitsR l).length c4, .int .i64 (Lru.trace l)]) (v := .int .i64 (Lru.trace l)) rfl rfl) rfl rfl rfl ?_
  refine o_pure (p_assign (v := .slice a3 (Deep.hitsR l).length c4) rfl) rfl rfl rfl ?_
  refine o_pure (p_assign (v := .int .i64 (Lru.trace l)) rfl) rfl rfl rfl ?_
  refine o_nil ?_
  refine q_then ?_
  refine c_seq ?_
  refine c_region ?_
  refine o_pure (p_move (v := .int .i64 near) rfl) rfl rfl rfl ?_
  refine o_pure (p_move (v := .int .i64 far) rfl) rfl rfl rfl ?_
  refine o_pure (p_build (cells := [.int .i64 near, .int .i64 far, .slice none 0 0, .slice none 0 0]) fp76 ze76 rfl rfl) rfl rfl rfl ?_
  refine o_pure (p_move (v := .slice al l.length cl) rfl) rfl rfl rfl ?_
  refine o_callM rfl (trun_ok (⟨near, far, [], []⟩ : DTiers) none 0 none 0 l al cl) hf44 (fun w hw => ⟨rd_nil w hw, rd_nil w hw, (rd_base (i := 1) rfl hl) w hw⟩) rfl (fun _ _ _ _ ha hA => ⟨SlR.agree ha hA.1, SlR.agree ha hA.2⟩) ?_
  rintro ⟨a8, c9, a10, c11⟩ S6
  refine o_know (fun w hw => (hw.at (i := 0) rfl).here.1.2.1) (fun hlr12 => ?_)
  refine o_know (fun w hw => (hw.at (i := 0) rfl).here.2.2.1) (fun hlr13 => ?_)
  refine o_pure (p_move (v := .tuple #[.agg #[.int .i64 (((Tier.run (⟨near, far, [], []⟩ : DTiers) l).1).near), .int .i64 (((Tier.run (⟨near, far, [], []⟩ : DTiers) l).1).far), .slice a8 (((Tier.run (⟨near, far, [], []⟩ : DTiers) l).1).first).length c9, .slice a10 (((Tier.run (⟨near, far, [], []⟩ : DTiers) l).1).rest).length c11], .int .i64 ((Tier.run (⟨near, far, [], []⟩ : DTiers) l).2.1), .int .i64 ((Tier.run (⟨near, far, [], []⟩ : DTiers) l).2.2), .int .i64 (Tier.runErr (⟨near, far, [], []⟩ : DTiers) l)]) rfl) rfl rfl rfl ?_
  refine o_pure (p_extract (vs := [.agg #[.int .i64 (((Tier.run (⟨near, far, [], []⟩ : DTiers) l).1).near), .int .i64 (((Tier.run (⟨near, far, [], []⟩ : DTiers) l).1).far), .slice a8 (((Tier.run (⟨near, far, [], []⟩ : DTiers) l).1).first).length c9, .slice a10 (((Tier.run (⟨near, far, [], []⟩ : DTiers) l).1).rest).length c11], .int .i64 ((Tier.run (⟨near, far, [], []⟩ : DTiers) l).2.1), .int .i64 ((Tier.run (⟨near, far, [], []⟩ : DTiers) l).2.2), .int .i64 (Tier.runErr (⟨near, far, [], []⟩ : DTiers) l)]) (v := .agg #[.int .i64 (((Tier.run (⟨near, far, [], []⟩ : DTiers) l).1).near), .int .i64 (((Tier.run (⟨near, far, [], []⟩ : DTiers) l).1).far), .slice a8 (((Tier.run (⟨near, far, [], []⟩ : DTiers) l).1).first).length c9, .slice a10 (((Tier.run (⟨near, far, [], []⟩ : DTiers) l).1).rest).length c11]) rfl rfl) rfl rfl rfl ?_
  refine o_pure (p_extract (vs := [.agg #[.int .i64 (((Tier.run (⟨near, far, [], []⟩ : DTiers) l).1).near), .int .i64 (((Tier.run (⟨near, far, [], []⟩ : DTiers) l).1).far), .slice a8 (((Tier.run (⟨near, far, [], []⟩ : DTiers) l).1).first).length c9, .slice a10 (((Tier.run (⟨near, far, [], []⟩ : DTiers) l).1).rest).length c11], .int .i64 ((Tier.run (⟨near, far, [], []⟩ : DTiers) l).2.1), .int .i64 ((Tier.run (⟨near, far, [], []⟩ : DTiers) l).2.2), .int .i64 (Tier.runErr (⟨near, far, [], []⟩ : DTiers) l)]) (v := .int .i64 ((Tier.run (⟨near, far, [], []⟩ : DTiers) l).2.1)) rfl rfl) rfl rfl rfl ?_
  refine o_pure (p_extract (vs := [.agg #[.int .i64 (((Tier.run (⟨near, far, [], []⟩ : DTiers) l).1).near), .int .i64 (((Tier.run (⟨near, far, [], []⟩ : DTiers) l).1).far), .slice a8 (((Tier.run (⟨near, far, [], []⟩ : DTiers) l).1).first).length c9, .slice a10 (((Tier.run (⟨near, far, [], []⟩ : DTiers) l).1).rest).length c11], .int .i64 ((Tier.run (⟨near, far, [], []⟩ : DTiers) l).2.1), .int .i64 ((Tier.run (⟨near, far, [], []⟩ : DTiers) l).2.2), .int .i64 (Tier.runErr (⟨near, far, [], []⟩ : DTiers) l)]) (v := .int .i64 ((Tier.run (⟨near, far, [], []⟩ : DTiers) l).2.2)) rfl rfl) rfl rfl rfl ?_
  refine o_pure (p_extract (vs := [.agg #[.int .i64 (((Tier.run (⟨near, far, [], []⟩ : DTiers) l).1).near), .int .i64 (((Tier.run (⟨near, far, [], []⟩ : DTiers) l).1).far), .slice a8 (((Tier.run (⟨near, far, [], []⟩ : DTiers) l).1).first).length c9, .slice a10 (((Tier.run (⟨near, far, [], []⟩ : DTiers) l).1).rest).length c11], .int .i64 ((Tier.run (⟨near, far, [], []⟩ : DTiers) l).2.1), .int .i64 ((Tier.run (⟨near, far, [], []⟩ : DTiers) l).2.2), .int .i64 (Tier.runErr (⟨near, far, [], []⟩ : DTiers) l)]) (v := .int .i64 (Tier.runErr (⟨near, far, [], []⟩ : DTiers) l)) rfl rfl) rfl rfl rfl ?_
  refine o_alloc ze76 rfl (fun B14 => ?_)
  refine o_storeN (i := 0) (vs := [.int .i64 (((Tier.run (⟨near, far, [], []⟩ : DTiers) l).1).near), .int .i64 (((Tier.run (⟨near, far, [], []⟩ : DTiers) l).1).far), .slice a8 (((Tier.run (⟨near, far, [], []⟩ : DTiers) l).1).first).length c9, .slice a10 (((Tier.run (⟨near, far, [], []⟩ : DTiers) l).1).rest).length c11]) (cs' := [.int .i64 (((Tier.run (⟨near, far, [], []⟩ : DTiers) l).1).near), .int .i64 (((Tier.run (⟨near, far, [], []⟩ : DTiers) l).1).far), .slice a8 (((Tier.run (⟨near, far, [], []⟩ : DTiers) l).1).first).length c9, .slice a10 (((Tier.run (⟨near, far, [], []⟩ : DTiers) l).1).rest).length c11]) rfl rfl rfl sz76 rfl rfl rfl rfl ?_
  refine o_pure (p_assign (v := .int .i64 ((Tier.run (⟨near, far, [], []⟩ : DTiers) l).2.1)) rfl) rfl rfl rfl ?_
  refine o_pure (p_assign (v := .int .i64 ((Tier.run (⟨near, far, [], []⟩ : DTiers) l).2.2)) rfl) rfl rfl rfl ?_
  refine o_pure (p_assign (v := .int .i64 (Tier.runErr (⟨near, far, [], []⟩ : DTiers) l)) rfl) rfl rfl rfl ?_
  refine o_nil ?_
  refine q_then ?_
  refine c_seq ?_
  refine c_seq ?_
  refine c_region ?_
  refine o_pure (p_move (v := .int .i64 (Lru.trace l)) rfl) rfl rfl rfl ?_
  refine o_pure (p_ne (p := (Lru.trace l)) (q := 0) rfl rfl) rfl rfl rfl ?_
  refine o_pure (p_move (v := .bool ((Lru.trace l) != 0)) rfl) rfl rfl rfl ?_
  refine o_or (p := 35) 3 ((Tier.runErr (⟨near, far, [], []⟩ : DTiers) l) != 0) ?_ ?_ ?_
  · intro hb15 hk
    simp only [bne_eq_false_iff_eq] at hb15
    refine o_unguard 32 rfl rfl ?_
    refine o_pure (p_move (v := .int .i64 (Tier.runErr (⟨near, far, [], []⟩ : DTiers) l)) rfl) rfl rfl rfl ?_
    refine o_unguard 32 rfl rfl ?_
    refine o_pure (p_ne (p := (Tier.runErr (⟨near, far, [], []⟩ : DTiers) l)) (q := 0) rfl rfl) rfl rfl rfl ?_
    refine o_pure (p_pick_false (v := .bool ((Tier.runErr (⟨near, far, [], []⟩ : DTiers) l) != 0)) rfl rfl) rfl rfl rfl ?_
    exact o_sub (Sub.cons rfl (Sub.skip rfl (Sub.skip rfl (Sub.skip rfl (Sub.skip rfl (Sub.refl _)))))) hk
  · intro hb15 hk
    refine o_guard_no rfl 32 rfl rfl rfl rfl rfl ?_
    refine o_guard_no rfl 32 rfl rfl rfl rfl rfl ?_
    refine o_pure (p_pick_true (u := .bool true) rfl rfl) rfl rfl rfl ?_
    exact o_sub (Sub.cons rfl (Sub.skip rfl (Sub.skip rfl (Sub.skip rfl (Sub.skip rfl (Sub.refl _)))))) hk
  refine o_nil ?_
  refine q_then ?_
  refine c_cond (b := (((Lru.trace l) != 0) || ((Tier.runErr (⟨near, far, [], []⟩ : DTiers) l) != 0))) rfl (fun hc16 => ?_) (fun hc16 => ?_)
  · simp only [Bool.or_eq_true, bne_iff_ne, ne_eq] at hc16
    refine c_seq ?_
    refine c_region ?_
    refine o_pure (p_assign (v := .bool true) rfl) rfl rfl rfl ?_
    refine o_nil ?_
    refine q_then ?_
    refine c_ret ?_
    refine q_then_ret ?_
    refine q_end0 (v := .bool true) (rt1 rfl (r_tmp rfl)) (i := 3) rfl ?_
    exact rfl
  · simp only [Bool.or_eq_false_iff, bne_eq_false_iff_eq] at hc16
    obtain ⟨d1, d2, d3, d4, d5, d6, d7⟩ := Tier.depths hc16.1 hc16.2
    have d8 := d6 (by omega)
    have d9 := d7 (by omega)
    have hbb := Tier.run_small (⟨near, far, [], []⟩ : DTiers) l
    refine c_skip ?_
    refine q_then ?_
    refine c_seq ?_
    refine c_region ?_
    refine o_pure (p_move (v := .slice a3 (Deep.hitsR l).length c4) rfl) rfl rfl rfl ?_
    refine o_pure (p_len_slice (len := (Deep.hitsR l).length) rfl rfl Try.underlying30) rfl rfl rfl ?_
    refine o_pure (p_eq (p := ((Deep.hitsR l).length : Int)) (q := 40) rfl rfl) rfl rfl rfl ?_
    refine o_pure (p_move (v := .bool (((Deep.hitsR l).length : Int) == 40)) rfl) rfl rfl rfl ?_
    refine o_and (p := 42) 3 (decide (1 ≤ near)) ?_ ?_ ?_
    · intro hb17 hk
      simp only [beq_iff_eq] at hb17
      refine o_unguard 39 rfl rfl ?_
      refine o_pure (p_move (v := .int .i64 near) rfl) rfl rfl rfl ?_
      refine o_unguard 39 rfl rfl ?_
      refine o_pure (p_ge (p := near) (q := 1) rfl rfl) rfl rfl rfl ?_
      refine o_pure (p_pick_true (u := .bool (decide (1 ≤ near))) rfl rfl) rfl rfl rfl ?_
      exact o_sub (Sub.cons rfl (Sub.skip rfl (Sub.skip rfl (Sub.skip rfl (Sub.skip rfl (Sub.refl _)))))) hk
    · intro hb17 hk
      refine o_guard_no rfl 39 rfl rfl rfl rfl rfl ?_
      refine o_guard_no rfl 39 rfl rfl rfl rfl rfl ?_
      refine o_pure (p_pick_false (v := .bool false) rfl rfl) rfl rfl rfl ?_
      exact o_sub (Sub.cons rfl (Sub.skip rfl (Sub.skip rfl (Sub.skip rfl (Sub.skip rfl (Sub.refl _)))))) hk
    refine o_pure (p_move (v := .bool ((((Deep.hitsR l).length : Int) == 40) && decide (1 ≤ near))) rfl) rfl rfl rfl ?_
    refine o_and (p := 50) 7 (decide ((near + far) ≤ ((Deep.hitsR l).length : Int))) ?_ ?_ ?_
    · intro hb18 hk
      simp only [Bool.and_eq_true, beq_iff_eq, decide_eq_true_eq] at hb18
      refine o_unguard 43 rfl rfl ?_
      refine o_pure (p_move (v := .int .i64 near) rfl) rfl rfl rfl ?_
      refine o_unguard 43 rfl rfl ?_
      refine o_pure (p_move (v := .int .i64 far) rfl) rfl rfl rfl ?_
      refine o_unguard 43 rfl rfl ?_
      refine o_pure (p_addb (p := near) (q := far) rfl rfl (by omega)) rfl rfl rfl ?_
      refine o_unguard 43 rfl rfl ?_
      refine o_pure (p_move (v := .slice a3 (Deep.hitsR l).length c4) rfl) rfl rfl rfl ?_
      refine o_unguard 43 rfl rfl ?_
      refine o_pure (p_len_slice (len := (Deep.hitsR l).length) rfl rfl Try.underlying30) rfl rfl rfl ?_
      refine o_unguard 43 rfl rfl ?_
      refine o_pure (p_le (p := (near + far)) (q := ((Deep.hitsR l).length : Int)) rfl rfl) rfl rfl rfl ?_
      refine o_pure (p_pick_true (u := .bool (decide ((near + far) ≤ ((Deep.hitsR l).length : Int)))) rfl rfl) rfl rfl rfl ?_
      exact o_sub (Sub.cons rfl (Sub.skip rfl (Sub.skip rfl (Sub.skip rfl (Sub.skip rfl (Sub.skip rfl (Sub.skip rfl (Sub.skip rfl (Sub.skip rfl (Sub.refl _)))))))))) hk
    · intro hb18 hk
      refine o_guard_no rfl 43 rfl rfl rfl rfl rfl ?_
      refine o_guard_no rfl 43 rfl rfl rfl rfl rfl ?_
      refine o_guard_no rfl 43 rfl rfl rfl rfl rfl ?_
      refine o_guard_no rfl 43 rfl rfl rfl rfl rfl ?_
      refine o_guard_no rfl 43 rfl rfl rfl rfl rfl ?_
      refine o_guard_no rfl 43 rfl rfl rfl rfl rfl ?_
      refine o_pure (p_pick_false (v := .bool false) rfl rfl) rfl rfl rfl ?_
      exact o_sub (Sub.cons rfl (Sub.skip rfl (Sub.skip rfl (Sub.skip rfl (Sub.skip rfl (Sub.skip rfl (Sub.skip rfl (Sub.skip rfl (Sub.skip rfl (Sub.refl _)))))))))) hk
    refine o_pure (p_move (v := .bool (((((Deep.hitsR l).length : Int) == 40) && decide (1 ≤ near)) && decide ((near + far) ≤ ((Deep.hitsR l).length : Int)))) rfl) rfl rfl rfl ?_
    refine o_and (p := 59) 8 (((Tier.run (⟨near, far, [], []⟩ : DTiers) l).2.1) == (Deep.hitsR l)[(near - 1).toNat]) ?_ ?_ ?_
    · intro hb19 hk
      simp only [Bool.and_eq_true, beq_iff_eq, decide_eq_true_eq] at hb19
      refine o_unguard 51 rfl rfl ?_
      refine o_pure (p_move (v := .int .i64 ((Tier.run (⟨near, far, [], []⟩ : DTiers) l).2.1)) rfl) rfl rfl rfl ?_
      refine o_unguard 51 rfl rfl ?_
      refine o_pure (p_move (v := .slice a3 (Deep.hitsR l).length c4) rfl) rfl rfl rfl ?_
      refine o_unguard 51 rfl rfl ?_
      refine o_pure (p_move (v := .int .i64 near) rfl) rfl rfl rfl ?_
      refine o_unguard 51 rfl rfl ?_
      refine o_pure (p_subb (p := near) (q := 1) rfl rfl (by omega)) rfl rfl rfl ?_
      refine o_unguard 51 rfl rfl ?_
      refine o_pure (p_indexAddr (L := (Deep.hitsR l)) (T := tInt) (i := (near - 1)) rfl rfl (rd_own (i := 2) rfl) Try.underlying30 sz3 (by omega) (by omega)) rfl rfl rfl ?_
      refine o_unguard 51 rfl rfl ?_
      refine o_pure (p_loadE1 (i := (near - 1).toNat) (T := tInt) (L := (Deep.hitsR l)) (v := .int .i64 ((Deep.hitsR l)[(near - 1).toNat])) rfl (rd_own (i := 2) rfl) (by first | assumption | omega) sh3 rfl) rfl rfl rfl ?_
      refine o_unguard 51 rfl rfl ?_
      refine o_pure (p_eq (p := ((Tier.run (⟨near, far, [], []⟩ : DTiers) l).2.1)) (q := (Deep.hitsR l)[(near - 1).toNat]) rfl rfl) rfl rfl rfl ?_
      refine o_pure (p_pick_true (u := .bool (((Tier.run (⟨near, far, [], []⟩ : DTiers) l).2.1) == (Deep.hitsR l)[(near - 1).toNat])) rfl rfl) rfl rfl rfl ?_
      exact o_sub (Sub.cons rfl (Sub.skip rfl (Sub.skip rfl (Sub.skip rfl (Sub.skip rfl (Sub.skip rfl (Sub.skip rfl (Sub.skip rfl (Sub.skip rfl (Sub.skip rfl (Sub.refl _))))))))))) hk
    · intro hb19 hk
      refine o_guard_no rfl 51 rfl rfl rfl rfl rfl ?_
      refine o_guard_no rfl 51 rfl rfl rfl rfl rfl ?_
      refine o_guard_no rfl 51 rfl rfl rfl rfl rfl ?_
      refine o_guard_no rfl 51 rfl rfl rfl rfl rfl ?_
      refine o_guard_no rfl 51 rfl rfl rfl rfl rfl ?_
      refine o_guard_no rfl 51 rfl rfl rfl rfl rfl ?_
      refine o_guard_no rfl 51 rfl rfl rfl rfl rfl ?_
      refine o_pure (p_pick_false (v := .bool false) rfl rfl) rfl rfl rfl ?_
      exact o_sub (Sub.cons rfl (Sub.skip rfl (Sub.skip rfl (Sub.skip rfl (Sub.skip rfl (Sub.skip rfl (Sub.skip rfl (Sub.skip rfl (Sub.skip rfl (Sub.skip rfl (Sub.refl _))))))))))) hk
    refine o_pure (p_move (v := .bool ((((((Deep.hitsR l).length : Int) == 40) && decide (1 ≤ near)) && decide ((near + far) ≤ ((Deep.hitsR l).length : Int))) && (((Tier.run (⟨near, far, [], []⟩ : DTiers) l).2.1) == (Deep.hitsR l)[(near - 1).toNat]))) rfl) rfl rfl rfl ?_
    refine o_and (p := 72) 12 ((((Tier.run (⟨near, far, [], []⟩ : DTiers) l).2.1) + ((Tier.run (⟨near, far, [], []⟩ : DTiers) l).2.2)) == (Deep.hitsR l)[((near + far) - 1).toNat]) ?_ ?_ ?_
    · intro hb20 hk
      simp only [Bool.and_eq_true, beq_iff_eq, decide_eq_true_eq] at hb20
      refine o_unguard 60 rfl rfl ?_
      refine o_pure (p_move (v := .int .i64 ((Tier.run (⟨near, far, [], []⟩ : DTiers) l).2.1)) rfl) rfl rfl rfl ?_
      refine o_unguard 60 rfl rfl ?_
      refine o_pure (p_move (v := .int .i64 ((Tier.run (⟨near, far, [], []⟩ : DTiers) l).2.2)) rfl) rfl rfl rfl ?_
      refine o_unguard 60 rfl rfl ?_
      refine o_pure (p_addb (p := ((Tier.run (⟨near, far, [], []⟩ : DTiers) l).2.1)) (q := ((Tier.run (⟨near, far, [], []⟩ : DTiers) l).2.2)) rfl rfl (by omega)) rfl rfl rfl ?_
      refine o_unguard 60 rfl rfl ?_
      refine o_pure (p_move (v := .slice a3 (Deep.hitsR l).length c4) rfl) rfl rfl rfl ?_
      refine o_unguard 60 rfl rfl ?_
      refine o_pure (p_move (v := .int .i64 near) rfl) rfl rfl rfl ?_
      refine o_unguard 60 rfl rfl ?_
      refine o_pure (p_move (v := .int .i64 far) rfl) rfl rfl rfl ?_
      refine o_unguard 60 rfl rfl ?_
      refine o_pure (p_addb (p := near) (q := far) rfl rfl (by omega)) rfl rfl rfl ?_
      refine o_unguard 60 rfl rfl ?_
      refine o_pure (p_subb (p := (near + far)) (q := 1) rfl rfl (by omega)) rfl rfl rfl ?_
      refine o_unguard 60 rfl rfl ?_
      refine o_pure (p_indexAddr (L := (Deep.hitsR l)) (T := tInt) (i := ((near + far) - 1)) rfl rfl (rd_own (i := 2) rfl) Try.underlying30 sz3 (by omega) (by omega)) rfl rfl rfl ?_
      refine o_unguard 60 rfl rfl ?_
      refine o_pure (p_loadE1 (i := ((near + far) - 1).toNat) (T := tInt) (L := (Deep.hitsR l)) (v := .int .i64 ((Deep.hitsR l)[((near + far) - 1).toNat])) rfl (rd_own (i := 2) rfl) (by first | assumption | omega) sh3 rfl) rfl rfl rfl ?_
      refine o_unguard 60 rfl rfl ?_
      refine o_pure (p_eq (p := (((Tier.run (⟨near, far, [], []⟩ : DTiers) l).2.1) + ((Tier.run (⟨near, far, [], []⟩ : DTiers) l).2.2))) (q := (Deep.hitsR l)[((near + far) - 1).toNat]) rfl rfl) rfl rfl rfl ?_
      refine o_pure (p_pick_true (u := .bool ((((Tier.run (⟨near, far, [], []⟩ : DTiers) l).2.1) + ((Tier.run (⟨near, far, [], []⟩ : DTiers) l).2.2)) == (Deep.hitsR l)[((near + far) - 1).toNat])) rfl rfl) rfl rfl rfl ?_
      exact o_sub (Sub.cons rfl (Sub.skip rfl (Sub.skip rfl (Sub.skip rfl (Sub.skip rfl (Sub.skip rfl (Sub.skip rfl (Sub.skip rfl (Sub.skip rfl (Sub.skip rfl (Sub.skip rfl (Sub.skip rfl (Sub.skip rfl (Sub.skip rfl (Sub.refl _))))))))))))))) hk
    · intro hb20 hk
      refine o_guard_no rfl 60 rfl rfl rfl rfl rfl ?_
      refine o_guard_no rfl 60 rfl rfl rfl rfl rfl ?_
      refine o_guard_no rfl 60 rfl rfl rfl rfl rfl ?_
      refine o_guard_no rfl 60 rfl rfl rfl rfl rfl ?_
      refine o_guard_no rfl 60 rfl rfl rfl rfl rfl ?_
      refine o_guard_no rfl 60 rfl rfl rfl rfl rfl ?_
      refine o_guard_no rfl 60 rfl rfl rfl rfl rfl ?_
      refine o_guard_no rfl 60 rfl rfl rfl rfl rfl ?_
      refine o_guard_no rfl 60 rfl rfl rfl rfl rfl ?_
      refine o_guard_no rfl 60 rfl rfl rfl rfl rfl ?_
      refine o_guard_no rfl 60 rfl rfl rfl rfl rfl ?_
      refine o_pure (p_pick_false (v := .bool false) rfl rfl) rfl rfl rfl ?_
      exact o_sub (Sub.cons rfl (Sub.skip rfl (Sub.skip rfl (Sub.skip rfl (Sub.skip rfl (Sub.skip rfl (Sub.skip rfl (Sub.skip rfl (Sub.skip rfl (Sub.skip rfl (Sub.skip rfl (Sub.skip rfl (Sub.skip rfl (Sub.skip rfl (Sub.refl _))))))))))))))) hk
    refine o_pure (p_assign (v := .bool (((((((Deep.hitsR l).length : Int) == 40) && decide (1 ≤ near)) && decide ((near + far) ≤ ((Deep.hitsR l).length : Int))) && (((Tier.run (⟨near, far, [], []⟩ : DTiers) l).2.1) == (Deep.hitsR l)[(near - 1).toNat])) && ((((Tier.run (⟨near, far, [], []⟩ : DTiers) l).2.1) + ((Tier.run (⟨near, far, [], []⟩ : DTiers) l).2.2)) == (Deep.hitsR l)[((near + far) - 1).toNat]))) rfl) rfl rfl rfl ?_
    refine o_nil ?_
    refine q_then ?_
    refine c_ret ?_
    have hr0 : ((((((((Deep.hitsR l).length : Int) == 40) && decide (1 ≤ near)) && decide ((near + far) ≤ ((Deep.hitsR l).length : Int))) && (((Tier.run (⟨near, far, [], []⟩ : DTiers) l).2.1) == (Deep.hitsR l)[(near - 1).toNat])) && ((((Tier.run (⟨near, far, [], []⟩ : DTiers) l).2.1) + ((Tier.run (⟨near, far, [], []⟩ : DTiers) l).2.2)) == (Deep.hitsR l)[((near + far) - 1).toNat])) : Bool) = true := by
      first | rfl | (rw [← d8, ← d9, d1]; simp; omega)
    refine q_end0 (v := .bool (((((((Deep.hitsR l).length : Int) == 40) && decide (1 ≤ near)) && decide ((near + far) ≤ ((Deep.hitsR l).length : Int))) && (((Tier.run (⟨near, far, [], []⟩ : DTiers) l).2.1) == (Deep.hitsR l)[(near - 1).toNat])) && ((((Tier.run (⟨near, far, [], []⟩ : DTiers) l).2.1) + ((Tier.run (⟨near, far, [], []⟩ : DTiers) l).2.2)) == (Deep.hitsR l)[((near + far) - 1).toNat]))) (rt1 rfl (r_tmp rfl)) (i := 3) rfl ?_
    exact (by have hcc := congrArg (fun (y0 : Bool) => (.bool y0 : Value)) hr0; exact hcc)
end Go.Proofs.Ytkndekkacimekaa
