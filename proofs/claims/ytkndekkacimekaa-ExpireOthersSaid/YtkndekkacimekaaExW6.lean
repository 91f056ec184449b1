/- The walks, printed by a program from the translation and a specification. -/
import Derived.Test.YtkndekkacimekaaExF
import Derived.Test.YtkndekkacimekaaExLaw2
import Derived.Test.YtkndekkacimekaaExW5
import Derived.Test.YtkndekkacimekaaExW3
namespace Go.Proofs.Ytkndekkacimekaa
open Go.Sx Go.RowKit
set_option maxHeartbeats 8000000 in
set_option maxRecDepth 100000 in
theorem eget_ok (s : DStore) (as_0 : Option Addr) (cs_0 : Nat) (key : Int) (now : Int) : Fn0 Try.prog 16 [.agg #[.int .i64 s.life, .slice as_0 s.entries.length cs_0], .int .i64 key, .int .i64 now] (fun w => Rd tEntry w as_0 cs_0 s.entries) (.tuple #[.int .i64 ((Exp.get s key now).1), .bool ((Exp.get s key now).2), .int .i64 (Exp.getErr s key now)]) := by
  refine fn0 (nt := 49) (F0 := [(0, .agg #[.int .i64 s.life, .slice as_0 s.entries.length cs_0]), (1, .int .i64 key), (2, .int .i64 now)]) Try.func16 rfl Try.ntmps16 rfl rfl (fun w0 hpre => ?_)
  have hs_0 := hpre
  have hlhs_0 := hs_0.2.1
  refine c_seq ?_
  refine c_region ?_
  refine o_box (v := .agg #[.int .i64 s.life, .slice as_0 s.entries.length cs_0]) rfl rfl (fun B1 => ?_)
  refine o_pure (p_assign (v := .int .i64 0) rfl) rfl rfl rfl ?_
  refine o_pure (p_assign (v := .bool false) rfl) rfl rfl rfl ?_
  refine o_pure (p_assign (v := .int .i64 0) rfl) rfl rfl rfl ?_
  refine o_nil ?_
  refine q_then ?_
  refine c_seq ?_
  refine c_region ?_
  refine o_pure (p_load_agg (i := 0) (vs := [.int .i64 s.life, .slice as_0 s.entries.length cs_0]) rfl rfl sh24 rfl rfl) rfl rfl rfl ?_
  refine o_pure (p_move (v := .int .i64 now) rfl) rfl rfl rfl ?_
  refine o_call0 (v := .int .i64 (Exp.nowErr s now)) rfl (enow_ok s as_0 cs_0 now) hf51 (fun w hw => (rd_base (i := 1) rfl hs_0) w hw) rfl ?_
  refine o_pure (p_assign (v := .int .i64 (Exp.nowErr s now)) rfl) rfl rfl rfl ?_
  refine o_nil ?_
  refine q_then ?_
  refine c_seq ?_
  refine c_seq ?_
  refine c_region ?_
  refine o_pure (p_move (v := .int .i64 (Exp.nowErr s now)) rfl) rfl rfl rfl ?_
  refine o_pure (p_eq (p := (Exp.nowErr s now)) (q := 0) rfl rfl) rfl rfl rfl ?_
  refine o_pure (p_move (v := .bool ((Exp.nowErr s now) == 0)) rfl) rfl rfl rfl ?_
  refine o_and (p := 21) 4 (!(Lru.okKey key)) ?_ ?_ ?_
  · intro hb2 hk
    simp only [beq_iff_eq] at hb2
    refine o_unguard 17 rfl rfl ?_
    refine o_pure (p_move (v := .int .i64 key) rfl) rfl rfl rfl ?_
    refine o_unguard 17 rfl rfl ?_
    refine o_call0 (v := .bool (Lru.okKey key)) rfl (key_ok key) hf52 (fun _ _ => trivial) rfl ?_
    refine o_unguard 17 rfl rfl ?_
    refine o_pure (p_not (b := (Lru.okKey key)) rfl) rfl rfl rfl ?_
    refine o_pure (p_pick_true (u := .bool (!(Lru.okKey key))) rfl rfl) rfl rfl rfl ?_
    exact o_sub (Sub.cons rfl (Sub.skip rfl (Sub.skip rfl (Sub.skip rfl (Sub.skip rfl (Sub.skip rfl (Sub.refl _))))))) hk
  · intro hb2 hk
    refine o_guard_no rfl 17 rfl rfl rfl rfl rfl ?_
    refine o_guard_no rfl 17 rfl rfl rfl rfl rfl ?_
    refine o_guard_no rfl 17 rfl rfl rfl rfl rfl ?_
    refine o_pure (p_pick_false (v := .bool false) rfl rfl) rfl rfl rfl ?_
    exact o_sub (Sub.cons rfl (Sub.skip rfl (Sub.skip rfl (Sub.skip rfl (Sub.skip rfl (Sub.skip rfl (Sub.refl _))))))) hk
  refine o_nil ?_
  refine q_then ?_
  refine c_cond (b := (((Exp.nowErr s now) == 0) && (!(Lru.okKey key)))) rfl (fun hc3 => ?_) (fun hc3 => ?_)
  · simp only [Bool.and_eq_true, beq_iff_eq, Bool.not_eq_true'] at hc3
    have hbad := hc3
    refine c_region ?_
    refine o_pure (p_assign (v := .int .i64 3) rfl) rfl rfl rfl ?_
    refine o_nil ?_
    refine q_then ?_
    refine c_seq ?_
    refine c_seq ?_
    refine c_region ?_
    refine o_pure (p_move (v := .int .i64 3) rfl) rfl rfl rfl ?_
    refine o_pure (p_ne (p := 3) (q := 0) rfl rfl) rfl rfl rfl ?_
    refine o_nil ?_
    refine q_then ?_
    refine c_true rfl ?_
    refine c_seq ?_
    refine c_region ?_
    refine o_pure (p_move (v := .int .i64 3) rfl) rfl rfl rfl ?_
    refine o_pure (p_assign (v := .int .i64 0) rfl) rfl rfl rfl ?_
    refine o_pure (p_assign (v := .bool false) rfl) rfl rfl rfl ?_
    refine o_pure (p_assign (v := .int .i64 3) rfl) rfl rfl rfl ?_
    refine o_nil ?_
    refine q_then ?_
    refine c_ret ?_
    refine q_then_ret ?_
    obtain ⟨hv1, hv2⟩ : _ ∧ _ := by first | exact Exp.ge2 (s := s) (key := key) (now := now) hbad.1 hbad.2 | exact Exp.ge1 (s := s) (key := key) (now := now) (by assumption) | exact Exp.ge4 hok hge (by assumption) | exact Exp.ge5 hok hge (by assumption)
    have hr0 : (0 : Int) = ((Exp.get s key now).1) := by
      first | (rw [hv1]; done) | (rw [hv1]; rfl) | (rw [hv2]; done) | exact hv2
    have hr1 : (false : Bool) = ((Exp.get s key now).2) := by
      first | (rw [hv1]; done) | (rw [hv1]; rfl) | (rw [hv2]; done) | exact hv2
    have hr2 : (3 : Int) = (Exp.getErr s key now) := by
      first | (rw [hv1]; done) | (rw [hv1]; rfl) | (rw [hv2]; done) | exact hv2
    refine q_end0 (v := .tuple #[.int .i64 0, .bool false, .int .i64 3]) (rt3 rfl (r_tmp rfl) (r_tmp rfl) (r_tmp rfl)) (i := 1) rfl ?_
    exact (by have hcc := congr (congr (congrArg (fun (y0 : Int) (y1 : Bool) (y2 : Int) => (.tuple #[.int .i64 y0, .bool y1, .int .i64 y2] : Value)) hr0) hr1) hr2; exact hcc)
  · simp only [Bool.and_eq_false_iff, beq_eq_false_iff_ne, ne_eq, Bool.not_eq_false'] at hc3
    have hro := hc3
    refine c_skip ?_
    refine q_then ?_
    refine c_seq ?_
    refine c_seq ?_
    refine c_region ?_
    refine o_pure (p_move (v := .int .i64 (Exp.nowErr s now)) rfl) rfl rfl rfl ?_
    refine o_pure (p_ne (p := (Exp.nowErr s now)) (q := 0) rfl rfl) rfl rfl rfl ?_
    refine o_nil ?_
    refine q_then ?_
    refine c_cond (b := ((Exp.nowErr s now) != 0)) rfl (fun hc4 => ?_) (fun hc4 => ?_)
    · simp only [bne_iff_ne, ne_eq] at hc4
      refine c_seq ?_
      refine c_region ?_
      refine o_pure (p_move (v := .int .i64 (Exp.nowErr s now)) rfl) rfl rfl rfl ?_
      refine o_pure (p_assign (v := .int .i64 0) rfl) rfl rfl rfl ?_
      refine o_pure (p_assign (v := .bool false) rfl) rfl rfl rfl ?_
      refine o_pure (p_assign (v := .int .i64 (Exp.nowErr s now)) rfl) rfl rfl rfl ?_
      refine o_nil ?_
      refine q_then ?_
      refine c_ret ?_
      refine q_then_ret ?_
      obtain ⟨hv1, hv2⟩ : _ ∧ _ := by first | exact Exp.ge2 (s := s) (key := key) (now := now) hbad.1 hbad.2 | exact Exp.ge1 (s := s) (key := key) (now := now) (by assumption) | exact Exp.ge4 hok hge (by assumption) | exact Exp.ge5 hok hge (by assumption)
      have hr0 : (0 : Int) = ((Exp.get s key now).1) := by
        first | (rw [hv1]; done) | (rw [hv1]; rfl) | (rw [hv2]; done) | exact hv2
      have hr1 : (false : Bool) = ((Exp.get s key now).2) := by
        first | (rw [hv1]; done) | (rw [hv1]; rfl) | (rw [hv2]; done) | exact hv2
      have hr2 : ((Exp.nowErr s now) : Int) = (Exp.getErr s key now) := by
        first | (rw [hv1]; done) | (rw [hv1]; rfl) | (rw [hv2]; done) | exact hv2
      refine q_end0 (v := .tuple #[.int .i64 0, .bool false, .int .i64 (Exp.nowErr s now)]) (rt3 rfl (r_tmp rfl) (r_tmp rfl) (r_tmp rfl)) (i := 1) rfl ?_
      exact (by have hcc := congr (congr (congrArg (fun (y0 : Int) (y1 : Bool) (y2 : Int) => (.tuple #[.int .i64 y0, .bool y1, .int .i64 y2] : Value)) hr0) hr1) hr2; exact hcc)
    · simp only [bne_eq_false_iff_eq] at hc4
      have hok := (Exp.now_ok hc4).1
      have hge : Exp.getErr s key now = 0 := Exp.ge3 hc4 (hro.resolve_left (fun h => h hc4))
      refine c_skip ?_
      refine q_then ?_
      refine c_seq ?_
      refine c_seq ?_
      refine c_region ?_
      refine o_pure (p_fieldAddr (B := B1) (j := 0) (j' := 1) rfl fo24_1 rfl) rfl rfl rfl ?_
      refine o_pure (p_load (i := 0) (v := .slice as_0 s.entries.length cs_0) rfl rfl sh22 rfl) rfl rfl rfl ?_
      refine o_pure (p_move (v := .int .i64 key) rfl) rfl rfl rfl ?_
      refine o_call0 (v := .tuple #[.int .i64 (Exp.findAt s.entries key : Int), .bool (Exp.findIs s.entries key)]) rfl (efind_ok s.entries as_0 cs_0 key (by first | assumption | exact hok.sorted | exact hpk.2.1)) hf49 (fun w hw => (rd_base (i := 1) rfl hs_0) w hw) rfl ?_
      refine o_pure (p_move (v := .tuple #[.int .i64 (Exp.findAt s.entries key : Int), .bool (Exp.findIs s.entries key)]) rfl) rfl rfl rfl ?_
      refine o_pure (p_extract (vs := [.int .i64 (Exp.findAt s.entries key : Int), .bool (Exp.findIs s.entries key)]) (v := .int .i64 (Exp.findAt s.entries key : Int)) rfl rfl) rfl rfl rfl ?_
      refine o_pure (p_extract (vs := [.int .i64 (Exp.findAt s.entries key : Int), .bool (Exp.findIs s.entries key)]) (v := .bool (Exp.findIs s.entries key)) rfl rfl) rfl rfl rfl ?_
      refine o_pure (p_assign (v := .int .i64 (Exp.findAt s.entries key : Int)) rfl) rfl rfl rfl ?_
      refine o_pure (p_assign (v := .bool (Exp.findIs s.entries key)) rfl) rfl rfl rfl ?_
      refine o_nil ?_
      refine q_then ?_
      refine c_seq ?_
      refine c_region ?_
      refine o_pure (p_move (v := .bool (Exp.findIs s.entries key)) rfl) rfl rfl rfl ?_
      refine o_pure (p_move (v := .bool (Exp.findIs s.entries key)) rfl) rfl rfl rfl ?_
      refine o_and (p := 42) 9 (decide (now < (s.entries.getD ((Exp.findAt s.entries key : Int).toNat) default).till)) ?_ ?_ ?_
      · intro hb5 hk
        skip
        refine o_unguard 33 rfl rfl ?_
        refine o_pure (p_fieldAddr (B := B1) (j := 0) (j' := 1) rfl fo24_1 rfl) rfl rfl rfl ?_
        refine o_unguard 33 rfl rfl ?_
        refine o_pure (p_load (i := 0) (v := .slice as_0 s.entries.length cs_0) rfl rfl sh22 rfl) rfl rfl rfl ?_
        refine o_unguard 33 rfl rfl ?_
        refine o_pure (p_move (v := .int .i64 (Exp.findAt s.entries key : Int)) rfl) rfl rfl rfl ?_
        refine o_unguard 33 rfl rfl ?_
        refine o_pure (p_indexAddr (L := s.entries) (T := tEntry) (i := (Exp.findAt s.entries key : Int)) rfl rfl (rd_base (i := 1) rfl hs_0) Try.underlying22 sz42 (by first | omega | (obtain ⟨hq, _⟩ := Exp.findIs_iff.1 (show Exp.findIs s.entries key = true from (by first | assumption | exact And.left (by assumption))); omega)) (by first | omega | (obtain ⟨hq, _⟩ := Exp.findIs_iff.1 (show Exp.findIs s.entries key = true from (by first | assumption | exact And.left (by assumption))); omega))) rfl rfl rfl ?_
        refine o_unguard 33 rfl rfl ?_
        refine o_pure (p_fieldAddrE rfl fo42_2) rfl rfl rfl ?_
        refine o_unguard 33 rfl rfl ?_
        refine o_pure (p_loadF (i := (Exp.findAt s.entries key : Int).toNat) (j := 2) (T := tEntry) (L := s.entries) (v := .int .i64 ((s.entries.getD ((Exp.findAt s.entries key : Int).toNat) default).till)) rfl (rd_base (i := 1) rfl hs_0) (by first | omega | (obtain ⟨hq, _⟩ := Exp.findIs_iff.1 (show Exp.findIs s.entries key = true from (by first | assumption | exact And.left (by assumption))); omega)) sh3 (congrArg (fun z => (tEntry.enc z)[2]?) (getd_at (by first | omega | (obtain ⟨hq, _⟩ := Exp.findIs_iff.1 (show Exp.findIs s.entries key = true from (by first | assumption | exact And.left (by assumption))); omega)) default))) rfl rfl rfl ?_
        refine o_unguard 33 rfl rfl ?_
        refine o_pure (p_move (v := .int .i64 now) rfl) rfl rfl rfl ?_
        refine o_unguard 33 rfl rfl ?_
        refine o_pure (p_gt (p := (s.entries.getD ((Exp.findAt s.entries key : Int).toNat) default).till) (q := now) rfl rfl) rfl rfl rfl ?_
        refine o_pure (p_pick_true (u := .bool (decide (now < (s.entries.getD ((Exp.findAt s.entries key : Int).toNat) default).till))) rfl rfl) rfl rfl rfl ?_
        exact o_sub (Sub.cons rfl (Sub.skip rfl (Sub.skip rfl (Sub.skip rfl (Sub.skip rfl (Sub.skip rfl (Sub.skip rfl (Sub.skip rfl (Sub.skip rfl (Sub.skip rfl (Sub.skip rfl (Sub.refl _)))))))))))) hk
      · intro hb5 hk
        refine o_guard_no rfl 33 rfl rfl rfl rfl rfl ?_
        refine o_guard_no rfl 33 rfl rfl rfl rfl rfl ?_
        refine o_guard_no rfl 33 rfl rfl rfl rfl rfl ?_
        refine o_guard_no rfl 33 rfl rfl rfl rfl rfl ?_
        refine o_guard_no rfl 33 rfl rfl rfl rfl rfl ?_
        refine o_guard_no rfl 33 rfl rfl rfl rfl rfl ?_
        refine o_guard_no rfl 33 rfl rfl rfl rfl rfl ?_
        refine o_guard_no rfl 33 rfl rfl rfl rfl rfl ?_
        refine o_pure (p_pick_false (v := .bool false) rfl rfl) rfl rfl rfl ?_
        exact o_sub (Sub.cons rfl (Sub.skip rfl (Sub.skip rfl (Sub.skip rfl (Sub.skip rfl (Sub.skip rfl (Sub.skip rfl (Sub.skip rfl (Sub.skip rfl (Sub.skip rfl (Sub.skip rfl (Sub.refl _)))))))))))) hk
      refine o_nil ?_
      refine q_then ?_
      refine c_cond (b := ((Exp.findIs s.entries key) && decide (now < (s.entries.getD ((Exp.findAt s.entries key : Int).toNat) default).till))) rfl (fun hc6 => ?_) (fun hc6 => ?_)
      · simp only [Bool.and_eq_true, decide_eq_true_eq] at hc6
        refine c_seq ?_
        refine c_region ?_
        refine o_pure (p_fieldAddr (B := B1) (j := 0) (j' := 1) rfl fo24_1 rfl) rfl rfl rfl ?_
        refine o_pure (p_load (i := 0) (v := .slice as_0 s.entries.length cs_0) rfl rfl sh22 rfl) rfl rfl rfl ?_
        refine o_pure (p_move (v := .int .i64 (Exp.findAt s.entries key : Int)) rfl) rfl rfl rfl ?_
        refine o_pure (p_indexAddr (L := s.entries) (T := tEntry) (i := (Exp.findAt s.entries key : Int)) rfl rfl (rd_base (i := 1) rfl hs_0) Try.underlying22 sz42 (by first | omega | (obtain ⟨hq, _⟩ := Exp.findIs_iff.1 (show Exp.findIs s.entries key = true from (by first | assumption | exact And.left (by assumption))); omega)) (by first | omega | (obtain ⟨hq, _⟩ := Exp.findIs_iff.1 (show Exp.findIs s.entries key = true from (by first | assumption | exact And.left (by assumption))); omega))) rfl rfl rfl ?_
        refine o_pure (p_fieldAddrE rfl fo42_1) rfl rfl rfl ?_
        refine o_pure (p_loadF (i := (Exp.findAt s.entries key : Int).toNat) (j := 1) (T := tEntry) (L := s.entries) (v := .int .i64 ((s.entries.getD ((Exp.findAt s.entries key : Int).toNat) default).value)) rfl (rd_base (i := 1) rfl hs_0) (by first | omega | (obtain ⟨hq, _⟩ := Exp.findIs_iff.1 (show Exp.findIs s.entries key = true from (by first | assumption | exact And.left (by assumption))); omega)) sh3 (congrArg (fun z => (tEntry.enc z)[1]?) (getd_at (by first | omega | (obtain ⟨hq, _⟩ := Exp.findIs_iff.1 (show Exp.findIs s.entries key = true from (by first | assumption | exact And.left (by assumption))); omega)) default))) rfl rfl rfl ?_
        refine o_pure (p_assign (v := .int .i64 ((s.entries.getD ((Exp.findAt s.entries key : Int).toNat) default).value)) rfl) rfl rfl rfl ?_
        refine o_pure (p_assign (v := .bool true) rfl) rfl rfl rfl ?_
        refine o_pure (p_assign (v := .int .i64 0) rfl) rfl rfl rfl ?_
        refine o_nil ?_
        refine q_then ?_
        refine c_ret ?_
        refine q_then_ret ?_
        obtain ⟨hv1, hv2⟩ : _ ∧ _ := by first | exact Exp.ge2 (s := s) (key := key) (now := now) hbad.1 hbad.2 | exact Exp.ge1 (s := s) (key := key) (now := now) (by assumption) | exact Exp.ge4 hok hge (by assumption) | exact Exp.ge5 hok hge (by assumption)
        have hr0 : ((s.entries.getD ((Exp.findAt s.entries key : Int).toNat) default).value : Int) = ((Exp.get s key now).1) := by
          first | (rw [hv1]; done) | (rw [hv1]; rfl) | (rw [hv2]; done) | exact hv2
        have hr1 : (true : Bool) = ((Exp.get s key now).2) := by
          first | (rw [hv1]; done) | (rw [hv1]; rfl) | (rw [hv2]; done) | exact hv2
        have hr2 : (0 : Int) = (Exp.getErr s key now) := by
          first | (rw [hv1]; done) | (rw [hv1]; rfl) | (rw [hv2]; done) | exact hv2
        refine q_end0 (v := .tuple #[.int .i64 ((s.entries.getD ((Exp.findAt s.entries key : Int).toNat) default).value), .bool true, .int .i64 0]) (rt3 rfl (r_tmp rfl) (r_tmp rfl) (r_tmp rfl)) (i := 1) rfl ?_
        exact (by have hcc := congr (congr (congrArg (fun (y0 : Int) (y1 : Bool) (y2 : Int) => (.tuple #[.int .i64 y0, .bool y1, .int .i64 y2] : Value)) hr0) hr1) hr2; exact hcc)
      · simp only [Bool.and_eq_false_iff, decide_eq_false_iff_not, Int.not_lt] at hc6
        refine c_skip ?_
        refine q_then ?_
        refine c_seq ?_
        refine c_region ?_
        refine o_pure (p_assign (v := .int .i64 0) rfl) rfl rfl rfl ?_
        refine o_pure (p_assign (v := .bool false) rfl) rfl rfl rfl ?_
        refine o_pure (p_assign (v := .int .i64 0) rfl) rfl rfl rfl ?_
        refine o_nil ?_
        refine q_then ?_
        refine c_ret ?_
        obtain ⟨hv1, hv2⟩ : _ ∧ _ := by first | exact Exp.ge2 (s := s) (key := key) (now := now) hbad.1 hbad.2 | exact Exp.ge1 (s := s) (key := key) (now := now) (by assumption) | exact Exp.ge4 hok hge (by assumption) | exact Exp.ge5 hok hge (by assumption)
        have hr0 : (0 : Int) = ((Exp.get s key now).1) := by
          first | (rw [hv1]; done) | (rw [hv1]; rfl) | (rw [hv2]; done) | exact hv2
        have hr1 : (false : Bool) = ((Exp.get s key now).2) := by
          first | (rw [hv1]; done) | (rw [hv1]; rfl) | (rw [hv2]; done) | exact hv2
        have hr2 : (0 : Int) = (Exp.getErr s key now) := by
          first | (rw [hv1]; done) | (rw [hv1]; rfl) | (rw [hv2]; done) | exact hv2
        refine q_end0 (v := .tuple #[.int .i64 0, .bool false, .int .i64 0]) (rt3 rfl (r_tmp rfl) (r_tmp rfl) (r_tmp rfl)) (i := 1) rfl ?_
        exact (by have hcc := congr (congr (congrArg (fun (y0 : Int) (y1 : Bool) (y2 : Int) => (.tuple #[.int .i64 y0, .bool y1, .int .i64 y2] : Value)) hr0) hr1) hr2; exact hcc)
end Go.Proofs.Ytkndekkacimekaa
