/- The walks, printed by a program from the translation and a specification. -/
import Derived.Test.YtkndekkacimekaaExF
import Derived.Test.YtkndekkacimekaaExLaw2
import Derived.Test.YtkndekkacimekaaExW6
import Derived.Test.YtkndekkacimekaaExW1
namespace Go.Proofs.Ytkndekkacimekaa
open Go.Sx Go.RowKit
set_option maxHeartbeats 8000000 in
set_option maxRecDepth 100000 in
theorem eput_ok (s : DStore) (as_0 : Option Addr) (cs_0 : Nat) (key : Int) (n : Int) (now : Int) : FnM Try.prog 15 [.agg #[.int .i64 s.life, .slice as_0 s.entries.length cs_0], .int .i64 key, .int .i64 n, .int .i64 now] (fun w => Rd tEntry w as_0 cs_0 s.entries) (Option Addr × Nat) (fun p => .tuple #[.agg #[.int .i64 ((Exp.put s key n now).life), .slice p.1 ((Exp.put s key n now).entries).length p.2], .int .i64 (Exp.putErr s key n now)]) (fun p S w => SlO tEntry S w p.1 p.2 ((Exp.put s key n now).entries)) := by
  refine fnM (nt := 78) (F0 := [(0, .agg #[.int .i64 s.life, .slice as_0 s.entries.length cs_0]), (1, .int .i64 key), (2, .int .i64 n), (3, .int .i64 now)]) Try.func15 rfl Try.ntmps15 rfl rfl (fun w0 hpre => ?_)
  have hs_0 := hpre
  have hlhs_0 := hs_0.2.1
  refine c_seq ?_
  refine c_region ?_
  refine o_box (v := .agg #[.int .i64 s.life, .slice as_0 s.entries.length cs_0]) rfl rfl (fun B1 => ?_)
  refine o_alloc ze24 rfl (fun B2 => ?_)
  refine o_pure (p_assign (v := .int .i64 0) rfl) rfl rfl rfl ?_
  refine o_nil ?_
  refine q_then ?_
  refine c_seq ?_
  refine c_region ?_
  refine o_pure (p_load_agg (i := 1) (vs := [.int .i64 s.life, .slice as_0 s.entries.length cs_0]) rfl rfl sh24 rfl rfl) rfl rfl rfl ?_
  refine o_pure (p_move (v := .int .i64 key) rfl) rfl rfl rfl ?_
  refine o_pure (p_move (v := .int .i64 now) rfl) rfl rfl rfl ?_
  refine o_call0 (v := .tuple #[.int .i64 ((Exp.get s key now).1), .bool ((Exp.get s key now).2), .int .i64 (Exp.getErr s key now)]) rfl (eget_ok s as_0 cs_0 key now) hf16 (fun w hw => (rd_base (i := 2) rfl hs_0) w hw) rfl ?_
  refine o_pure (p_move (v := .tuple #[.int .i64 ((Exp.get s key now).1), .bool ((Exp.get s key now).2), .int .i64 (Exp.getErr s key now)]) rfl) rfl rfl rfl ?_
  refine o_pure (p_extract (vs := [.int .i64 ((Exp.get s key now).1), .bool ((Exp.get s key now).2), .int .i64 (Exp.getErr s key now)]) (v := .int .i64 ((Exp.get s key now).1)) rfl rfl) rfl rfl rfl ?_
  refine o_pure (p_extract (vs := [.int .i64 ((Exp.get s key now).1), .bool ((Exp.get s key now).2), .int .i64 (Exp.getErr s key now)]) (v := .bool ((Exp.get s key now).2)) rfl rfl) rfl rfl rfl ?_
  refine o_pure (p_extract (vs := [.int .i64 ((Exp.get s key now).1), .bool ((Exp.get s key now).2), .int .i64 (Exp.getErr s key now)]) (v := .int .i64 (Exp.getErr s key now)) rfl rfl) rfl rfl rfl ?_
  refine o_pure (p_assign (v := .int .i64 ((Exp.get s key now).1)) rfl) rfl rfl rfl ?_
  refine o_pure (p_assign (v := .bool ((Exp.get s key now).2)) rfl) rfl rfl rfl ?_
  refine o_pure (p_assign (v := .int .i64 (Exp.getErr s key now)) rfl) rfl rfl rfl ?_
  refine o_nil ?_
  refine q_then ?_
  refine c_seq ?_
  refine c_seq ?_
  refine c_region ?_
  refine o_pure (p_move (v := .int .i64 (Exp.getErr s key now)) rfl) rfl rfl rfl ?_
  refine o_pure (p_eq (p := (Exp.getErr s key now)) (q := 0) rfl rfl) rfl rfl rfl ?_
  refine o_pure (p_move (v := .bool ((Exp.getErr s key now) == 0)) rfl) rfl rfl rfl ?_
  refine o_and (p := 32) 4 (!(Exp.okValue n)) ?_ ?_ ?_
  · intro hb3 hk
    simp only [beq_iff_eq] at hb3
    refine o_unguard 28 rfl rfl ?_
    refine o_pure (p_move (v := .int .i64 n) rfl) rfl rfl rfl ?_
    refine o_unguard 28 rfl rfl ?_
    refine o_call0 (v := .bool (Exp.okValue n)) rfl (evalue_ok n) hf47 (fun _ _ => trivial) rfl ?_
    refine o_unguard 28 rfl rfl ?_
    refine o_pure (p_not (b := (Exp.okValue n)) rfl) rfl rfl rfl ?_
    refine o_pure (p_pick_true (u := .bool (!(Exp.okValue n))) rfl rfl) rfl rfl rfl ?_
    exact o_sub (Sub.cons rfl (Sub.skip rfl (Sub.skip rfl (Sub.skip rfl (Sub.skip rfl (Sub.skip rfl (Sub.refl _))))))) hk
  · intro hb3 hk
    refine o_guard_no rfl 28 rfl rfl rfl rfl rfl ?_
    refine o_guard_no rfl 28 rfl rfl rfl rfl rfl ?_
    refine o_guard_no rfl 28 rfl rfl rfl rfl rfl ?_
    refine o_pure (p_pick_false (v := .bool false) rfl rfl) rfl rfl rfl ?_
    exact o_sub (Sub.cons rfl (Sub.skip rfl (Sub.skip rfl (Sub.skip rfl (Sub.skip rfl (Sub.skip rfl (Sub.refl _))))))) hk
  refine o_nil ?_
  refine q_then ?_
  refine c_cond (b := (((Exp.getErr s key now) == 0) && (!(Exp.okValue n)))) rfl (fun hc4 => ?_) (fun hc4 => ?_)
  · simp only [Bool.and_eq_true, beq_iff_eq, Bool.not_eq_true'] at hc4
    have hbad := hc4
    refine c_region ?_
    refine o_pure (p_assign (v := .int .i64 3) rfl) rfl rfl rfl ?_
    refine o_nil ?_
    refine q_then ?_
    refine c_seq ?_
    refine c_seq ?_
    refine c_region ?_
    refine o_pure (p_move (v := .int .i64 3) rfl) rfl rfl rfl ?_
    refine o_pure (p_ne (p := 3) (q := 0) rfl rfl) rfl rfl rfl ?_
    refine o_nil ?_
    refine q_then ?_
    refine c_true rfl ?_
    refine c_seq ?_
    refine c_region ?_
    refine o_pure (p_build (cells := [.int .i64 0, .slice none 0 0]) fp24 ze24 rfl rfl) rfl rfl rfl ?_
    refine o_pure (p_move (v := .int .i64 3) rfl) rfl rfl rfl ?_
    refine o_storeN (i := 0) (vs := [.int .i64 0, .slice none 0 0]) (cs' := [.int .i64 0, .slice none 0 0]) rfl rfl rfl sz24 rfl rfl rfl rfl ?_
    refine o_pure (p_assign (v := .int .i64 3) rfl) rfl rfl rfl ?_
    refine o_nil ?_
    refine q_then ?_
    refine c_ret ?_
    refine q_then_ret ?_
    obtain ⟨hv1, hv2⟩ : _ ∧ _ := by first | exact Exp.pe1 (s := s) (key := key) (n := n) (now := now) (by assumption) | exact Exp.pe2 (s := s) (key := key) (n := n) (now := now) hbad.1 hbad.2 | exact Exp.set_put hge hvo hfi rfl | exact Exp.full_put hge hvo hfi (by assumption) | exact Exp.ins_put hge hvo hfi (by assumption) rfl
    have hr0 : (0 : Int) = (Exp.put s key n now).life := by
      first | exact hv2 | (rw [← hv1]; done) | (rw [← hv1]; rfl)
    have hr1 : ([] : List DEntry) = (Exp.put s key n now).entries := by
      first | exact hv2 | (rw [← hv1]; done) | (rw [← hv1]; rfl)
    have hr2 : (3 : Int) = (Exp.putErr s key n now) := by
      first | exact hv2 | (rw [← hv1]; done) | (rw [← hv1]; rfl)
    refine q_endM (p := (none, 0)) (fun _ => False) (rt2 rfl (r_cell (i := 0) rfl rfl sh24 rfl) (r_tmp rfl)) (i := 2) rfl ?_ ?_ ?_
    · exact (by have hcc := congr (congr (congrArg (fun (y0 : Int) (y1 : List DEntry) (y2 : Int) => (.tuple #[.agg #[.int .i64 y0, .slice none y1.length 0], .int .i64 y2] : Value)) hr0) hr1) hr2; exact hcc)
    · intro w hw b hb; exact hb.elim
    · intro w hw; exact Eq.mp (congrArg (fun y => SlO tEntry _ w none 0 y) hr1) (SlO.nil tEntry w)
  · simp only [Bool.and_eq_false_iff, beq_eq_false_iff_ne, ne_eq, Bool.not_eq_false'] at hc4
    have hro := hc4
    refine c_skip ?_
    refine q_then ?_
    refine c_seq ?_
    refine c_seq ?_
    refine c_region ?_
    refine o_pure (p_move (v := .int .i64 (Exp.getErr s key now)) rfl) rfl rfl rfl ?_
    refine o_pure (p_ne (p := (Exp.getErr s key now)) (q := 0) rfl rfl) rfl rfl rfl ?_
    refine o_nil ?_
    refine q_then ?_
    refine c_cond (b := ((Exp.getErr s key now) != 0)) rfl (fun hc5 => ?_) (fun hc5 => ?_)
    · simp only [bne_iff_ne, ne_eq] at hc5
      refine c_seq ?_
      refine c_region ?_
      refine o_pure (p_build (cells := [.int .i64 0, .slice none 0 0]) fp24 ze24 rfl rfl) rfl rfl rfl ?_
      refine o_pure (p_move (v := .int .i64 (Exp.getErr s key now)) rfl) rfl rfl rfl ?_
      refine o_storeN (i := 0) (vs := [.int .i64 0, .slice none 0 0]) (cs' := [.int .i64 0, .slice none 0 0]) rfl rfl rfl sz24 rfl rfl rfl rfl ?_
      refine o_pure (p_assign (v := .int .i64 (Exp.getErr s key now)) rfl) rfl rfl rfl ?_
      refine o_nil ?_
      refine q_then ?_
      refine c_ret ?_
      refine q_then_ret ?_
      obtain ⟨hv1, hv2⟩ : _ ∧ _ := by first | exact Exp.pe1 (s := s) (key := key) (n := n) (now := now) (by assumption) | exact Exp.pe2 (s := s) (key := key) (n := n) (now := now) hbad.1 hbad.2 | exact Exp.set_put hge hvo hfi rfl | exact Exp.full_put hge hvo hfi (by assumption) | exact Exp.ins_put hge hvo hfi (by assumption) rfl
      have hr0 : (0 : Int) = (Exp.put s key n now).life := by
        first | exact hv2 | (rw [← hv1]; done) | (rw [← hv1]; rfl)
      have hr1 : ([] : List DEntry) = (Exp.put s key n now).entries := by
        first | exact hv2 | (rw [← hv1]; done) | (rw [← hv1]; rfl)
      have hr2 : ((Exp.getErr s key now) : Int) = (Exp.putErr s key n now) := by
        first | exact hv2 | (rw [← hv1]; done) | (rw [← hv1]; rfl)
      refine q_endM (p := (none, 0)) (fun _ => False) (rt2 rfl (r_cell (i := 0) rfl rfl sh24 rfl) (r_tmp rfl)) (i := 2) rfl ?_ ?_ ?_
      · exact (by have hcc := congr (congr (congrArg (fun (y0 : Int) (y1 : List DEntry) (y2 : Int) => (.tuple #[.agg #[.int .i64 y0, .slice none y1.length 0], .int .i64 y2] : Value)) hr0) hr1) hr2; exact hcc)
      · intro w hw b hb; exact hb.elim
      · intro w hw; exact Eq.mp (congrArg (fun y => SlO tEntry _ w none 0 y) hr1) (SlO.nil tEntry w)
    · simp only [bne_eq_false_iff_eq] at hc5
      have hge := hc5
      have hpk := Exp.pok hge
      have hvo := hro.resolve_left (fun h => h hge)
      have hsl := Exp.live_len s now
      have hlen := hpk.1.len
      refine c_skip ?_
      refine q_then ?_
      refine c_seq ?_
      refine c_region ?_
      refine o_pure (p_load_agg (i := 1) (vs := [.int .i64 s.life, .slice as_0 s.entries.length cs_0]) rfl rfl sh24 rfl rfl) rfl rfl rfl ?_
      refine o_pure (p_move (v := .int .i64 now) rfl) rfl rfl rfl ?_
      refine o_callX (pre := []) (R := [box B2 [.int .i64 0, .slice none 0 0] 24, box B1 [.int .i64 s.life, .slice as_0 s.entries.length cs_0] 24, base w0]) rfl (eswept_ok s as_0 cs_0 now (by omega)) hf48 rfl (fun w hw => (rdX (i := 2) (js := []) rfl (by decide) rfl (fun _ hA => slR_base hs_0 hA)) w hw) rfl ?_
      rintro ⟨a6, c7, S8, a9, c10, S11⟩
      refine o_asH (H' := [own tEntry S8 a6 c7 (Exp.live now s.entries), own tInt S11 a9 c10 (Exp.over now s.entries), box B2 [.int .i64 0, .slice none 0 0] 24, box B1 [.int .i64 s.life, .slice as_0 s.entries.length cs_0] 24, base w0]) rfl ?_
      refine o_pure (p_move (v := .tuple #[.agg #[.int .i64 s.life, .slice a6 (Exp.live now s.entries).length c7], .slice a9 (Exp.over now s.entries).length c10]) rfl) rfl rfl rfl ?_
      refine o_pure (p_extract (vs := [.agg #[.int .i64 s.life, .slice a6 (Exp.live now s.entries).length c7], .slice a9 (Exp.over now s.entries).length c10]) (v := .agg #[.int .i64 s.life, .slice a6 (Exp.live now s.entries).length c7]) rfl rfl) rfl rfl rfl ?_
      refine o_pure (p_extract (vs := [.agg #[.int .i64 s.life, .slice a6 (Exp.live now s.entries).length c7], .slice a9 (Exp.over now s.entries).length c10]) (v := .slice a9 (Exp.over now s.entries).length c10) rfl rfl) rfl rfl rfl ?_
      refine o_alloc ze24 rfl (fun B14 => ?_)
      refine o_storeN (i := 0) (vs := [.int .i64 s.life, .slice a6 (Exp.live now s.entries).length c7]) (cs' := [.int .i64 s.life, .slice a6 (Exp.live now s.entries).length c7]) rfl rfl rfl sz24 rfl rfl rfl rfl ?_
      refine o_pure (p_assign (v := .slice a9 (Exp.over now s.entries).length c10) rfl) rfl rfl rfl ?_
      refine o_nil ?_
      refine q_then ?_
      refine c_seq ?_
      refine c_region ?_
      refine o_pure (p_move (v := .int .i64 key) rfl) rfl rfl rfl ?_
      refine o_pure (p_move (v := .int .i64 n) rfl) rfl rfl rfl ?_
      refine o_pure (p_move (v := .int .i64 now) rfl) rfl rfl rfl ?_
      refine o_pure (p_fieldAddr (B := B1) (j := 0) (j' := 0) rfl fo24_0 rfl) rfl rfl rfl ?_
      refine o_pure (p_load (i := 4) (v := .int .i64 s.life) rfl rfl sh3 rfl) rfl rfl rfl ?_
      refine o_pure (p_addb (p := now) (q := s.life) rfl rfl (by omega)) rfl rfl rfl ?_
      refine o_pure (p_build (cells := [.int .i64 key, .int .i64 n, .int .i64 (now + s.life)]) fp42 ze42 rfl rfl) rfl rfl rfl ?_
      refine o_alloc ze42 rfl (fun B15 => ?_)
      refine o_storeN (i := 0) (vs := [.int .i64 key, .int .i64 n, .int .i64 (now + s.life)]) (cs' := [.int .i64 key, .int .i64 n, .int .i64 (now + s.life)]) rfl rfl rfl sz42 rfl rfl rfl rfl ?_
      refine o_nil ?_
      refine q_then ?_
      refine c_seq ?_
      refine c_seq ?_
      refine c_region ?_
      refine o_pure (p_fieldAddr (B := B14) (j := 0) (j' := 1) rfl fo24_1 rfl) rfl rfl rfl ?_
      refine o_pure (p_load (i := 1) (v := .slice a6 (Exp.live now s.entries).length c7) rfl rfl sh22 rfl) rfl rfl rfl ?_
      refine o_pure (p_move (v := .int .i64 key) rfl) rfl rfl rfl ?_
      refine o_call0 (v := .tuple #[.int .i64 (Exp.findAt (Exp.live now s.entries) key : Int), .bool (Exp.findIs (Exp.live now s.entries) key)]) rfl (efind_ok (Exp.live now s.entries) a6 c7 key (by first | assumption | exact hok.sorted | exact hpk.2.1)) hf49 (fun w hw => (rd_own (i := 2) rfl) w hw) rfl ?_
      refine o_pure (p_move (v := .tuple #[.int .i64 (Exp.findAt (Exp.live now s.entries) key : Int), .bool (Exp.findIs (Exp.live now s.entries) key)]) rfl) rfl rfl rfl ?_
      refine o_pure (p_extract (vs := [.int .i64 (Exp.findAt (Exp.live now s.entries) key : Int), .bool (Exp.findIs (Exp.live now s.entries) key)]) (v := .int .i64 (Exp.findAt (Exp.live now s.entries) key : Int)) rfl rfl) rfl rfl rfl ?_
      refine o_pure (p_extract (vs := [.int .i64 (Exp.findAt (Exp.live now s.entries) key : Int), .bool (Exp.findIs (Exp.live now s.entries) key)]) (v := .bool (Exp.findIs (Exp.live now s.entries) key)) rfl rfl) rfl rfl rfl ?_
      refine o_pure (p_assign (v := .int .i64 (Exp.findAt (Exp.live now s.entries) key : Int)) rfl) rfl rfl rfl ?_
      refine o_pure (p_assign (v := .bool (Exp.findIs (Exp.live now s.entries) key)) rfl) rfl rfl rfl ?_
      refine o_nil ?_
      refine q_then ?_
      refine c_block ?_
      refine c_seq ?_
      refine c_region ?_
      refine o_pure (p_move (v := .bool (Exp.findIs (Exp.live now s.entries) key)) rfl) rfl rfl rfl ?_
      refine o_pure (p_assign (v := .bool (Exp.findIs (Exp.live now s.entries) key)) rfl) rfl rfl rfl ?_
      refine o_nil ?_
      refine q_then ?_
      refine c_cond (b := (Exp.findIs (Exp.live now s.entries) key)) rfl (fun hc16 => ?_) (fun hc16 => ?_)
      · skip
        have hfi := hc16
        obtain ⟨hfl, hfe⟩ := Exp.findIs_iff.1 hfi
        refine c_region ?_
        refine o_pure (p_fieldAddr (B := B14) (j := 0) (j' := 1) rfl fo24_1 rfl) rfl rfl rfl ?_
        refine o_pure (p_load (i := 1) (v := .slice a6 (Exp.live now s.entries).length c7) rfl rfl sh22 rfl) rfl rfl rfl ?_
        refine o_pure (p_move (v := .int .i64 (Exp.findAt (Exp.live now s.entries) key : Int)) rfl) rfl rfl rfl ?_
        refine o_pure (p_load_agg (i := 0) (vs := [.int .i64 key, .int .i64 n, .int .i64 (now + s.life)]) rfl rfl sh42 rfl rfl) rfl rfl rfl ?_
        refine o_pure (p_indexAddr (L := Exp.live now s.entries) (T := tEntry) (i := (Exp.findAt (Exp.live now s.entries) key : Int)) rfl rfl (rd_own (i := 2) rfl) Try.underlying22 sz42 (by omega) (by omega)) rfl rfl rfl ?_
        refine o_storeW (i := 2) (T := tEntry) (idx := (Exp.findAt (Exp.live now s.entries) key : Int).toNat) (v := .agg #[.int .i64 key, .int .i64 n, .int .i64 (now + s.life)]) (vs := [.int .i64 key, .int .i64 n, .int .i64 (now + s.life)]) (z := (⟨key, n, (now + s.life)⟩ : DEntry)) (F' := [(8, .pointer (some ⟨B2, 0, none⟩)), (13, .pointer (some ⟨B14, 0, none⟩))]) rfl rfl rfl rfl (by first | assumption | omega | (simp only [List.length_set]; omega)) sz42 rfl rfl rfl rfl (Sub.cons rfl (Sub.cons rfl (Sub.nil _))) ?_
        refine o_asH (H := [box B15 [.int .i64 key, .int .i64 n, .int .i64 (now + s.life)] 42, box B14 [.int .i64 s.life, .slice a6 (Exp.live now s.entries).length c7] 24, own tEntry S8 a6 c7 ((Exp.live now s.entries).set ((Exp.findAt (Exp.live now s.entries) key : Int).toNat) (⟨key, n, (now + s.life)⟩ : DEntry)), own tInt S11 a9 c10 (Exp.over now s.entries), box B2 [.int .i64 0, .slice none 0 0] 24, box B1 [.int .i64 s.life, .slice as_0 s.entries.length cs_0] 24, base w0]) (H' := [box B15 [.int .i64 key, .int .i64 n, .int .i64 (now + s.life)] 42, box B14 [.int .i64 s.life, .slice a6 ((Exp.live now s.entries).set ((Exp.findAt (Exp.live now s.entries) key : Int).toNat) (⟨key, n, (now + s.life)⟩ : DEntry)).length c7] 24, own tEntry S8 a6 c7 ((Exp.live now s.entries).set ((Exp.findAt (Exp.live now s.entries) key : Int).toNat) (⟨key, n, (now + s.life)⟩ : DEntry)), own tInt S11 a9 c10 (Exp.over now s.entries), box B2 [.int .i64 0, .slice none 0 0] 24, box B1 [.int .i64 s.life, .slice as_0 s.entries.length cs_0] 24, base w0]) (by simp only [List.length_set]) ?_
        refine o_nil ?_
        refine q_block_normal (q_then ?_)
        refine c_seq ?_
        refine c_region ?_
        refine o_pure (p_load_agg (i := 1) (vs := [.int .i64 s.life, .slice a6 ((Exp.live now s.entries).set ((Exp.findAt (Exp.live now s.entries) key : Int).toNat) (⟨key, n, (now + s.life)⟩ : DEntry)).length c7]) rfl rfl sh24 rfl rfl) rfl rfl rfl ?_
        refine o_storeN (i := 4) (vs := [.int .i64 s.life, .slice a6 ((Exp.live now s.entries).set ((Exp.findAt (Exp.live now s.entries) key : Int).toNat) (⟨key, n, (now + s.life)⟩ : DEntry)).length c7]) (cs' := [.int .i64 s.life, .slice a6 ((Exp.live now s.entries).set ((Exp.findAt (Exp.live now s.entries) key : Int).toNat) (⟨key, n, (now + s.life)⟩ : DEntry)).length c7]) rfl rfl rfl sz24 rfl rfl rfl rfl ?_
        refine o_pure (p_assign (v := .int .i64 0) rfl) rfl rfl rfl ?_
        refine o_nil ?_
        refine q_then ?_
        refine c_ret ?_
        obtain ⟨hv1, hv2⟩ : _ ∧ _ := by first | exact Exp.pe1 (s := s) (key := key) (n := n) (now := now) (by assumption) | exact Exp.pe2 (s := s) (key := key) (n := n) (now := now) hbad.1 hbad.2 | exact Exp.set_put hge hvo hfi rfl | exact Exp.full_put hge hvo hfi (by assumption) | exact Exp.ins_put hge hvo hfi (by assumption) rfl
        have hr0 : (s.life : Int) = (Exp.put s key n now).life := by
          first | exact hv2 | (rw [← hv1]; done) | (rw [← hv1]; rfl)
        have hr1 : (((Exp.live now s.entries).set ((Exp.findAt (Exp.live now s.entries) key : Int).toNat) (⟨key, n, (now + s.life)⟩ : DEntry)) : List DEntry) = (Exp.put s key n now).entries := by
          first | exact hv2 | (rw [← hv1]; done) | (rw [← hv1]; rfl)
        have hr2 : (0 : Int) = (Exp.putErr s key n now) := by
          first | exact hv2 | (rw [← hv1]; done) | (rw [← hv1]; rfl)
        refine q_endM (p := (a6, c7)) S8 (rt2 rfl (r_cell (i := 4) rfl rfl sh24 rfl) (r_tmp rfl)) (i := 6) rfl ?_ ?_ ?_
        · exact (by have hcc := congr (congr (congrArg (fun (y0 : Int) (y1 : List DEntry) (y2 : Int) => (.tuple #[.agg #[.int .i64 y0, .slice a6 y1.length c7], .int .i64 y2] : Value)) hr0) hr1) hr2; exact hcc)
        · exact fun w hw => hw.above (i := 6) (j := 2) (by decide) rfl rfl
        · intro w hw; exact Eq.mp (congrArg (fun y => SlO tEntry _ w a6 c7 y) hr1) ((hw.at (i := 2) rfl).here)
      · skip
        have hfi := hc16
        have hfle := Exp.findAt_le (Exp.live now s.entries) key
        refine c_seq ?_
        refine c_region ?_
        refine o_pure (p_fieldAddr (B := B14) (j := 0) (j' := 1) rfl fo24_1 rfl) rfl rfl rfl ?_
        refine o_pure (p_load (i := 1) (v := .slice a6 (Exp.live now s.entries).length c7) rfl rfl sh22 rfl) rfl rfl rfl ?_
        refine o_pure (p_len_slice (len := (Exp.live now s.entries).length) rfl rfl Try.underlying22) rfl rfl rfl ?_
        refine o_pure (p_eq (p := ((Exp.live now s.entries).length : Int)) (q := 40) rfl rfl) rfl rfl rfl ?_
        refine o_pure (p_assign (v := .bool (((Exp.live now s.entries).length : Int) == 40)) rfl) rfl rfl rfl ?_
        refine o_nil ?_
        refine q_then ?_
        refine c_cond (b := (((Exp.live now s.entries).length : Int) == 40)) rfl (fun hc17 => ?_) (fun hc17 => ?_)
        · simp only [beq_iff_eq] at hc17
          refine c_seq ?_
          refine c_region ?_
          refine o_pure (p_build (cells := [.int .i64 0, .slice none 0 0]) fp24 ze24 rfl rfl) rfl rfl rfl ?_
          refine o_storeN (i := 4) (vs := [.int .i64 0, .slice none 0 0]) (cs' := [.int .i64 0, .slice none 0 0]) rfl rfl rfl sz24 rfl rfl rfl rfl ?_
          refine o_pure (p_assign (v := .int .i64 8) rfl) rfl rfl rfl ?_
          refine o_nil ?_
          refine q_then ?_
          refine c_ret ?_
          refine q_block_ret (q_then_ret ?_)
          obtain ⟨hv1, hv2⟩ : _ ∧ _ := by first | exact Exp.pe1 (s := s) (key := key) (n := n) (now := now) (by assumption) | exact Exp.pe2 (s := s) (key := key) (n := n) (now := now) hbad.1 hbad.2 | exact Exp.set_put hge hvo hfi rfl | exact Exp.full_put hge hvo hfi (by assumption) | exact Exp.ins_put hge hvo hfi (by assumption) rfl
          have hr0 : (0 : Int) = (Exp.put s key n now).life := by
            first | exact hv2 | (rw [← hv1]; done) | (rw [← hv1]; rfl)
          have hr1 : ([] : List DEntry) = (Exp.put s key n now).entries := by
            first | exact hv2 | (rw [← hv1]; done) | (rw [← hv1]; rfl)
          have hr2 : (8 : Int) = (Exp.putErr s key n now) := by
            first | exact hv2 | (rw [← hv1]; done) | (rw [← hv1]; rfl)
          refine q_endM (p := (none, 0)) (fun _ => False) (rt2 rfl (r_cell (i := 4) rfl rfl sh24 rfl) (r_tmp rfl)) (i := 6) rfl ?_ ?_ ?_
          · exact (by have hcc := congr (congr (congrArg (fun (y0 : Int) (y1 : List DEntry) (y2 : Int) => (.tuple #[.agg #[.int .i64 y0, .slice none y1.length 0], .int .i64 y2] : Value)) hr0) hr1) hr2; exact hcc)
          · intro w hw b hb; exact hb.elim
          · intro w hw; exact Eq.mp (congrArg (fun y => SlO tEntry _ w none 0 y) hr1) (SlO.nil tEntry w)
        · simp only [beq_eq_false_iff_ne, ne_eq] at hc17
          refine c_region ?_
          refine o_pure (p_fieldAddr (B := B14) (j := 0) (j' := 1) rfl fo24_1 rfl) rfl rfl rfl ?_
          refine o_pure (p_load (i := 1) (v := .slice a6 (Exp.live now s.entries).length c7) rfl rfl sh22 rfl) rfl rfl rfl ?_
          refine o_pure (p_move (v := .int .i64 (Exp.findAt (Exp.live now s.entries) key : Int)) rfl) rfl rfl rfl ?_
          refine o_pure (p_load_agg (i := 0) (vs := [.int .i64 key, .int .i64 n, .int .i64 (now + s.life)]) rfl rfl sh42 rfl rfl) rfl rfl rfl ?_
          refine o_buildSlice (m := 1) (T := tEntry) (L := [(⟨key, n, (now + s.life)⟩ : DEntry)]) (vs := [.agg #[.int .i64 key, .int .i64 n, .int .i64 (now + s.life)]]) rfl rfl rfl rfl Try.underlying22 sz42 (by decide) ze42 rfl (by decide) rfl (fun S18 a19 => ?_)
          refine o_pick (H' := [own tEntry S8 a6 c7 (Exp.live now s.entries), own tEntry S18 a19 ([(⟨key, n, (now + s.life)⟩ : DEntry)].length) ([(⟨key, n, (now + s.life)⟩ : DEntry)]), box B15 [.int .i64 key, .int .i64 n, .int .i64 (now + s.life)] 42, box B14 [.int .i64 s.life, .slice a6 (Exp.live now s.entries).length c7] 24, own tInt S11 a9 c10 (Exp.over now s.entries), box B2 [.int .i64 0, .slice none 0 0] 24, box B1 [.int .i64 s.life, .slice as_0 s.entries.length cs_0] 24, base w0]) [3, 0, 1, 2, 4, 5, 6, 7] (by decide) rfl ?_
          refine o_callX (pre := [own tEntry S8 a6 c7 (Exp.live now s.entries), own tEntry S18 a19 ([(⟨key, n, (now + s.life)⟩ : DEntry)].length) ([(⟨key, n, (now + s.life)⟩ : DEntry)])]) (R := [box B15 [.int .i64 key, .int .i64 n, .int .i64 (now + s.life)] 42, box B14 [.int .i64 s.life, .slice a6 (Exp.live now s.entries).length c7] 24, own tInt S11 a9 c10 (Exp.over now s.entries), box B2 [.int .i64 0, .slice none 0 0] 24, box B1 [.int .i64 s.life, .slice as_0 s.entries.length cs_0] 24, base w0]) rfl (insert_Entry_ok (Exp.live now s.entries) a6 c7 S8 (Exp.findAt (Exp.live now s.entries) key : Int) ([(⟨key, n, (now + s.life)⟩ : DEntry)]) a19 ([(⟨key, n, (now + s.life)⟩ : DEntry)].length) S18 (by (try simp only [List.length_cons, List.length_nil, List.length_append, List.length_take, List.length_drop, and_true]); omega)) hf50 rfl (fun _ _ => trivial) rfl ?_
          rintro ⟨a21, c22, S23⟩
          refine o_asH (H' := [own tEntry S23 a21 c22 ((Exp.live now s.entries).take (Exp.findAt (Exp.live now s.entries) key : Int).toNat ++ ([(⟨key, n, (now + s.life)⟩ : DEntry)]) ++ (Exp.live now s.entries).drop (Exp.findAt (Exp.live now s.entries) key : Int).toNat), box B15 [.int .i64 key, .int .i64 n, .int .i64 (now + s.life)] 42, box B14 [.int .i64 s.life, .slice a6 (Exp.live now s.entries).length c7] 24, own tInt S11 a9 c10 (Exp.over now s.entries), box B2 [.int .i64 0, .slice none 0 0] 24, box B1 [.int .i64 s.life, .slice as_0 s.entries.length cs_0] 24, base w0]) rfl ?_
          refine o_pure (p_fieldAddr (B := B14) (j := 0) (j' := 1) rfl fo24_1 rfl) rfl rfl rfl ?_
          refine o_store (i := 2) (v := .slice a21 ((Exp.live now s.entries).take (Exp.findAt (Exp.live now s.entries) key : Int).toNat ++ ([(⟨key, n, (now + s.life)⟩ : DEntry)]) ++ (Exp.live now s.entries).drop (Exp.findAt (Exp.live now s.entries) key : Int).toNat).length c22) (cs' := [.int .i64 s.life, .slice a21 ((Exp.live now s.entries).take (Exp.findAt (Exp.live now s.entries) key : Int).toNat ++ ([(⟨key, n, (now + s.life)⟩ : DEntry)]) ++ (Exp.live now s.entries).drop (Exp.findAt (Exp.live now s.entries) key : Int).toNat).length c22]) rfl rfl rfl sz22 rfl rfl rfl ?_
          refine o_nil ?_
          refine q_block_normal (q_then ?_)
          refine c_seq ?_
          refine c_region ?_
          refine o_pure (p_load_agg (i := 2) (vs := [.int .i64 s.life, .slice a21 ((Exp.live now s.entries).take (Exp.findAt (Exp.live now s.entries) key : Int).toNat ++ ([(⟨key, n, (now + s.life)⟩ : DEntry)]) ++ (Exp.live now s.entries).drop (Exp.findAt (Exp.live now s.entries) key : Int).toNat).length c22]) rfl rfl sh24 rfl rfl) rfl rfl rfl ?_
          refine o_storeN (i := 4) (vs := [.int .i64 s.life, .slice a21 ((Exp.live now s.entries).take (Exp.findAt (Exp.live now s.entries) key : Int).toNat ++ ([(⟨key, n, (now + s.life)⟩ : DEntry)]) ++ (Exp.live now s.entries).drop (Exp.findAt (Exp.live now s.entries) key : Int).toNat).length c22]) (cs' := [.int .i64 s.life, .slice a21 ((Exp.live now s.entries).take (Exp.findAt (Exp.live now s.entries) key : Int).toNat ++ ([(⟨key, n, (now + s.life)⟩ : DEntry)]) ++ (Exp.live now s.entries).drop (Exp.findAt (Exp.live now s.entries) key : Int).toNat).length c22]) rfl rfl rfl sz24 rfl rfl rfl rfl ?_
          refine o_pure (p_assign (v := .int .i64 0) rfl) rfl rfl rfl ?_
          refine o_nil ?_
          refine q_then ?_
          refine c_ret ?_
          obtain ⟨hv1, hv2⟩ : _ ∧ _ := by first | exact Exp.pe1 (s := s) (key := key) (n := n) (now := now) (by assumption) | exact Exp.pe2 (s := s) (key := key) (n := n) (now := now) hbad.1 hbad.2 | exact Exp.set_put hge hvo hfi rfl | exact Exp.full_put hge hvo hfi (by assumption) | exact Exp.ins_put hge hvo hfi (by assumption) rfl
          have hr0 : (s.life : Int) = (Exp.put s key n now).life := by
            first | exact hv2 | (rw [← hv1]; done) | (rw [← hv1]; rfl)
          have hr1 : (((Exp.live now s.entries).take (Exp.findAt (Exp.live now s.entries) key : Int).toNat ++ ([(⟨key, n, (now + s.life)⟩ : DEntry)]) ++ (Exp.live now s.entries).drop (Exp.findAt (Exp.live now s.entries) key : Int).toNat) : List DEntry) = (Exp.put s key n now).entries := by
            first | exact hv2 | (rw [← hv1]; done) | (rw [← hv1]; rfl)
          have hr2 : (0 : Int) = (Exp.putErr s key n now) := by
            first | exact hv2 | (rw [← hv1]; done) | (rw [← hv1]; rfl)
          refine q_endM (p := (a21, c22)) S23 (rt2 rfl (r_cell (i := 4) rfl rfl sh24 rfl) (r_tmp rfl)) (i := 6) rfl ?_ ?_ ?_
          · exact (by have hcc := congr (congr (congrArg (fun (y0 : Int) (y1 : List DEntry) (y2 : Int) => (.tuple #[.agg #[.int .i64 y0, .slice a21 y1.length c22], .int .i64 y2] : Value)) hr0) hr1) hr2; exact hcc)
          · exact fun w hw => hw.above (i := 6) (j := 0) (by decide) rfl rfl
          · intro w hw; exact Eq.mp (congrArg (fun y => SlO tEntry _ w a21 c22 y) hr1) ((hw.at (i := 0) rfl).here)
end Go.Proofs.Ytkndekkacimekaa
