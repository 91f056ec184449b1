/- The walks, printed by a program from the translation and a specification. -/
import Derived.Test.YtkndekkacimekaaExF
import Derived.Test.YtkndekkacimekaaExLaw2
import Derived.Test.YtkndekkacimekaaExW9
namespace Go.Proofs.Ytkndekkacimekaa
open Go.Sx Go.RowKit
set_option maxHeartbeats 8000000 in
set_option maxRecDepth 100000 in
theorem lastPut_ok (s : DStore) (as_0 : Option Addr) (cs_0 : Nat) (key : Int) (n : Int) (now : Int) (hy1 : Exp.Ok s ∧ (0 ≤ now ∧ now ≤ 1099511627776)) : FnM Try.prog 23 [.agg #[.int .i64 s.life, .slice as_0 s.entries.length cs_0], .int .i64 key, .int .i64 n, .int .i64 now] (fun w => Rd tEntry w as_0 cs_0 s.entries) (Option Addr × Nat) (fun p => .tuple #[.agg #[.int .i64 ((Exp.refPut s key n now).life), .slice p.1 ((Exp.refPut s key n now).entries).length p.2], .int .i64 (Exp.refErr s key n now)]) (fun p S w => SlO tEntry S w p.1 p.2 ((Exp.refPut s key n now).entries)) := by
  refine fnM (nt := 83) (F0 := [(0, .agg #[.int .i64 s.life, .slice as_0 s.entries.length cs_0]), (1, .int .i64 key), (2, .int .i64 n), (3, .int .i64 now)]) Try.func23 rfl Try.ntmps23 rfl rfl (fun w0 hpre => ?_)
  have hs_0 := hpre
  have hlhs_0 := hs_0.2.1
  have hlen := hy1.1.len
  have hlf := hy1.1.life
  have hsl := Exp.live_len s now
  have hso := Exp.live_sorted hy1.1.sorted now
  refine c_seq ?_
  refine c_region ?_
  refine o_box (v := .agg #[.int .i64 s.life, .slice as_0 s.entries.length cs_0]) rfl rfl (fun B1 => ?_)
  refine o_alloc ze24 rfl (fun B2 => ?_)
  refine o_pure (p_assign (v := .int .i64 0) rfl) rfl rfl rfl ?_
  refine o_nil ?_
  refine q_then ?_
  refine c_seq ?_
  refine c_region ?_
  refine o_pure (p_load_agg (i := 1) (vs := [.int .i64 s.life, .slice as_0 s.entries.length cs_0]) rfl rfl sh24 rfl rfl) rfl rfl rfl ?_
  refine o_pure (p_move (v := .int .i64 now) rfl) rfl rfl rfl ?_
  refine o_callM rfl (lastSweep_ok s as_0 cs_0 now (by omega)) hf21 (fun w hw => (rd_base (i := 2) rfl hs_0) w hw) rfl (fun _ _ _ _ ha hA => ⟨SlR.agree ha hA.1, SlR.agree ha hA.2⟩) ?_
  rintro ⟨a5, c6, a7, c8⟩ S3
  refine o_know (fun w hw => (hw.at (i := 0) rfl).here.1.2.1) (fun hlr9 => ?_)
  refine o_know (fun w hw => (hw.at (i := 0) rfl).here.2.2.1) (fun hlr10 => ?_)
  refine o_pure (p_move (v := .tuple #[.agg #[.int .i64 s.life, .slice a5 (Exp.live now s.entries).length c6], .slice a7 (Exp.over now s.entries).length c8]) rfl) rfl rfl rfl ?_
  refine o_pure (p_extract (vs := [.agg #[.int .i64 s.life, .slice a5 (Exp.live now s.entries).length c6], .slice a7 (Exp.over now s.entries).length c8]) (v := .agg #[.int .i64 s.life, .slice a5 (Exp.live now s.entries).length c6]) rfl rfl) rfl rfl rfl ?_
  refine o_pure (p_extract (vs := [.agg #[.int .i64 s.life, .slice a5 (Exp.live now s.entries).length c6], .slice a7 (Exp.over now s.entries).length c8]) (v := .slice a7 (Exp.over now s.entries).length c8) rfl rfl) rfl rfl rfl ?_
  refine o_alloc ze24 rfl (fun B11 => ?_)
  refine o_storeN (i := 0) (vs := [.int .i64 s.life, .slice a5 (Exp.live now s.entries).length c6]) (cs' := [.int .i64 s.life, .slice a5 (Exp.live now s.entries).length c6]) rfl rfl rfl sz24 rfl rfl rfl rfl ?_
  refine o_pure (p_assign (v := .slice a7 (Exp.over now s.entries).length c8) rfl) rfl rfl rfl ?_
  refine o_nil ?_
  refine q_then ?_
  refine c_seq ?_
  refine c_region ?_
  refine o_pure (p_fieldAddr (B := B1) (j := 0) (j' := 0) rfl fo24_0 rfl) rfl rfl rfl ?_
  refine o_pure (p_load (i := 3) (v := .int .i64 s.life) rfl rfl sh3 rfl) rfl rfl rfl ?_
  refine o_pure (p_build (cells := [.int .i64 s.life, .slice none 0 0]) fp24 ze24 rfl rfl) rfl rfl rfl ?_
  refine o_alloc ze24 rfl (fun B12 => ?_)
  refine o_storeN (i := 0) (vs := [.int .i64 s.life, .slice none 0 0]) (cs' := [.int .i64 s.life, .slice none 0 0]) rfl rfl rfl sz24 rfl rfl rfl rfl ?_
  refine o_nil ?_
  refine q_then ?_
  refine c_seq ?_
  refine c_region ?_
  refine o_pure (p_move (v := .int .i64 key) rfl) rfl rfl rfl ?_
  refine o_pure (p_move (v := .int .i64 n) rfl) rfl rfl rfl ?_
  refine o_pure (p_move (v := .int .i64 now) rfl) rfl rfl rfl ?_
  refine o_pure (p_fieldAddr (B := B1) (j := 0) (j' := 0) rfl fo24_0 rfl) rfl rfl rfl ?_
  refine o_pure (p_load (i := 4) (v := .int .i64 s.life) rfl rfl sh3 rfl) rfl rfl rfl ?_
  refine o_pure (p_addb (p := now) (q := s.life) rfl rfl (by omega)) rfl rfl rfl ?_
  refine o_pure (p_build (cells := [.int .i64 key, .int .i64 n, .int .i64 (now + s.life)]) fp42 ze42 rfl rfl) rfl rfl rfl ?_
  refine o_alloc ze42 rfl (fun B13 => ?_)
  refine o_storeN (i := 0) (vs := [.int .i64 key, .int .i64 n, .int .i64 (now + s.life)]) (cs' := [.int .i64 key, .int .i64 n, .int .i64 (now + s.life)]) rfl rfl rfl sz42 rfl rfl rfl rfl ?_
  refine o_nil ?_
  refine q_then ?_
  refine c_seq ?_
  refine c_region ?_
  refine o_pure (p_assign (v := .bool false) rfl) rfl rfl rfl ?_
  refine o_nil ?_
  refine q_then ?_
  refine c_seq ?_
  refine c_seq ?_
  refine c_region ?_
  refine o_pure (p_assign (v := .int .i64 0) rfl) rfl rfl rfl ?_
  refine o_nil ?_
  refine q_then ?_
  refine c_block ?_
  refine c_ownNil tEntry ?_
  refine c_loop (St := Bool × Nat × DStore × Option Addr × Nat × (Nat → Prop))
    (fun ⟨put, i, oc, aoc_0, coc_0, Soc_0⟩ => [(1, .int .i64 key), (8, .pointer (some ⟨B2, 0, none⟩)), (10, .pointer (some ⟨B11, 0, none⟩)), (12, .pointer (some ⟨B12, 0, none⟩)), (13, .pointer (some ⟨B13, 0, none⟩)), (14, .bool put), (15, .int .i64 (i : Int))])
    (fun ⟨put, i, oc, aoc_0, coc_0, Soc_0⟩ => [own tEntry Soc_0 aoc_0 coc_0 oc.entries, box B13 [.int .i64 key, .int .i64 n, .int .i64 (now + s.life)] 42, box B12 [.int .i64 oc.life, .slice aoc_0 oc.entries.length coc_0] 24, box B11 [.int .i64 s.life, .slice a5 (Exp.live now s.entries).length c6] 24, ⟨S3, fun w => SlR tEntry S3 w a5 c6 (Exp.live now s.entries) ∧ SlR tInt S3 w a7 c8 (Exp.over now s.entries)⟩, box B2 [.int .i64 0, .slice none 0 0] 24, box B1 [.int .i64 s.life, .slice as_0 s.entries.length cs_0] 24, base w0])
    (fun ⟨put, i, oc, aoc_0, coc_0, Soc_0⟩ => oc.life = s.life ∧ Exp.PtI (Exp.live now s.entries) (⟨key, n, now + s.life⟩ : DEntry) put oc.entries i)
    (fun ⟨put, i, oc, aoc_0, coc_0, Soc_0⟩ => (Exp.live now s.entries).length - i)
    (false, 0, (⟨s.life, []⟩ : DStore), none, 0, (fun _ => False)) ?_ (Sub.cons rfl (Sub.cons rfl (Sub.cons rfl (Sub.cons rfl (Sub.cons rfl (Sub.cons rfl (Sub.cons rfl (Sub.nil _)))))))) (fun _ hw => hw) ?_
  · exact ⟨rfl, Exp.PtI.start _ _⟩
  rintro ⟨put, i, oc, aoc_0, coc_0, Soc_0⟩ hI K hK15
  have hpl := hI.2.len hso
  have hple := hI.2.le
  show SC _ _ Try.prog 83 w0 _ _ [(1, .int .i64 key), (8, .pointer (some ⟨B2, 0, none⟩)), (10, .pointer (some ⟨B11, 0, none⟩)), (12, .pointer (some ⟨B12, 0, none⟩)), (13, .pointer (some ⟨B13, 0, none⟩)), (14, .bool put), (15, .int .i64 (i : Int))] [own tEntry Soc_0 aoc_0 coc_0 oc.entries, box B13 [.int .i64 key, .int .i64 n, .int .i64 (now + s.life)] 42, box B12 [.int .i64 oc.life, .slice aoc_0 oc.entries.length coc_0] 24, box B11 [.int .i64 s.life, .slice a5 (Exp.live now s.entries).length c6] 24, ⟨S3, fun w => SlR tEntry S3 w a5 c6 (Exp.live now s.entries) ∧ SlR tInt S3 w a7 c8 (Exp.over now s.entries)⟩, box B2 [.int .i64 0, .slice none 0 0] 24, box B1 [.int .i64 s.life, .slice as_0 s.entries.length cs_0] 24, base w0]
  refine c_seq ?_
  refine c_seq ?_
  refine c_region ?_
  refine o_pure (p_move (v := .int .i64 (i : Int)) rfl) rfl rfl rfl ?_
  refine o_pure (p_fieldAddr (B := B11) (j := 0) (j' := 1) rfl fo24_1 rfl) rfl rfl rfl ?_
  refine o_pure (p_load (i := 3) (v := .slice a5 (Exp.live now s.entries).length c6) rfl rfl sh22 rfl) rfl rfl rfl ?_
  refine o_pure (p_len_slice (len := (Exp.live now s.entries).length) rfl rfl Try.underlying22) rfl rfl rfl ?_
  refine o_pure (p_lt (p := (i : Int)) (q := ((Exp.live now s.entries).length : Int)) rfl rfl) rfl rfl rfl ?_
  refine o_nil ?_
  refine q_then ?_
  refine c_cond (b := decide ((i : Int) < ((Exp.live now s.entries).length : Int))) rfl (fun hc16 => ?_) (fun hc16 => ?_)
  · simp only [decide_eq_true_eq] at hc16
    refine c_skip ?_
    refine q_then ?_
    refine c_seq ?_
    refine c_block ?_
    refine c_seq ?_
    refine c_region ?_
    refine o_pure (p_fieldAddr (B := B11) (j := 0) (j' := 1) rfl fo24_1 rfl) rfl rfl rfl ?_
    refine o_pure (p_load (i := 3) (v := .slice a5 (Exp.live now s.entries).length c6) rfl rfl sh22 rfl) rfl rfl rfl ?_
    refine o_pure (p_move (v := .int .i64 (i : Int)) rfl) rfl rfl rfl ?_
    refine o_pure (p_indexAddr (L := Exp.live now s.entries) (T := tEntry) (i := (i : Int)) rfl rfl (rd_ent (i := 4) rfl (fun w h => h.1)) Try.underlying22 sz42 (by omega) (by omega)) rfl rfl rfl ?_
    refine o_pure (p_loadEn (i := i) (T := tEntry) (L := Exp.live now s.entries) (vs := [.int .i64 (((Exp.live now s.entries)[i]).key), .int .i64 (((Exp.live now s.entries)[i]).value), .int .i64 (((Exp.live now s.entries)[i]).till)]) rfl (rd_ent (i := 4) rfl (fun w h => h.1)) (by first | assumption | omega) sh42 rfl) rfl rfl rfl ?_
    refine o_alloc ze42 rfl (fun B17 => ?_)
    refine o_storeN (i := 0) (vs := [.int .i64 (((Exp.live now s.entries)[i]).key), .int .i64 (((Exp.live now s.entries)[i]).value), .int .i64 (((Exp.live now s.entries)[i]).till)]) (cs' := [.int .i64 (((Exp.live now s.entries)[i]).key), .int .i64 (((Exp.live now s.entries)[i]).value), .int .i64 (((Exp.live now s.entries)[i]).till)]) rfl rfl rfl sz42 rfl rfl rfl rfl ?_
    refine o_nil ?_
    refine q_then ?_
    refine c_seq ?_
    refine c_seq ?_
    refine c_region ?_
    refine o_pure (p_move (v := .bool put) rfl) rfl rfl rfl ?_
    refine o_pure (p_not (b := put) rfl) rfl rfl rfl ?_
    refine o_pure (p_move (v := .bool (!put)) rfl) rfl rfl rfl ?_
    refine o_and (p := 52) 5 (decide (key ≤ ((Exp.live now s.entries)[i]).key)) ?_ ?_ ?_
    · intro hb18 hk
      simp only [Bool.not_eq_true'] at hb18
      refine o_unguard 47 rfl rfl ?_
      refine o_pure (p_fieldAddr (B := B17) (j := 0) (j' := 0) rfl fo42_0 rfl) rfl rfl rfl ?_
      refine o_unguard 47 rfl rfl ?_
      refine o_pure (p_load (i := 0) (v := .int .i64 (((Exp.live now s.entries)[i]).key)) rfl rfl sh3 rfl) rfl rfl rfl ?_
      refine o_unguard 47 rfl rfl ?_
      refine o_pure (p_move (v := .int .i64 key) rfl) rfl rfl rfl ?_
      refine o_unguard 47 rfl rfl ?_
      refine o_pure (p_ge (p := ((Exp.live now s.entries)[i]).key) (q := key) rfl rfl) rfl rfl rfl ?_
      refine o_pure (p_pick_true (u := .bool (decide (key ≤ ((Exp.live now s.entries)[i]).key))) rfl rfl) rfl rfl rfl ?_
      exact o_sub (Sub.cons rfl (Sub.skip rfl (Sub.skip rfl (Sub.skip rfl (Sub.skip rfl (Sub.skip rfl (Sub.skip rfl (Sub.refl _)))))))) hk
    · intro hb18 hk
      refine o_guard_no rfl 47 rfl rfl rfl rfl rfl ?_
      refine o_guard_no rfl 47 rfl rfl rfl rfl rfl ?_
      refine o_guard_no rfl 47 rfl rfl rfl rfl rfl ?_
      refine o_guard_no rfl 47 rfl rfl rfl rfl rfl ?_
      refine o_pure (p_pick_false (v := .bool false) rfl rfl) rfl rfl rfl ?_
      exact o_sub (Sub.cons rfl (Sub.skip rfl (Sub.skip rfl (Sub.skip rfl (Sub.skip rfl (Sub.skip rfl (Sub.skip rfl (Sub.refl _)))))))) hk
    refine o_nil ?_
    refine q_then ?_
    refine c_cond (b := ((!put) && decide (key ≤ ((Exp.live now s.entries)[i]).key))) rfl (fun hc19 => ?_) (fun hc19 => ?_)
    · simp only [Bool.and_eq_true, Bool.not_eq_true', decide_eq_true_eq] at hc19
      have hpf := hc19
      refine c_seq ?_
      refine c_region ?_
      refine o_pure (p_fieldAddr (B := B12) (j := 0) (j' := 1) rfl fo24_1 rfl) rfl rfl rfl ?_
      refine o_pure (p_load (i := 3) (v := .slice aoc_0 oc.entries.length coc_0) rfl rfl sh22 rfl) rfl rfl rfl ?_
      refine o_pure (p_load_agg (i := 2) (vs := [.int .i64 key, .int .i64 n, .int .i64 (now + s.life)]) rfl rfl sh42 rfl rfl) rfl rfl rfl ?_
      refine o_buildSlice (m := 1) (T := tEntry) (L := [(⟨key, n, (now + s.life)⟩ : DEntry)]) (vs := [.agg #[.int .i64 key, .int .i64 n, .int .i64 (now + s.life)]]) rfl rfl rfl rfl Try.underlying22 sz42 (by decide) ze42 rfl (by decide) rfl (fun S20 a21 => ?_)
      refine o_append (i := 2) (L := oc.entries) (M := [(⟨key, n, (now + s.life)⟩ : DEntry)]) (T := tEntry) rfl rfl rfl (rd_own (i := 0) rfl) Try.underlying22 Try.underlying22 (by intro k h; cases h) el42 (by intro z; simp [tEntry, one1]) (by decide) (by first | omega | (simp only [List.length_cons, List.length_nil]; omega) | (simp only [List.length_append, List.length_cons, List.length_nil, List.length_take, List.length_drop]; omega)) rfl (fun a23 c24 S25 => ?_)
      refine o_pure (p_fieldAddr (B := B12) (j := 0) (j' := 1) rfl fo24_1 rfl) rfl rfl rfl ?_
      refine o_store (i := 4) (v := .slice a23 (oc.entries ++ [(⟨key, n, (now + s.life)⟩ : DEntry)]).length c24) (cs' := [.int .i64 oc.life, .slice a23 (oc.entries ++ [(⟨key, n, (now + s.life)⟩ : DEntry)]).length c24]) rfl rfl rfl sz22 rfl rfl rfl ?_
      refine o_nil ?_
      refine q_then ?_
      refine c_region ?_
      refine o_pure (p_assign (v := .bool true) rfl) rfl rfl rfl ?_
      refine o_nil ?_
      refine q_then ?_
      refine c_seq ?_
      refine c_region ?_
      refine o_pure (p_fieldAddr (B := B17) (j := 0) (j' := 0) rfl fo42_0 rfl) rfl rfl rfl ?_
      refine o_pure (p_load (i := 1) (v := .int .i64 (((Exp.live now s.entries)[i]).key)) rfl rfl sh3 rfl) rfl rfl rfl ?_
      refine o_pure (p_move (v := .int .i64 key) rfl) rfl rfl rfl ?_
      refine o_pure (p_ne (p := ((Exp.live now s.entries)[i]).key) (q := key) rfl rfl) rfl rfl rfl ?_
      refine o_nil ?_
      refine q_then ?_
      refine c_cond (b := (((Exp.live now s.entries)[i]).key != key)) rfl (fun hc26 => ?_) (fun hc26 => ?_)
      · simp only [bne_iff_ne, ne_eq] at hc26
        refine c_region ?_
        refine o_pure (p_fieldAddr (B := B12) (j := 0) (j' := 1) rfl fo24_1 rfl) rfl rfl rfl ?_
        refine o_pure (p_load (i := 4) (v := .slice a23 (oc.entries ++ [(⟨key, n, (now + s.life)⟩ : DEntry)]).length c24) rfl rfl sh22 rfl) rfl rfl rfl ?_
        refine o_pure (p_load_agg (i := 1) (vs := [.int .i64 (((Exp.live now s.entries)[i]).key), .int .i64 (((Exp.live now s.entries)[i]).value), .int .i64 (((Exp.live now s.entries)[i]).till)]) rfl rfl sh42 rfl rfl) rfl rfl rfl ?_
        refine o_buildSlice (m := 1) (T := tEntry) (L := [(⟨((Exp.live now s.entries)[i]).key, ((Exp.live now s.entries)[i]).value, ((Exp.live now s.entries)[i]).till⟩ : DEntry)]) (vs := [.agg #[.int .i64 (((Exp.live now s.entries)[i]).key), .int .i64 (((Exp.live now s.entries)[i]).value), .int .i64 (((Exp.live now s.entries)[i]).till)]]) rfl rfl rfl rfl Try.underlying22 sz42 (by decide) ze42 rfl (by decide) rfl (fun S27 a28 => ?_)
        refine o_append (i := 3) (L := (oc.entries ++ [(⟨key, n, (now + s.life)⟩ : DEntry)])) (M := [(⟨((Exp.live now s.entries)[i]).key, ((Exp.live now s.entries)[i]).value, ((Exp.live now s.entries)[i]).till⟩ : DEntry)]) (T := tEntry) rfl rfl rfl (rd_own (i := 0) rfl) Try.underlying22 Try.underlying22 (by intro k h; cases h) el42 (by intro z; simp [tEntry, one1]) (by decide) (by first | omega | (simp only [List.length_cons, List.length_nil]; omega) | (simp only [List.length_append, List.length_cons, List.length_nil, List.length_take, List.length_drop]; omega)) rfl (fun a30 c31 S32 => ?_)
        refine o_pure (p_fieldAddr (B := B12) (j := 0) (j' := 1) rfl fo24_1 rfl) rfl rfl rfl ?_
        refine o_store (i := 5) (v := .slice a30 ((oc.entries ++ [(⟨key, n, (now + s.life)⟩ : DEntry)]) ++ [(⟨((Exp.live now s.entries)[i]).key, ((Exp.live now s.entries)[i]).value, ((Exp.live now s.entries)[i]).till⟩ : DEntry)]).length c31) (cs' := [.int .i64 oc.life, .slice a30 ((oc.entries ++ [(⟨key, n, (now + s.life)⟩ : DEntry)]) ++ [(⟨((Exp.live now s.entries)[i]).key, ((Exp.live now s.entries)[i]).value, ((Exp.live now s.entries)[i]).till⟩ : DEntry)]).length c31]) rfl rfl rfl sz22 rfl rfl rfl ?_
        refine o_nil ?_
        refine q_block_normal (q_then ?_)
        refine c_region ?_
        refine o_pure (p_move (v := .int .i64 (i : Int)) rfl) rfl rfl rfl ?_
        refine o_pure (p_addb (p := (i : Int)) (q := 1) rfl rfl (by omega)) rfl rfl rfl ?_
        refine o_pure (p_assign (v := .int .i64 ((i : Int) + 1)) rfl) rfl rfl rfl ?_
        refine o_nil ?_
        refine q_round hK15 (true, i + 1, (⟨oc.life, ((oc.entries ++ [(⟨key, n, (now + s.life)⟩ : DEntry)]) ++ [(⟨((Exp.live now s.entries)[i]).key, ((Exp.live now s.entries)[i]).value, ((Exp.live now s.entries)[i]).till⟩ : DEntry)])⟩ : DStore), a30, c31, S32) ?_ ?_ ?_ ?_
        · clear hK15
          first | exact ⟨hI.1, hI.2.first' hpf.1 (by omega) hpf.2 (by assumption)⟩ | exact ⟨hI.1, hI.2.same' hpf.1 (by omega) (by assumption)⟩ | exact ⟨hI.1, hI.2.other hso (by omega) hpo⟩ | exact absurd (hI.2.no_same hso (by omega) hpo (by assumption)) id
        · (try dsimp only); omega
        · exact Sub.cons rfl (Sub.cons rfl (Sub.cons rfl (Sub.cons rfl (Sub.cons rfl (Sub.cons rfl (Sub.cons rfl (Sub.nil _)))))))
        · exact fun _ hw => HeapIs.pick hw [3, 4, 5, 6, 7, 8, 9, 10] (by decide) rfl
      · simp only [bne_eq_false_iff_eq] at hc26
        refine c_skip ?_
        refine q_block_normal (q_then ?_)
        refine c_region ?_
        refine o_pure (p_move (v := .int .i64 (i : Int)) rfl) rfl rfl rfl ?_
        refine o_pure (p_addb (p := (i : Int)) (q := 1) rfl rfl (by omega)) rfl rfl rfl ?_
        refine o_pure (p_assign (v := .int .i64 ((i : Int) + 1)) rfl) rfl rfl rfl ?_
        refine o_nil ?_
        refine q_round hK15 (true, i + 1, (⟨oc.life, (oc.entries ++ [(⟨key, n, (now + s.life)⟩ : DEntry)])⟩ : DStore), a23, c24, S25) ?_ ?_ ?_ ?_
        · clear hK15
          first | exact ⟨hI.1, hI.2.first' hpf.1 (by omega) hpf.2 (by assumption)⟩ | exact ⟨hI.1, hI.2.same' hpf.1 (by omega) (by assumption)⟩ | exact ⟨hI.1, hI.2.other hso (by omega) hpo⟩ | exact absurd (hI.2.no_same hso (by omega) hpo (by assumption)) id
        · (try dsimp only); omega
        · exact Sub.cons rfl (Sub.cons rfl (Sub.cons rfl (Sub.cons rfl (Sub.cons rfl (Sub.cons rfl (Sub.cons rfl (Sub.nil _)))))))
        · exact fun _ hw => HeapIs.pick hw [2, 3, 4, 5, 6, 7, 8, 9] (by decide) rfl
    · simp only [Bool.and_eq_false_iff, Bool.not_eq_false', decide_eq_false_iff_not, Int.not_le] at hc19
      have hpo := hc19
      refine c_skip ?_
      refine q_then ?_
      refine c_seq ?_
      refine c_region ?_
      refine o_pure (p_fieldAddr (B := B17) (j := 0) (j' := 0) rfl fo42_0 rfl) rfl rfl rfl ?_
      refine o_pure (p_load (i := 0) (v := .int .i64 (((Exp.live now s.entries)[i]).key)) rfl rfl sh3 rfl) rfl rfl rfl ?_
      refine o_pure (p_move (v := .int .i64 key) rfl) rfl rfl rfl ?_
      refine o_pure (p_ne (p := ((Exp.live now s.entries)[i]).key) (q := key) rfl rfl) rfl rfl rfl ?_
      refine o_nil ?_
      refine q_then ?_
      refine c_cond (b := (((Exp.live now s.entries)[i]).key != key)) rfl (fun hc33 => ?_) (fun hc33 => ?_)
      · simp only [bne_iff_ne, ne_eq] at hc33
        refine c_region ?_
        refine o_pure (p_fieldAddr (B := B12) (j := 0) (j' := 1) rfl fo24_1 rfl) rfl rfl rfl ?_
        refine o_pure (p_load (i := 3) (v := .slice aoc_0 oc.entries.length coc_0) rfl rfl sh22 rfl) rfl rfl rfl ?_
        refine o_pure (p_load_agg (i := 0) (vs := [.int .i64 (((Exp.live now s.entries)[i]).key), .int .i64 (((Exp.live now s.entries)[i]).value), .int .i64 (((Exp.live now s.entries)[i]).till)]) rfl rfl sh42 rfl rfl) rfl rfl rfl ?_
        refine o_buildSlice (m := 1) (T := tEntry) (L := [(⟨((Exp.live now s.entries)[i]).key, ((Exp.live now s.entries)[i]).value, ((Exp.live now s.entries)[i]).till⟩ : DEntry)]) (vs := [.agg #[.int .i64 (((Exp.live now s.entries)[i]).key), .int .i64 (((Exp.live now s.entries)[i]).value), .int .i64 (((Exp.live now s.entries)[i]).till)]]) rfl rfl rfl rfl Try.underlying22 sz42 (by decide) ze42 rfl (by decide) rfl (fun S34 a35 => ?_)
        refine o_append (i := 2) (L := oc.entries) (M := [(⟨((Exp.live now s.entries)[i]).key, ((Exp.live now s.entries)[i]).value, ((Exp.live now s.entries)[i]).till⟩ : DEntry)]) (T := tEntry) rfl rfl rfl (rd_own (i := 0) rfl) Try.underlying22 Try.underlying22 (by intro k h; cases h) el42 (by intro z; simp [tEntry, one1]) (by decide) (by first | omega | (simp only [List.length_cons, List.length_nil]; omega) | (simp only [List.length_append, List.length_cons, List.length_nil, List.length_take, List.length_drop]; omega)) rfl (fun a37 c38 S39 => ?_)
        refine o_pure (p_fieldAddr (B := B12) (j := 0) (j' := 1) rfl fo24_1 rfl) rfl rfl rfl ?_
        refine o_store (i := 4) (v := .slice a37 (oc.entries ++ [(⟨((Exp.live now s.entries)[i]).key, ((Exp.live now s.entries)[i]).value, ((Exp.live now s.entries)[i]).till⟩ : DEntry)]).length c38) (cs' := [.int .i64 oc.life, .slice a37 (oc.entries ++ [(⟨((Exp.live now s.entries)[i]).key, ((Exp.live now s.entries)[i]).value, ((Exp.live now s.entries)[i]).till⟩ : DEntry)]).length c38]) rfl rfl rfl sz22 rfl rfl rfl ?_
        refine o_nil ?_
        refine q_block_normal (q_then ?_)
        refine c_region ?_
        refine o_pure (p_move (v := .int .i64 (i : Int)) rfl) rfl rfl rfl ?_
        refine o_pure (p_addb (p := (i : Int)) (q := 1) rfl rfl (by omega)) rfl rfl rfl ?_
        refine o_pure (p_assign (v := .int .i64 ((i : Int) + 1)) rfl) rfl rfl rfl ?_
        refine o_nil ?_
        refine q_round hK15 (put, i + 1, (⟨oc.life, (oc.entries ++ [(⟨((Exp.live now s.entries)[i]).key, ((Exp.live now s.entries)[i]).value, ((Exp.live now s.entries)[i]).till⟩ : DEntry)])⟩ : DStore), a37, c38, S39) ?_ ?_ ?_ ?_
        · clear hK15
          first | exact ⟨hI.1, hI.2.first' hpf.1 (by omega) hpf.2 (by assumption)⟩ | exact ⟨hI.1, hI.2.same' hpf.1 (by omega) (by assumption)⟩ | exact ⟨hI.1, hI.2.other hso (by omega) hpo⟩ | exact absurd (hI.2.no_same hso (by omega) hpo (by assumption)) id
        · (try dsimp only); omega
        · exact Sub.cons rfl (Sub.cons rfl (Sub.cons rfl (Sub.cons rfl (Sub.cons rfl (Sub.cons rfl (Sub.cons rfl (Sub.nil _)))))))
        · exact fun _ hw => HeapIs.pick hw [2, 3, 4, 5, 6, 7, 8, 9] (by decide) rfl
      · simp only [bne_eq_false_iff_eq] at hc33
        refine c_skip ?_
        refine q_block_normal (q_then ?_)
        refine c_region ?_
        refine o_pure (p_move (v := .int .i64 (i : Int)) rfl) rfl rfl rfl ?_
        refine o_pure (p_addb (p := (i : Int)) (q := 1) rfl rfl (by omega)) rfl rfl rfl ?_
        refine o_pure (p_assign (v := .int .i64 ((i : Int) + 1)) rfl) rfl rfl rfl ?_
        refine o_nil ?_
        refine q_round hK15 (put, i + 1, oc, aoc_0, coc_0, Soc_0) ?_ ?_ ?_ ?_
        · clear hK15
          first | exact ⟨hI.1, hI.2.first' hpf.1 (by omega) hpf.2 (by assumption)⟩ | exact ⟨hI.1, hI.2.same' hpf.1 (by omega) (by assumption)⟩ | exact ⟨hI.1, hI.2.other hso (by omega) hpo⟩ | exact absurd (hI.2.no_same hso (by omega) hpo (by assumption)) id
        · (try dsimp only); omega
        · exact Sub.cons rfl (Sub.cons rfl (Sub.cons rfl (Sub.cons rfl (Sub.cons rfl (Sub.cons rfl (Sub.cons rfl (Sub.nil _)))))))
        · exact fun _ hw => HeapIs.pick hw [1, 2, 3, 4, 5, 6, 7, 8] (by decide) rfl
  · simp only [decide_eq_false_iff_not, Int.not_lt] at hc16
    refine c_exit ?_
    refine q_then_exit (q_then_exit (q_block_exit (q_then ?_)))
    refine c_seq ?_
    refine c_seq ?_
    refine c_region ?_
    refine o_pure (p_move (v := .bool put) rfl) rfl rfl rfl ?_
    refine o_pure (p_not (b := put) rfl) rfl rfl rfl ?_
    refine o_nil ?_
    refine q_then ?_
    refine c_cond (b := (!put)) rfl (fun hc40 => ?_) (fun hc40 => ?_)
    · simp only [Bool.not_eq_true'] at hc40
      have hfin := Exp.PtI.done' (by subst hc40; exact hI.2) (by omega)
      refine c_region ?_
      refine o_pure (p_fieldAddr (B := B12) (j := 0) (j' := 1) rfl fo24_1 rfl) rfl rfl rfl ?_
      refine o_pure (p_load (i := 2) (v := .slice aoc_0 oc.entries.length coc_0) rfl rfl sh22 rfl) rfl rfl rfl ?_
      refine o_pure (p_load_agg (i := 1) (vs := [.int .i64 key, .int .i64 n, .int .i64 (now + s.life)]) rfl rfl sh42 rfl rfl) rfl rfl rfl ?_
      refine o_buildSlice (m := 1) (T := tEntry) (L := [(⟨key, n, (now + s.life)⟩ : DEntry)]) (vs := [.agg #[.int .i64 key, .int .i64 n, .int .i64 (now + s.life)]]) rfl rfl rfl rfl Try.underlying22 sz42 (by decide) ze42 rfl (by decide) rfl (fun S41 a42 => ?_)
      refine o_append (i := 1) (L := oc.entries) (M := [(⟨key, n, (now + s.life)⟩ : DEntry)]) (T := tEntry) rfl rfl rfl (rd_own (i := 0) rfl) Try.underlying22 Try.underlying22 (by intro k h; cases h) el42 (by intro z; simp [tEntry, one1]) (by decide) (by first | omega | (simp only [List.length_cons, List.length_nil]; omega) | (simp only [List.length_append, List.length_cons, List.length_nil, List.length_take, List.length_drop]; omega)) rfl (fun a44 c45 S46 => ?_)
      refine o_pure (p_fieldAddr (B := B12) (j := 0) (j' := 1) rfl fo24_1 rfl) rfl rfl rfl ?_
      refine o_store (i := 3) (v := .slice a44 (oc.entries ++ [(⟨key, n, (now + s.life)⟩ : DEntry)]).length c45) (cs' := [.int .i64 oc.life, .slice a44 (oc.entries ++ [(⟨key, n, (now + s.life)⟩ : DEntry)]).length c45]) rfl rfl rfl sz22 rfl rfl rfl ?_
      refine o_nil ?_
      refine q_then ?_
      refine c_seq ?_
      refine c_seq ?_
      refine c_region ?_
      refine o_pure (p_fieldAddr (B := B12) (j := 0) (j' := 1) rfl fo24_1 rfl) rfl rfl rfl ?_
      refine o_pure (p_load (i := 3) (v := .slice a44 (oc.entries ++ [(⟨key, n, (now + s.life)⟩ : DEntry)]).length c45) rfl rfl sh22 rfl) rfl rfl rfl ?_
      refine o_pure (p_len_slice (len := (oc.entries ++ [(⟨key, n, (now + s.life)⟩ : DEntry)]).length) rfl rfl Try.underlying22) rfl rfl rfl ?_
      refine o_pure (p_gt (p := ((oc.entries ++ [(⟨key, n, (now + s.life)⟩ : DEntry)]).length : Int)) (q := 40) rfl rfl) rfl rfl rfl ?_
      refine o_nil ?_
      refine q_then ?_
      refine c_cond (b := decide (40 < ((oc.entries ++ [(⟨key, n, (now + s.life)⟩ : DEntry)]).length : Int))) rfl (fun hc47 => ?_) (fun hc47 => ?_)
      · simp only [decide_eq_true_eq] at hc47
        refine c_seq ?_
        refine c_region ?_
        refine o_pure (p_build (cells := [.int .i64 0, .slice none 0 0]) fp24 ze24 rfl rfl) rfl rfl rfl ?_
        refine o_storeN (i := 6) (vs := [.int .i64 0, .slice none 0 0]) (cs' := [.int .i64 0, .slice none 0 0]) rfl rfl rfl sz24 rfl rfl rfl rfl ?_
        refine o_pure (p_assign (v := .int .i64 8) rfl) rfl rfl rfl ?_
        refine o_nil ?_
        refine q_then ?_
        refine c_ret ?_
        refine q_then_ret ?_
        obtain ⟨hv1, hv2⟩ : _ ∧ _ := by first | exact Exp.rput1 hfin (by assumption) | exact Exp.rput2 hfin (by omega)
        have hr0 : (0 : Int) = (Exp.refPut s key n now).life := by
          first | exact hv2.symm | (rw [hv1]; done) | (rw [hv1]; rfl) | (rw [hv1]; exact hI.1)
        have hr1 : ([] : List DEntry) = (Exp.refPut s key n now).entries := by
          first | exact hv2.symm | (rw [hv1]; done) | (rw [hv1]; rfl) | (rw [hv1]; exact hI.1)
        have hr2 : (8 : Int) = (Exp.refErr s key n now) := by
          first | exact hv2.symm | (rw [hv1]; done) | (rw [hv1]; rfl) | (rw [hv1]; exact hI.1)
        refine q_endM (p := (none, 0)) (fun _ => False) (rt2 rfl (r_cell (i := 6) rfl rfl sh24 rfl) (r_tmp rfl)) (i := 8) rfl ?_ ?_ ?_
        · exact (by have hcc := congr (congr (congrArg (fun (y0 : Int) (y1 : List DEntry) (y2 : Int) => (.tuple #[.agg #[.int .i64 y0, .slice none y1.length 0], .int .i64 y2] : Value)) hr0) hr1) hr2; exact hcc)
        · intro w hw b hb; exact hb.elim
        · intro w hw; exact Eq.mp (congrArg (fun y => SlO tEntry _ w none 0 y) hr1) (SlO.nil tEntry w)
      · simp only [decide_eq_false_iff_not, Int.not_lt] at hc47
        refine c_skip ?_
        refine q_then ?_
        refine c_seq ?_
        refine c_region ?_
        refine o_pure (p_load_agg (i := 3) (vs := [.int .i64 oc.life, .slice a44 (oc.entries ++ [(⟨key, n, (now + s.life)⟩ : DEntry)]).length c45]) rfl rfl sh24 rfl rfl) rfl rfl rfl ?_
        refine o_storeN (i := 6) (vs := [.int .i64 oc.life, .slice a44 (oc.entries ++ [(⟨key, n, (now + s.life)⟩ : DEntry)]).length c45]) (cs' := [.int .i64 oc.life, .slice a44 (oc.entries ++ [(⟨key, n, (now + s.life)⟩ : DEntry)]).length c45]) rfl rfl rfl sz24 rfl rfl rfl rfl ?_
        refine o_pure (p_assign (v := .int .i64 0) rfl) rfl rfl rfl ?_
        refine o_nil ?_
        refine q_then ?_
        refine c_ret ?_
        obtain ⟨hv1, hv2⟩ : _ ∧ _ := by first | exact Exp.rput1 hfin (by assumption) | exact Exp.rput2 hfin (by omega)
        have hr0 : (oc.life : Int) = (Exp.refPut s key n now).life := by
          first | exact hv2.symm | (rw [hv1]; done) | (rw [hv1]; rfl) | (rw [hv1]; exact hI.1)
        have hr1 : ((oc.entries ++ [(⟨key, n, (now + s.life)⟩ : DEntry)]) : List DEntry) = (Exp.refPut s key n now).entries := by
          first | exact hv2.symm | (rw [hv1]; done) | (rw [hv1]; rfl) | (rw [hv1]; exact hI.1)
        have hr2 : (0 : Int) = (Exp.refErr s key n now) := by
          first | exact hv2.symm | (rw [hv1]; done) | (rw [hv1]; rfl) | (rw [hv1]; exact hI.1)
        refine q_endM (p := (a44, c45)) S46 (rt2 rfl (r_cell (i := 6) rfl rfl sh24 rfl) (r_tmp rfl)) (i := 8) rfl ?_ ?_ ?_
        · exact (by have hcc := congr (congr (congrArg (fun (y0 : Int) (y1 : List DEntry) (y2 : Int) => (.tuple #[.agg #[.int .i64 y0, .slice a44 y1.length c45], .int .i64 y2] : Value)) hr0) hr1) hr2; exact hcc)
        · exact fun w hw => hw.above (i := 8) (j := 1) (by decide) rfl rfl
        · intro w hw; exact Eq.mp (congrArg (fun y => SlO tEntry _ w a44 c45 y) hr1) ((hw.at (i := 1) rfl).here)
    · simp only [Bool.not_eq_false'] at hc40
      have hfin := Exp.PtI.done (by subst hc40; exact hI.2) (by omega)
      refine c_skip ?_
      refine q_then ?_
      refine c_seq ?_
      refine c_seq ?_
      refine c_region ?_
      refine o_pure (p_fieldAddr (B := B12) (j := 0) (j' := 1) rfl fo24_1 rfl) rfl rfl rfl ?_
      refine o_pure (p_load (i := 2) (v := .slice aoc_0 oc.entries.length coc_0) rfl rfl sh22 rfl) rfl rfl rfl ?_
      refine o_pure (p_len_slice (len := oc.entries.length) rfl rfl Try.underlying22) rfl rfl rfl ?_
      refine o_pure (p_gt (p := (oc.entries.length : Int)) (q := 40) rfl rfl) rfl rfl rfl ?_
      refine o_nil ?_
      refine q_then ?_
      refine c_cond (b := decide (40 < (oc.entries.length : Int))) rfl (fun hc48 => ?_) (fun hc48 => ?_)
      · simp only [decide_eq_true_eq] at hc48
        refine c_seq ?_
        refine c_region ?_
        refine o_pure (p_build (cells := [.int .i64 0, .slice none 0 0]) fp24 ze24 rfl rfl) rfl rfl rfl ?_
        refine o_storeN (i := 5) (vs := [.int .i64 0, .slice none 0 0]) (cs' := [.int .i64 0, .slice none 0 0]) rfl rfl rfl sz24 rfl rfl rfl rfl ?_
        refine o_pure (p_assign (v := .int .i64 8) rfl) rfl rfl rfl ?_
        refine o_nil ?_
        refine q_then ?_
        refine c_ret ?_
        refine q_then_ret ?_
        obtain ⟨hv1, hv2⟩ : _ ∧ _ := by first | exact Exp.rput1 hfin (by assumption) | exact Exp.rput2 hfin (by omega)
        have hr0 : (0 : Int) = (Exp.refPut s key n now).life := by
          first | exact hv2.symm | (rw [hv1]; done) | (rw [hv1]; rfl) | (rw [hv1]; exact hI.1)
        have hr1 : ([] : List DEntry) = (Exp.refPut s key n now).entries := by
          first | exact hv2.symm | (rw [hv1]; done) | (rw [hv1]; rfl) | (rw [hv1]; exact hI.1)
        have hr2 : (8 : Int) = (Exp.refErr s key n now) := by
          first | exact hv2.symm | (rw [hv1]; done) | (rw [hv1]; rfl) | (rw [hv1]; exact hI.1)
        refine q_endM (p := (none, 0)) (fun _ => False) (rt2 rfl (r_cell (i := 5) rfl rfl sh24 rfl) (r_tmp rfl)) (i := 7) rfl ?_ ?_ ?_
        · exact (by have hcc := congr (congr (congrArg (fun (y0 : Int) (y1 : List DEntry) (y2 : Int) => (.tuple #[.agg #[.int .i64 y0, .slice none y1.length 0], .int .i64 y2] : Value)) hr0) hr1) hr2; exact hcc)
        · intro w hw b hb; exact hb.elim
        · intro w hw; exact Eq.mp (congrArg (fun y => SlO tEntry _ w none 0 y) hr1) (SlO.nil tEntry w)
      · simp only [decide_eq_false_iff_not, Int.not_lt] at hc48
        refine c_skip ?_
        refine q_then ?_
        refine c_seq ?_
        refine c_region ?_
        refine o_pure (p_load_agg (i := 2) (vs := [.int .i64 oc.life, .slice aoc_0 oc.entries.length coc_0]) rfl rfl sh24 rfl rfl) rfl rfl rfl ?_
        refine o_storeN (i := 5) (vs := [.int .i64 oc.life, .slice aoc_0 oc.entries.length coc_0]) (cs' := [.int .i64 oc.life, .slice aoc_0 oc.entries.length coc_0]) rfl rfl rfl sz24 rfl rfl rfl rfl ?_
        refine o_pure (p_assign (v := .int .i64 0) rfl) rfl rfl rfl ?_
        refine o_nil ?_
        refine q_then ?_
        refine c_ret ?_
        obtain ⟨hv1, hv2⟩ : _ ∧ _ := by first | exact Exp.rput1 hfin (by assumption) | exact Exp.rput2 hfin (by omega)
        have hr0 : (oc.life : Int) = (Exp.refPut s key n now).life := by
          first | exact hv2.symm | (rw [hv1]; done) | (rw [hv1]; rfl) | (rw [hv1]; exact hI.1)
        have hr1 : (oc.entries : List DEntry) = (Exp.refPut s key n now).entries := by
          first | exact hv2.symm | (rw [hv1]; done) | (rw [hv1]; rfl) | (rw [hv1]; exact hI.1)
        have hr2 : (0 : Int) = (Exp.refErr s key n now) := by
          first | exact hv2.symm | (rw [hv1]; done) | (rw [hv1]; rfl) | (rw [hv1]; exact hI.1)
        refine q_endM (p := (aoc_0, coc_0)) Soc_0 (rt2 rfl (r_cell (i := 5) rfl rfl sh24 rfl) (r_tmp rfl)) (i := 7) rfl ?_ ?_ ?_
        · exact (by have hcc := congr (congr (congrArg (fun (y0 : Int) (y1 : List DEntry) (y2 : Int) => (.tuple #[.agg #[.int .i64 y0, .slice aoc_0 y1.length coc_0], .int .i64 y2] : Value)) hr0) hr1) hr2; exact hcc)
        · exact fun w hw => hw.above (i := 7) (j := 0) (by decide) rfl rfl
        · intro w hw; exact Eq.mp (congrArg (fun y => SlO tEntry _ w aoc_0 coc_0 y) hr1) ((hw.at (i := 0) rfl).here)
end Go.Proofs.Ytkndekkacimekaa
