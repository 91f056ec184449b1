/- The walks, printed by a program from the translation and a specification. -/
import Derived.Test.YtagbihjkdejdjaaDpF
import Derived.Test.YtagbihjkdejdjaaDpLaw3
import Derived.Test.YtagbihjkdejdjaaDpW8
import Derived.Test.YtagbihjkdejdjaaDpW7
namespace Go.Proofs.Ytagbihjkdejdjaa
open Go.Sx Go.RowKit
set_option maxHeartbeats 8000000 in
set_option maxRecDepth 100000 in
theorem distanceSpec_ok (l : List Int) (al : Option Addr) (cl : Nat) (percent : Int) : Fn0 Try.prog 8 [.slice al l.length cl, .int .i64 percent] (fun w => Rd tInt w al cl l) (.bool true) := by
  refine fn0 (nt := 147) (F0 := [(0, .slice al l.length cl), (1, .int .i64 percent)]) Try.func8 rfl Try.ntmps8 rfl rfl (fun w0 hpre => ?_)
  have hl := hpre
  have hlhl := hl.2.1
  refine c_seq ?_
  refine c_region ?_
  refine o_pure (p_assign (v := .bool false) rfl) rfl rfl rfl ?_
  refine o_nil ?_
  refine q_then ?_
  refine c_seq ?_
  refine c_region ?_
  refine o_pure (p_move (v := .slice al l.length cl) rfl) rfl rfl rfl ?_
  refine o_callM rfl (distances_ok l al cl) hf28 (fun w hw => (rd_base (i := 0) rfl hl) w hw) rfl (fun _ _ _ _ ha hA => SlO.agree ha hA) ?_
  rintro ⟨a3, c4⟩ S1
  refine o_know (fun w hw => own_len (i := 0) (T := tInt) hw rfl) (fun hlr5 => ?_)
  refine o_pure (p_move (v := .tuple #[.slice a3 (Deep.dist l).length c4, .int .i64 (Lru.trace l)]) rfl) rfl rfl rfl ?_
  refine o_pure (p_extract (vs := [.slice a3 (Deep.dist l).length c4, .int .i64 (Lru.trace l)]) (v := .slice a3 (Deep.dist l).length c4) rfl rfl) rfl rfl rfl ?_
  refine o_pure (p_extract (vs := [.slice a3 (Deep.dist l).length c4, .int .i64 (Lru.trace l)]) (v := .int .i64 (Lru.trace l)) rfl rfl) rfl rfl rfl ?_
  refine o_pure (p_assign (v := .slice a3 (Deep.dist l).length c4) rfl) rfl rfl rfl ?_
  refine o_pure (p_assign (v := .int .i64 (Lru.trace l)) rfl) rfl rfl rfl ?_
  refine o_nil ?_
  refine q_then ?_
  refine c_seq ?_
  refine c_region ?_
  refine o_pure (p_move (v := .slice al l.length cl) rfl) rfl rfl rfl ?_
  refine o_callM rfl (dHits_ok l al cl) hf30 (fun w hw => (rd_base (i := 1) rfl hl) w hw) rfl (fun _ _ _ _ ha hA => SlO.agree ha hA) ?_
  rintro ⟨a8, c9⟩ S6
  refine o_know (fun w hw => own_len (i := 0) (T := tInt) hw rfl) (fun hlr10 => ?_)
  refine o_pure (p_move (v := .tuple #[.slice a8 (Deep.hitsR l).length c9, .int .i64 (Lru.trace l)]) rfl) rfl rfl rfl ?_
  refine o_pure (p_extract (vs := [.slice a8 (Deep.hitsR l).length c9, .int .i64 (Lru.trace l)]) (v := .slice a8 (Deep.hitsR l).length c9) rfl rfl) rfl rfl rfl ?_
  refine o_pure (p_extract (vs := [.slice a8 (Deep.hitsR l).length c9, .int .i64 (Lru.trace l)]) (v := .int .i64 (Lru.trace l)) rfl rfl) rfl rfl rfl ?_
  refine o_pure (p_assign (v := .slice a8 (Deep.hitsR l).length c9) rfl) rfl rfl rfl ?_
  refine o_pure (p_assign (v := .int .i64 (Lru.trace l)) rfl) rfl rfl rfl ?_
  refine o_nil ?_
  refine q_then ?_
  refine c_seq ?_
  refine c_region ?_
  refine o_pure (p_move (v := .slice al l.length cl) rfl) rfl rfl rfl ?_
  refine o_callM rfl (dMisses_ok l al cl) hf31 (fun w hw => (rd_base (i := 2) rfl hl) w hw) rfl (fun _ _ _ _ ha hA => SlO.agree ha hA) ?_
  rintro ⟨a13, c14⟩ S11
  refine o_know (fun w hw => own_len (i := 0) (T := tInt) hw rfl) (fun hlr15 => ?_)
  refine o_pure (p_move (v := .tuple #[.slice a13 (Deep.misses l).length c14, .int .i64 (Lru.trace l)]) rfl) rfl rfl rfl ?_
  refine o_pure (p_extract (vs := [.slice a13 (Deep.misses l).length c14, .int .i64 (Lru.trace l)]) (v := .slice a13 (Deep.misses l).length c14) rfl rfl) rfl rfl rfl ?_
  refine o_pure (p_extract (vs := [.slice a13 (Deep.misses l).length c14, .int .i64 (Lru.trace l)]) (v := .int .i64 (Lru.trace l)) rfl rfl) rfl rfl rfl ?_
  refine o_pure (p_assign (v := .slice a13 (Deep.misses l).length c14) rfl) rfl rfl rfl ?_
  refine o_pure (p_assign (v := .int .i64 (Lru.trace l)) rfl) rfl rfl rfl ?_
  refine o_nil ?_
  refine q_then ?_
  refine c_seq ?_
  refine c_region ?_
  refine o_pure (p_move (v := .slice al l.length cl) rfl) rfl rfl rfl ?_
  refine o_pure (p_move (v := .int .i64 percent) rfl) rfl rfl rfl ?_
  refine o_call0 (v := .tuple #[.int .i64 (Deep.room l percent), .int .i64 (Deep.roomErr l percent)]) rfl (dRoom_ok l al cl percent) hf32 (fun w hw => (rd_base (i := 3) rfl hl) w hw) rfl ?_
  refine o_pure (p_move (v := .tuple #[.int .i64 (Deep.room l percent), .int .i64 (Deep.roomErr l percent)]) rfl) rfl rfl rfl ?_
  refine o_pure (p_extract (vs := [.int .i64 (Deep.room l percent), .int .i64 (Deep.roomErr l percent)]) (v := .int .i64 (Deep.room l percent)) rfl rfl) rfl rfl rfl ?_
  refine o_pure (p_extract (vs := [.int .i64 (Deep.room l percent), .int .i64 (Deep.roomErr l percent)]) (v := .int .i64 (Deep.roomErr l percent)) rfl rfl) rfl rfl rfl ?_
  refine o_pure (p_assign (v := .int .i64 (Deep.room l percent)) rfl) rfl rfl rfl ?_
  refine o_pure (p_assign (v := .int .i64 (Deep.roomErr l percent)) rfl) rfl rfl rfl ?_
  refine o_nil ?_
  refine q_then ?_
  refine c_seq ?_
  refine c_region ?_
  refine o_pure (p_move (v := .slice al l.length cl) rfl) rfl rfl rfl ?_
  refine o_call0 (v := .int .i64 (Lru.trace l)) rfl (traceCheck_ok l al cl) hf21 (fun w hw => (rd_base (i := 3) rfl hl) w hw) rfl ?_
  refine o_pure (p_assign (v := .int .i64 (Lru.trace l)) rfl) rfl rfl rfl ?_
  refine o_nil ?_
  refine q_then ?_
  refine c_seq ?_
  refine c_region ?_
  refine o_pure (p_move (v := .int .i64 (Lru.trace l)) rfl) rfl rfl rfl ?_
  refine o_pure (p_assign (v := .int .i64 (Lru.trace l)) rfl) rfl rfl rfl ?_
  refine o_nil ?_
  refine q_then ?_
  refine c_seq ?_
  refine c_region ?_
  refine o_pure (p_assign (v := .int .i64 0) rfl) rfl rfl rfl ?_
  refine o_nil ?_
  refine q_then ?_
  refine c_seq ?_
  refine c_region ?_
  refine o_pure (p_assign (v := .slice none 0 0) rfl) rfl rfl rfl ?_
  refine o_pure (p_assign (v := .slice none 0 0) rfl) rfl rfl rfl ?_
  refine o_pure (p_assign (v := .slice none 0 0) rfl) rfl rfl rfl ?_
  refine o_nil ?_
  refine q_then ?_
  refine c_seq ?_
  refine c_seq ?_
  refine c_region ?_
  refine o_pure (p_move (v := .int .i64 (Lru.trace l)) rfl) rfl rfl rfl ?_
  refine o_pure (p_eq (p := (Lru.trace l)) (q := 0) rfl rfl) rfl rfl rfl ?_
  refine o_nil ?_
  refine q_then ?_
  refine c_cond (b := ((Lru.trace l) == 0)) rfl (fun hc16 => ?_) (fun hc16 => ?_)
  · simp only [beq_iff_eq] at hc16
    have ht := hc16
    have h200 := Deep.len200 hc16
    refine c_seq ?_
    refine c_seq ?_
    refine c_region ?_
    refine o_pure (p_assign (v := .int .i64 0) rfl) rfl rfl rfl ?_
    refine o_nil ?_
    refine q_then ?_
    refine c_block ?_
    refine c_ownNil tInt ?_
    refine c_loop (St := List Int × Option Addr × Nat × (Nat → Prop) × Nat)
      (fun ⟨depths, adepths, cdepths, Sdepths, k⟩ => [(0, .slice al l.length cl), (1, .int .i64 percent), (5, .slice a3 (Deep.dist l).length c4), (6, .int .i64 (Lru.trace l)), (7, .slice a8 (Deep.hitsR l).length c9), (8, .int .i64 (Lru.trace l)), (9, .slice a13 (Deep.misses l).length c14), (10, .int .i64 (Lru.trace l)), (11, .int .i64 (Deep.room l percent)), (12, .int .i64 (Deep.roomErr l percent)), (13, .int .i64 (Lru.trace l)), (14, .int .i64 (Lru.trace l)), (15, .int .i64 0), (16, .slice adepths depths.length cdepths), (17, .slice none 0 0), (18, .slice none 0 0), (19, .int .i64 (k : Int))])
      (fun ⟨depths, adepths, cdepths, Sdepths, k⟩ => [own tInt Sdepths adepths cdepths depths, own tInt S11 a13 c14 (Deep.misses l), own tInt S6 a8 c9 (Deep.hitsR l), own tInt S1 a3 c4 (Deep.dist l), base w0])
      (fun ⟨depths, adepths, cdepths, Sdepths, k⟩ => k ≤ l.length ∧ depths = (Deep.depths l).take k)
      (fun ⟨depths, adepths, cdepths, Sdepths, k⟩ => l.length - k)
      ([], none, 0, (fun _ => False), 0) ?_ (Sub.cons rfl (Sub.cons rfl (Sub.cons rfl (Sub.cons rfl (Sub.cons rfl (Sub.cons rfl (Sub.cons rfl (Sub.cons rfl (Sub.cons rfl (Sub.cons rfl (Sub.cons rfl (Sub.cons rfl (Sub.cons rfl (Sub.cons rfl (Sub.cons rfl (Sub.cons rfl (Sub.cons rfl (Sub.nil _)))))))))))))))))) (fun _ hw => hw) ?_
    · exact ⟨Nat.zero_le _, rfl⟩
    rintro ⟨depths, adepths, cdepths, Sdepths, k⟩ hI K hK18
    have hdl : depths.length ≤ k := by rw [hI.2, List.length_take]; omega
    show SC _ _ Try.prog 147 w0 _ _ [(0, .slice al l.length cl), (1, .int .i64 percent), (5, .slice a3 (Deep.dist l).length c4), (6, .int .i64 (Lru.trace l)), (7, .slice a8 (Deep.hitsR l).length c9), (8, .int .i64 (Lru.trace l)), (9, .slice a13 (Deep.misses l).length c14), (10, .int .i64 (Lru.trace l)), (11, .int .i64 (Deep.room l percent)), (12, .int .i64 (Deep.roomErr l percent)), (13, .int .i64 (Lru.trace l)), (14, .int .i64 (Lru.trace l)), (15, .int .i64 0), (16, .slice adepths depths.length cdepths), (17, .slice none 0 0), (18, .slice none 0 0), (19, .int .i64 (k : Int))] [own tInt Sdepths adepths cdepths depths, own tInt S11 a13 c14 (Deep.misses l), own tInt S6 a8 c9 (Deep.hitsR l), own tInt S1 a3 c4 (Deep.dist l), base w0]
    refine c_seq ?_
    refine c_seq ?_
    refine c_region ?_
    refine o_pure (p_move (v := .int .i64 (k : Int)) rfl) rfl rfl rfl ?_
    refine o_pure (p_move (v := .slice al l.length cl) rfl) rfl rfl rfl ?_
    refine o_pure (p_len_slice (len := l.length) rfl rfl Try.underlying25) rfl rfl rfl ?_
    refine o_pure (p_lt (p := (k : Int)) (q := (l.length : Int)) rfl rfl) rfl rfl rfl ?_
    refine o_nil ?_
    refine q_then ?_
    refine c_cond (b := decide ((k : Int) < (l.length : Int))) rfl (fun hc19 => ?_) (fun hc19 => ?_)
    · simp only [decide_eq_true_eq] at hc19
      refine c_skip ?_
      refine q_then ?_
      refine c_seq ?_
      refine c_block ?_
      refine c_region ?_
      refine o_pure (p_move (v := .slice adepths depths.length cdepths) rfl) rfl rfl rfl ?_
      refine o_pure (p_move (v := .slice al l.length cl) rfl) rfl rfl rfl ?_
      refine o_pure (p_move (v := .int .i64 (k : Int)) rfl) rfl rfl rfl ?_
      refine o_call0 (v := .int .i64 (Deep.deep l (k : Int).toNat)) rfl (deepAt_ok l al cl (k : Int) (by omega)) hf33 (fun w hw => (rd_base (i := 4) rfl hl) w hw) rfl ?_
      refine o_buildSlice (m := 1) (T := tInt) (L := [(Deep.deep l (k : Int).toNat)]) (vs := [.int .i64 (Deep.deep l (k : Int).toNat)]) rfl rfl rfl rfl Try.underlying25 sz3 (by decide) ze3 rfl (by decide) rfl (fun S20 a21 => ?_)
      refine o_append (i := 1) (L := depths) (M := [(Deep.deep l (k : Int).toNat)]) (T := tInt) rfl rfl rfl (rd_own (i := 0) rfl) Try.underlying25 Try.underlying25 (by intro k h; cases h) el3 (by intro z; simp [tInt, one1]) (by decide) (by first | omega | (simp only [List.length_cons, List.length_nil]; omega) | (simp only [List.length_append, List.length_cons, List.length_nil, List.length_take, List.length_drop]; omega)) rfl (fun a23 c24 S25 => ?_)
      refine o_pure (p_assign (v := .slice a23 (depths ++ [(Deep.deep l (k : Int).toNat)]).length c24) rfl) rfl rfl rfl ?_
      refine o_nil ?_
      refine q_block_normal (q_then ?_)
      refine c_region ?_
      refine o_pure (p_move (v := .int .i64 (k : Int)) rfl) rfl rfl rfl ?_
      refine o_pure (p_addb (p := (k : Int)) (q := 1) rfl rfl (by omega)) rfl rfl rfl ?_
      refine o_pure (p_assign (v := .int .i64 ((k : Int) + 1)) rfl) rfl rfl rfl ?_
      refine o_nil ?_
      refine q_round hK18 ((depths ++ [(Deep.deep l (k : Int).toNat)]), a23, c24, S25, k + 1) ?_ ?_ ?_ ?_
      · clear hK18
        exact Deep.dep_next hI (by omega)
      · (try dsimp only); omega
      · exact Sub.cons rfl (Sub.cons rfl (Sub.cons rfl (Sub.cons rfl (Sub.cons rfl (Sub.cons rfl (Sub.cons rfl (Sub.cons rfl (Sub.cons rfl (Sub.cons rfl (Sub.cons rfl (Sub.cons rfl (Sub.cons rfl (Sub.cons rfl (Sub.cons rfl (Sub.cons rfl (Sub.cons rfl (Sub.nil _)))))))))))))))))
      · exact fun _ hw => HeapIs.pick hw [1, 2, 3, 4, 5] (by decide) rfl
    · simp only [decide_eq_false_iff_not, Int.not_lt] at hc19
      have hdd : depths = Deep.dist l := by rw [hI.2, ← Deep.dist2 ht, List.take_of_length_le (by rw [Deep.depths_len]; omega)]
      refine c_exit ?_
      refine q_then_exit (q_then_exit (q_block_exit (q_then ?_)))
      refine c_seq ?_
      refine c_seq ?_
      refine c_region ?_
      refine o_pure (p_assign (v := .int .i64 1) rfl) rfl rfl rfl ?_
      refine o_nil ?_
      refine q_then ?_
      refine c_block ?_
      refine c_ownNil tInt ?_
      refine c_ownNil tInt ?_
      refine c_loop (St := Int × List Int × Option Addr × Nat × (Nat → Prop) × List Int × Option Addr × Nat × (Nat → Prop) × Int)
        (fun ⟨need, hits, ahits, chits, Shits, curve, acurve, ccurve, Scurve, room⟩ => [(0, .slice al l.length cl), (1, .int .i64 percent), (5, .slice a3 (Deep.dist l).length c4), (6, .int .i64 (Lru.trace l)), (7, .slice a8 (Deep.hitsR l).length c9), (8, .int .i64 (Lru.trace l)), (9, .slice a13 (Deep.misses l).length c14), (10, .int .i64 (Lru.trace l)), (11, .int .i64 (Deep.room l percent)), (12, .int .i64 (Deep.roomErr l percent)), (13, .int .i64 (Lru.trace l)), (14, .int .i64 (Lru.trace l)), (15, .int .i64 need), (16, .slice adepths depths.length cdepths), (17, .slice ahits hits.length chits), (18, .slice acurve curve.length ccurve), (20, .int .i64 room)])
        (fun ⟨need, hits, ahits, chits, Shits, curve, acurve, ccurve, Scurve, room⟩ => [own tInt Scurve acurve ccurve curve, own tInt Shits ahits chits hits, own tInt Sdepths adepths cdepths depths, own tInt S11 a13 c14 (Deep.misses l), own tInt S6 a8 c9 (Deep.hitsR l), own tInt S1 a3 c4 (Deep.dist l), base w0])
        (fun ⟨need, hits, ahits, chits, Shits, curve, acurve, ccurve, Scurve, room⟩ => Deep.SInv l percent hits curve need room)
        (fun ⟨need, hits, ahits, chits, Shits, curve, acurve, ccurve, Scurve, room⟩ => (41 - room).toNat)
        (0, [], none, 0, (fun _ => False), [], none, 0, (fun _ => False), 1) ?_ (Sub.cons rfl (Sub.cons rfl (Sub.cons rfl (Sub.cons rfl (Sub.cons rfl (Sub.cons rfl (Sub.cons rfl (Sub.cons rfl (Sub.cons rfl (Sub.cons rfl (Sub.cons rfl (Sub.cons rfl (Sub.cons rfl (Sub.cons rfl (Sub.cons rfl (Sub.cons rfl (Sub.cons rfl (Sub.nil _)))))))))))))))))) (fun _ hw => hw) ?_
      · exact Deep.SInv.start _ _
      rintro ⟨need, hits, ahits, chits, Shits, curve, acurve, ccurve, Scurve, room⟩ hI K hK28
      have hlens := hI.lens
      have hr1 := hI.r1
      have hr2 := hI.r2
      show SC _ _ Try.prog 147 w0 _ _ [(0, .slice al l.length cl), (1, .int .i64 percent), (5, .slice a3 (Deep.dist l).length c4), (6, .int .i64 (Lru.trace l)), (7, .slice a8 (Deep.hitsR l).length c9), (8, .int .i64 (Lru.trace l)), (9, .slice a13 (Deep.misses l).length c14), (10, .int .i64 (Lru.trace l)), (11, .int .i64 (Deep.room l percent)), (12, .int .i64 (Deep.roomErr l percent)), (13, .int .i64 (Lru.trace l)), (14, .int .i64 (Lru.trace l)), (15, .int .i64 need), (16, .slice adepths depths.length cdepths), (17, .slice ahits hits.length chits), (18, .slice acurve curve.length ccurve), (20, .int .i64 room)] [own tInt Scurve acurve ccurve curve, own tInt Shits ahits chits hits, own tInt Sdepths adepths cdepths depths, own tInt S11 a13 c14 (Deep.misses l), own tInt S6 a8 c9 (Deep.hitsR l), own tInt S1 a3 c4 (Deep.dist l), base w0]
      refine c_seq ?_
      refine c_seq ?_
      refine c_region ?_
      refine o_pure (p_move (v := .int .i64 room) rfl) rfl rfl rfl ?_
      refine o_pure (p_le (p := room) (q := 40) rfl rfl) rfl rfl rfl ?_
      refine o_nil ?_
      refine q_then ?_
      refine c_cond (b := decide (room ≤ 40)) rfl (fun hc29 => ?_) (fun hc29 => ?_)
      · simp only [decide_eq_true_eq] at hc29
        have hhb := Deep.hitsAt_bd l room
        refine c_skip ?_
        refine q_then ?_
        refine c_seq ?_
        refine c_block ?_
        refine c_seq ?_
        refine c_region ?_
        refine o_pure (p_move (v := .slice al l.length cl) rfl) rfl rfl rfl ?_
        refine o_pure (p_move (v := .int .i64 room) rfl) rfl rfl rfl ?_
        refine o_call0 (v := .int .i64 (Deep.hitsAt l room)) rfl (deepHits_ok l al cl room (by omega)) hf34 (fun w hw => (rd_base (i := 6) rfl hl) w hw) rfl ?_
        refine o_pure (p_assign (v := .int .i64 (Deep.hitsAt l room)) rfl) rfl rfl rfl ?_
        refine o_nil ?_
        refine q_then ?_
        refine c_seq ?_
        refine c_region ?_
        refine o_pure (p_move (v := .slice ahits hits.length chits) rfl) rfl rfl rfl ?_
        refine o_pure (p_move (v := .int .i64 (Deep.hitsAt l room)) rfl) rfl rfl rfl ?_
        refine o_buildSlice (m := 1) (T := tInt) (L := [(Deep.hitsAt l room)]) (vs := [.int .i64 (Deep.hitsAt l room)]) rfl rfl rfl rfl Try.underlying25 sz3 (by decide) ze3 rfl (by decide) rfl (fun S30 a31 => ?_)
        refine o_append (i := 2) (L := hits) (M := [(Deep.hitsAt l room)]) (T := tInt) rfl rfl rfl (rd_own (i := 0) rfl) Try.underlying25 Try.underlying25 (by intro k h; cases h) el3 (by intro z; simp [tInt, one1]) (by decide) (by first | omega | (simp only [List.length_cons, List.length_nil]; omega) | (simp only [List.length_append, List.length_cons, List.length_nil, List.length_take, List.length_drop]; omega)) rfl (fun a33 c34 S35 => ?_)
        refine o_pure (p_assign (v := .slice a33 (hits ++ [(Deep.hitsAt l room)]).length c34) rfl) rfl rfl rfl ?_
        refine o_nil ?_
        refine q_then ?_
        refine c_seq ?_
        refine c_region ?_
        refine o_pure (p_move (v := .slice acurve curve.length ccurve) rfl) rfl rfl rfl ?_
        refine o_pure (p_move (v := .slice al l.length cl) rfl) rfl rfl rfl ?_
        refine o_pure (p_len_slice (len := l.length) rfl rfl Try.underlying25) rfl rfl rfl ?_
        refine o_pure (p_move (v := .int .i64 (Deep.hitsAt l room)) rfl) rfl rfl rfl ?_
        refine o_pure (p_subb (p := (l.length : Int)) (q := (Deep.hitsAt l room)) rfl rfl (by omega)) rfl rfl rfl ?_
        refine o_buildSlice (m := 1) (T := tInt) (L := [((l.length : Int) - (Deep.hitsAt l room))]) (vs := [.int .i64 ((l.length : Int) - (Deep.hitsAt l room))]) rfl rfl rfl rfl Try.underlying25 sz3 (by decide) ze3 rfl (by decide) rfl (fun S36 a37 => ?_)
        refine o_append (i := 2) (L := curve) (M := [((l.length : Int) - (Deep.hitsAt l room))]) (T := tInt) rfl rfl rfl (rd_own (i := 0) rfl) Try.underlying25 Try.underlying25 (by intro k h; cases h) el3 (by intro z; simp [tInt, one1]) (by decide) (by first | omega | (simp only [List.length_cons, List.length_nil]; omega) | (simp only [List.length_append, List.length_cons, List.length_nil, List.length_take, List.length_drop]; omega)) rfl (fun a39 c40 S41 => ?_)
        refine o_pure (p_assign (v := .slice a39 (curve ++ [((l.length : Int) - (Deep.hitsAt l room))]).length c40) rfl) rfl rfl rfl ?_
        refine o_nil ?_
        refine q_then ?_
        refine c_seq ?_
        refine c_region ?_
        refine o_pure (p_move (v := .int .i64 need) rfl) rfl rfl rfl ?_
        refine o_pure (p_eq (p := need) (q := 0) rfl rfl) rfl rfl rfl ?_
        refine o_pure (p_move (v := .bool (need == 0)) rfl) rfl rfl rfl ?_
        refine o_and (p := 88) 8 (decide ((IntKind.i64.wrap (percent * (l.length : Int))) ≤ (IntKind.i64.wrap ((Deep.hitsAt l room) * 100)))) ?_ ?_ ?_
        · intro hb42 hk
          simp only [beq_iff_eq] at hb42
          refine o_unguard 80 rfl rfl ?_
          refine o_pure (p_move (v := .int .i64 (Deep.hitsAt l room)) rfl) rfl rfl rfl ?_
          refine o_unguard 80 rfl rfl ?_
          refine o_pure (p_mul (p := (Deep.hitsAt l room)) (q := 100) rfl rfl) rfl rfl rfl ?_
          refine o_unguard 80 rfl rfl ?_
          refine o_pure (p_move (v := .int .i64 percent) rfl) rfl rfl rfl ?_
          refine o_unguard 80 rfl rfl ?_
          refine o_pure (p_move (v := .slice al l.length cl) rfl) rfl rfl rfl ?_
          refine o_unguard 80 rfl rfl ?_
          refine o_pure (p_len_slice (len := l.length) rfl rfl Try.underlying25) rfl rfl rfl ?_
          refine o_unguard 80 rfl rfl ?_
          refine o_pure (p_mul (p := percent) (q := (l.length : Int)) rfl rfl) rfl rfl rfl ?_
          refine o_unguard 80 rfl rfl ?_
          refine o_pure (p_ge (p := (IntKind.i64.wrap ((Deep.hitsAt l room) * 100))) (q := (IntKind.i64.wrap (percent * (l.length : Int)))) rfl rfl) rfl rfl rfl ?_
          refine o_pure (p_pick_true (u := .bool (decide ((IntKind.i64.wrap (percent * (l.length : Int))) ≤ (IntKind.i64.wrap ((Deep.hitsAt l room) * 100))))) rfl rfl) rfl rfl rfl ?_
          exact o_sub (Sub.cons rfl (Sub.skip rfl (Sub.skip rfl (Sub.skip rfl (Sub.skip rfl (Sub.skip rfl (Sub.skip rfl (Sub.skip rfl (Sub.skip rfl (Sub.skip rfl (Sub.refl _))))))))))) hk
        · intro hb42 hk
          refine o_guard_no rfl 80 rfl rfl rfl rfl rfl ?_
          refine o_guard_no rfl 80 rfl rfl rfl rfl rfl ?_
          refine o_guard_no rfl 80 rfl rfl rfl rfl rfl ?_
          refine o_guard_no rfl 80 rfl rfl rfl rfl rfl ?_
          refine o_guard_no rfl 80 rfl rfl rfl rfl rfl ?_
          refine o_guard_no rfl 80 rfl rfl rfl rfl rfl ?_
          refine o_guard_no rfl 80 rfl rfl rfl rfl rfl ?_
          refine o_pure (p_pick_false (v := .bool false) rfl rfl) rfl rfl rfl ?_
          exact o_sub (Sub.cons rfl (Sub.skip rfl (Sub.skip rfl (Sub.skip rfl (Sub.skip rfl (Sub.skip rfl (Sub.skip rfl (Sub.skip rfl (Sub.skip rfl (Sub.skip rfl (Sub.refl _))))))))))) hk
        refine o_pure (p_move (v := .bool ((need == 0) && decide ((IntKind.i64.wrap (percent * (l.length : Int))) ≤ (IntKind.i64.wrap ((Deep.hitsAt l room) * 100))))) rfl) rfl rfl rfl ?_
        refine o_and (p := 92) 3 (decide (0 ≤ percent)) ?_ ?_ ?_
        · intro hb43 hk
          simp only [Bool.and_eq_true, beq_iff_eq, decide_eq_true_eq] at hb43
          refine o_unguard 89 rfl rfl ?_
          refine o_pure (p_move (v := .int .i64 percent) rfl) rfl rfl rfl ?_
          refine o_unguard 89 rfl rfl ?_
          refine o_pure (p_ge (p := percent) (q := 0) rfl rfl) rfl rfl rfl ?_
          refine o_pure (p_pick_true (u := .bool (decide (0 ≤ percent))) rfl rfl) rfl rfl rfl ?_
          exact o_sub (Sub.cons rfl (Sub.skip rfl (Sub.skip rfl (Sub.skip rfl (Sub.skip rfl (Sub.refl _)))))) hk
        · intro hb43 hk
          refine o_guard_no rfl 89 rfl rfl rfl rfl rfl ?_
          refine o_guard_no rfl 89 rfl rfl rfl rfl rfl ?_
          refine o_pure (p_pick_false (v := .bool false) rfl rfl) rfl rfl rfl ?_
          exact o_sub (Sub.cons rfl (Sub.skip rfl (Sub.skip rfl (Sub.skip rfl (Sub.skip rfl (Sub.refl _)))))) hk
        refine o_pure (p_move (v := .bool (((need == 0) && decide ((IntKind.i64.wrap (percent * (l.length : Int))) ≤ (IntKind.i64.wrap ((Deep.hitsAt l room) * 100)))) && decide (0 ≤ percent))) rfl) rfl rfl rfl ?_
        refine o_and (p := 96) 3 (decide (percent ≤ 100)) ?_ ?_ ?_
        · intro hb44 hk
          simp only [Bool.and_eq_true, beq_iff_eq, decide_eq_true_eq] at hb44
          refine o_unguard 93 rfl rfl ?_
          refine o_pure (p_move (v := .int .i64 percent) rfl) rfl rfl rfl ?_
          refine o_unguard 93 rfl rfl ?_
          refine o_pure (p_le (p := percent) (q := 100) rfl rfl) rfl rfl rfl ?_
          refine o_pure (p_pick_true (u := .bool (decide (percent ≤ 100))) rfl rfl) rfl rfl rfl ?_
          exact o_sub (Sub.cons rfl (Sub.skip rfl (Sub.skip rfl (Sub.skip rfl (Sub.skip rfl (Sub.refl _)))))) hk
        · intro hb44 hk
          refine o_guard_no rfl 93 rfl rfl rfl rfl rfl ?_
          refine o_guard_no rfl 93 rfl rfl rfl rfl rfl ?_
          refine o_pure (p_pick_false (v := .bool false) rfl rfl) rfl rfl rfl ?_
          exact o_sub (Sub.cons rfl (Sub.skip rfl (Sub.skip rfl (Sub.skip rfl (Sub.skip rfl (Sub.refl _)))))) hk
        refine o_nil ?_
        refine q_then ?_
        refine c_cond (b := ((((need == 0) && decide ((IntKind.i64.wrap (percent * (l.length : Int))) ≤ (IntKind.i64.wrap ((Deep.hitsAt l room) * 100)))) && decide (0 ≤ percent)) && decide (percent ≤ 100))) rfl (fun hc45 => ?_) (fun hc45 => ?_)
        · simp only [Bool.and_eq_true, beq_iff_eq, decide_eq_true_eq] at hc45
          have hcy := hc45
          refine c_region ?_
          refine o_pure (p_move (v := .int .i64 room) rfl) rfl rfl rfl ?_
          refine o_pure (p_assign (v := .int .i64 room) rfl) rfl rfl rfl ?_
          refine o_nil ?_
          refine q_block_normal (q_then ?_)
          refine c_region ?_
          refine o_pure (p_move (v := .int .i64 room) rfl) rfl rfl rfl ?_
          refine o_pure (p_addb (p := room) (q := 1) rfl rfl (by omega)) rfl rfl rfl ?_
          refine o_pure (p_assign (v := .int .i64 (room + 1)) rfl) rfl rfl rfl ?_
          refine o_nil ?_
          refine q_round hK28 (room, (hits ++ [(Deep.hitsAt l room)]), a33, c34, S35, (curve ++ [((l.length : Int) - (Deep.hitsAt l room))]), a39, c40, S41, (room + 1)) ?_ ?_ ?_ ?_
          · clear hK28
            first | exact hI.take_ (by omega) hcy.1.1.1 hcy.1.1.2 hcy.1.2 hcy.2 | exact hI.leave (by omega) (by omega)
          · (try dsimp only); omega
          · exact Sub.cons rfl (Sub.cons rfl (Sub.cons rfl (Sub.cons rfl (Sub.cons rfl (Sub.cons rfl (Sub.cons rfl (Sub.cons rfl (Sub.cons rfl (Sub.cons rfl (Sub.cons rfl (Sub.cons rfl (Sub.cons rfl (Sub.cons rfl (Sub.cons rfl (Sub.cons rfl (Sub.cons rfl (Sub.nil _)))))))))))))))))
          · exact fun _ hw => HeapIs.pick hw [2, 3, 4, 5, 6, 7, 8] (by decide) rfl
        · simp only [Bool.and_eq_false_iff, beq_eq_false_iff_ne, ne_eq, decide_eq_false_iff_not, Int.not_le] at hc45
          have hcn := hc45
          refine c_skip ?_
          refine q_block_normal (q_then ?_)
          refine c_region ?_
          refine o_pure (p_move (v := .int .i64 room) rfl) rfl rfl rfl ?_
          refine o_pure (p_addb (p := room) (q := 1) rfl rfl (by omega)) rfl rfl rfl ?_
          refine o_pure (p_assign (v := .int .i64 (room + 1)) rfl) rfl rfl rfl ?_
          refine o_nil ?_
          refine q_round hK28 (need, (hits ++ [(Deep.hitsAt l room)]), a33, c34, S35, (curve ++ [((l.length : Int) - (Deep.hitsAt l room))]), a39, c40, S41, (room + 1)) ?_ ?_ ?_ ?_
          · clear hK28
            first | exact hI.take_ (by omega) hcy.1.1.1 hcy.1.1.2 hcy.1.2 hcy.2 | exact hI.leave (by omega) (by omega)
          · (try dsimp only); omega
          · exact Sub.cons rfl (Sub.cons rfl (Sub.cons rfl (Sub.cons rfl (Sub.cons rfl (Sub.cons rfl (Sub.cons rfl (Sub.cons rfl (Sub.cons rfl (Sub.cons rfl (Sub.cons rfl (Sub.cons rfl (Sub.cons rfl (Sub.cons rfl (Sub.cons rfl (Sub.cons rfl (Sub.cons rfl (Sub.nil _)))))))))))))))))
          · exact fun _ hw => HeapIs.pick hw [2, 3, 4, 5, 6, 7, 8] (by decide) rfl
      · simp only [decide_eq_false_iff_not, Int.not_le] at hc29
        obtain ⟨hs1, hs2, hs3, hs4, hs5, hs6⟩ := hI.done (by omega) ht
        refine c_exit ?_
        refine q_then_exit (q_then_exit (q_block_exit (q_then ?_)))
        refine c_seq ?_
        refine c_region ?_
        refine o_pure (p_move (v := .int .i64 percent) rfl) rfl rfl rfl ?_
        refine o_pure (p_lt (p := percent) (q := 0) rfl rfl) rfl rfl rfl ?_
        refine o_pure (p_move (v := .bool (decide (percent < 0))) rfl) rfl rfl rfl ?_
        refine o_or (p := 103) 3 (decide (100 < percent)) ?_ ?_ ?_
        · intro hb46 hk
          simp only [decide_eq_false_iff_not, Int.not_lt] at hb46
          refine o_unguard 100 rfl rfl ?_
          refine o_pure (p_move (v := .int .i64 percent) rfl) rfl rfl rfl ?_
          refine o_unguard 100 rfl rfl ?_
          refine o_pure (p_gt (p := percent) (q := 100) rfl rfl) rfl rfl rfl ?_
          refine o_pure (p_pick_false (v := .bool (decide (100 < percent))) rfl rfl) rfl rfl rfl ?_
          exact o_sub (Sub.cons rfl (Sub.skip rfl (Sub.skip rfl (Sub.skip rfl (Sub.skip rfl (Sub.refl _)))))) hk
        · intro hb46 hk
          refine o_guard_no rfl 100 rfl rfl rfl rfl rfl ?_
          refine o_guard_no rfl 100 rfl rfl rfl rfl rfl ?_
          refine o_pure (p_pick_true (u := .bool true) rfl rfl) rfl rfl rfl ?_
          exact o_sub (Sub.cons rfl (Sub.skip rfl (Sub.skip rfl (Sub.skip rfl (Sub.skip rfl (Sub.refl _)))))) hk
        refine o_nil ?_
        refine q_then ?_
        refine c_cond (b := (decide (percent < 0) || decide (100 < percent))) rfl (fun hc47 => ?_) (fun hc47 => ?_)
        · simp only [Bool.or_eq_true, decide_eq_true_eq] at hc47
          refine c_region ?_
          refine o_pure (p_assign (v := .int .i64 3) rfl) rfl rfl rfl ?_
          refine o_nil ?_
          refine q_then ?_
          refine c_seq ?_
          refine c_region ?_
          refine o_call0 (v := .bool true) rfl (deepBegun_ok ) hf29 (fun _ _ => trivial) rfl ?_
          refine o_pure (p_move (v := .bool true) rfl) rfl rfl rfl ?_
          refine o_unguard 107 rfl rfl ?_
          refine o_pure (p_move (v := .slice a3 (Deep.dist l).length c4) rfl) rfl rfl rfl ?_
          refine o_unguard 107 rfl rfl ?_
          refine o_pure (p_move (v := .slice adepths depths.length cdepths) rfl) rfl rfl rfl ?_
          refine o_unguard 107 rfl rfl ?_
          refine o_call0 (v := .bool (Ref.sameInts (Deep.dist l) depths)) rfl (sameInts_ok (Deep.dist l) a3 c4 depths adepths cdepths) hf35 (fun w hw => ⟨(rd_own (i := 5) rfl) w hw, (rd_own (i := 2) rfl) w hw⟩) rfl ?_
          refine o_pure (p_pick_true (u := .bool (Ref.sameInts (Deep.dist l) depths)) rfl rfl) rfl rfl rfl ?_
          refine o_pure (p_move (v := .bool (Ref.sameInts (Deep.dist l) depths)) rfl) rfl rfl rfl ?_
          refine o_and (p := 116) 4 ((Lru.trace l) == (Lru.trace l)) ?_ ?_ ?_
          · intro hb48 hk
            skip
            refine o_unguard 112 rfl rfl ?_
            refine o_pure (p_move (v := .int .i64 (Lru.trace l)) rfl) rfl rfl rfl ?_
            refine o_unguard 112 rfl rfl ?_
            refine o_pure (p_move (v := .int .i64 (Lru.trace l)) rfl) rfl rfl rfl ?_
            refine o_unguard 112 rfl rfl ?_
            refine o_pure (p_eq (p := (Lru.trace l)) (q := (Lru.trace l)) rfl rfl) rfl rfl rfl ?_
            refine o_pure (p_pick_true (u := .bool ((Lru.trace l) == (Lru.trace l))) rfl rfl) rfl rfl rfl ?_
            exact o_sub (Sub.cons rfl (Sub.skip rfl (Sub.skip rfl (Sub.skip rfl (Sub.skip rfl (Sub.skip rfl (Sub.refl _))))))) hk
          · intro hb48 hk
            refine o_guard_no rfl 112 rfl rfl rfl rfl rfl ?_
            refine o_guard_no rfl 112 rfl rfl rfl rfl rfl ?_
            refine o_guard_no rfl 112 rfl rfl rfl rfl rfl ?_
            refine o_pure (p_pick_false (v := .bool false) rfl rfl) rfl rfl rfl ?_
            exact o_sub (Sub.cons rfl (Sub.skip rfl (Sub.skip rfl (Sub.skip rfl (Sub.skip rfl (Sub.skip rfl (Sub.refl _))))))) hk
          refine o_pure (p_move (v := .bool ((Ref.sameInts (Deep.dist l) depths) && ((Lru.trace l) == (Lru.trace l)))) rfl) rfl rfl rfl ?_
          refine o_and (p := 121) 4 (Ref.sameInts (Deep.hitsR l) hits) ?_ ?_ ?_
          · intro hb49 hk
            simp only [Bool.and_eq_true, beq_iff_eq] at hb49
            refine o_unguard 117 rfl rfl ?_
            refine o_pure (p_move (v := .slice a8 (Deep.hitsR l).length c9) rfl) rfl rfl rfl ?_
            refine o_unguard 117 rfl rfl ?_
            refine o_pure (p_move (v := .slice ahits hits.length chits) rfl) rfl rfl rfl ?_
            refine o_unguard 117 rfl rfl ?_
            refine o_call0 (v := .bool (Ref.sameInts (Deep.hitsR l) hits)) rfl (sameInts_ok (Deep.hitsR l) a8 c9 hits ahits chits) hf35 (fun w hw => ⟨(rd_own (i := 4) rfl) w hw, (rd_own (i := 1) rfl) w hw⟩) rfl ?_
            refine o_pure (p_pick_true (u := .bool (Ref.sameInts (Deep.hitsR l) hits)) rfl rfl) rfl rfl rfl ?_
            exact o_sub (Sub.cons rfl (Sub.skip rfl (Sub.skip rfl (Sub.skip rfl (Sub.skip rfl (Sub.skip rfl (Sub.refl _))))))) hk
          · intro hb49 hk
            refine o_guard_no rfl 117 rfl rfl rfl rfl rfl ?_
            refine o_guard_no rfl 117 rfl rfl rfl rfl rfl ?_
            refine o_guard_no rfl 117 rfl rfl rfl rfl rfl ?_
            refine o_pure (p_pick_false (v := .bool false) rfl rfl) rfl rfl rfl ?_
            exact o_sub (Sub.cons rfl (Sub.skip rfl (Sub.skip rfl (Sub.skip rfl (Sub.skip rfl (Sub.skip rfl (Sub.refl _))))))) hk
          refine o_pure (p_move (v := .bool (((Ref.sameInts (Deep.dist l) depths) && ((Lru.trace l) == (Lru.trace l))) && (Ref.sameInts (Deep.hitsR l) hits))) rfl) rfl rfl rfl ?_
          refine o_and (p := 126) 4 ((Lru.trace l) == (Lru.trace l)) ?_ ?_ ?_
          · intro hb50 hk
            simp only [Bool.and_eq_true, beq_iff_eq] at hb50
            refine o_unguard 122 rfl rfl ?_
            refine o_pure (p_move (v := .int .i64 (Lru.trace l)) rfl) rfl rfl rfl ?_
            refine o_unguard 122 rfl rfl ?_
            refine o_pure (p_move (v := .int .i64 (Lru.trace l)) rfl) rfl rfl rfl ?_
            refine o_unguard 122 rfl rfl ?_
            refine o_pure (p_eq (p := (Lru.trace l)) (q := (Lru.trace l)) rfl rfl) rfl rfl rfl ?_
            refine o_pure (p_pick_true (u := .bool ((Lru.trace l) == (Lru.trace l))) rfl rfl) rfl rfl rfl ?_
            exact o_sub (Sub.cons rfl (Sub.skip rfl (Sub.skip rfl (Sub.skip rfl (Sub.skip rfl (Sub.skip rfl (Sub.refl _))))))) hk
          · intro hb50 hk
            refine o_guard_no rfl 122 rfl rfl rfl rfl rfl ?_
            refine o_guard_no rfl 122 rfl rfl rfl rfl rfl ?_
            refine o_guard_no rfl 122 rfl rfl rfl rfl rfl ?_
            refine o_pure (p_pick_false (v := .bool false) rfl rfl) rfl rfl rfl ?_
            exact o_sub (Sub.cons rfl (Sub.skip rfl (Sub.skip rfl (Sub.skip rfl (Sub.skip rfl (Sub.skip rfl (Sub.refl _))))))) hk
          refine o_pure (p_move (v := .bool ((((Ref.sameInts (Deep.dist l) depths) && ((Lru.trace l) == (Lru.trace l))) && (Ref.sameInts (Deep.hitsR l) hits)) && ((Lru.trace l) == (Lru.trace l)))) rfl) rfl rfl rfl ?_
          refine o_and (p := 131) 4 (Ref.sameInts (Deep.misses l) curve) ?_ ?_ ?_
          · intro hb51 hk
            simp only [Bool.and_eq_true, beq_iff_eq] at hb51
            refine o_unguard 127 rfl rfl ?_
            refine o_pure (p_move (v := .slice a13 (Deep.misses l).length c14) rfl) rfl rfl rfl ?_
            refine o_unguard 127 rfl rfl ?_
            refine o_pure (p_move (v := .slice acurve curve.length ccurve) rfl) rfl rfl rfl ?_
            refine o_unguard 127 rfl rfl ?_
            refine o_call0 (v := .bool (Ref.sameInts (Deep.misses l) curve)) rfl (sameInts_ok (Deep.misses l) a13 c14 curve acurve ccurve) hf35 (fun w hw => ⟨(rd_own (i := 3) rfl) w hw, (rd_own (i := 0) rfl) w hw⟩) rfl ?_
            refine o_pure (p_pick_true (u := .bool (Ref.sameInts (Deep.misses l) curve)) rfl rfl) rfl rfl rfl ?_
            exact o_sub (Sub.cons rfl (Sub.skip rfl (Sub.skip rfl (Sub.skip rfl (Sub.skip rfl (Sub.skip rfl (Sub.refl _))))))) hk
          · intro hb51 hk
            refine o_guard_no rfl 127 rfl rfl rfl rfl rfl ?_
            refine o_guard_no rfl 127 rfl rfl rfl rfl rfl ?_
            refine o_guard_no rfl 127 rfl rfl rfl rfl rfl ?_
            refine o_pure (p_pick_false (v := .bool false) rfl rfl) rfl rfl rfl ?_
            exact o_sub (Sub.cons rfl (Sub.skip rfl (Sub.skip rfl (Sub.skip rfl (Sub.skip rfl (Sub.skip rfl (Sub.refl _))))))) hk
          refine o_pure (p_move (v := .bool (((((Ref.sameInts (Deep.dist l) depths) && ((Lru.trace l) == (Lru.trace l))) && (Ref.sameInts (Deep.hitsR l) hits)) && ((Lru.trace l) == (Lru.trace l))) && (Ref.sameInts (Deep.misses l) curve))) rfl) rfl rfl rfl ?_
          refine o_and (p := 136) 4 ((Lru.trace l) == (Lru.trace l)) ?_ ?_ ?_
          · intro hb52 hk
            simp only [Bool.and_eq_true, beq_iff_eq] at hb52
            refine o_unguard 132 rfl rfl ?_
            refine o_pure (p_move (v := .int .i64 (Lru.trace l)) rfl) rfl rfl rfl ?_
            refine o_unguard 132 rfl rfl ?_
            refine o_pure (p_move (v := .int .i64 (Lru.trace l)) rfl) rfl rfl rfl ?_
            refine o_unguard 132 rfl rfl ?_
            refine o_pure (p_eq (p := (Lru.trace l)) (q := (Lru.trace l)) rfl rfl) rfl rfl rfl ?_
            refine o_pure (p_pick_true (u := .bool ((Lru.trace l) == (Lru.trace l))) rfl rfl) rfl rfl rfl ?_
            exact o_sub (Sub.cons rfl (Sub.skip rfl (Sub.skip rfl (Sub.skip rfl (Sub.skip rfl (Sub.skip rfl (Sub.refl _))))))) hk
          · intro hb52 hk
            refine o_guard_no rfl 132 rfl rfl rfl rfl rfl ?_
            refine o_guard_no rfl 132 rfl rfl rfl rfl rfl ?_
            refine o_guard_no rfl 132 rfl rfl rfl rfl rfl ?_
            refine o_pure (p_pick_false (v := .bool false) rfl rfl) rfl rfl rfl ?_
            exact o_sub (Sub.cons rfl (Sub.skip rfl (Sub.skip rfl (Sub.skip rfl (Sub.skip rfl (Sub.skip rfl (Sub.refl _))))))) hk
          refine o_pure (p_move (v := .bool ((((((Ref.sameInts (Deep.dist l) depths) && ((Lru.trace l) == (Lru.trace l))) && (Ref.sameInts (Deep.hitsR l) hits)) && ((Lru.trace l) == (Lru.trace l))) && (Ref.sameInts (Deep.misses l) curve)) && ((Lru.trace l) == (Lru.trace l)))) rfl) rfl rfl rfl ?_
          refine o_and (p := 141) 4 ((Deep.room l percent) == need) ?_ ?_ ?_
          · intro hb53 hk
            simp only [Bool.and_eq_true, beq_iff_eq] at hb53
            refine o_unguard 137 rfl rfl ?_
            refine o_pure (p_move (v := .int .i64 (Deep.room l percent)) rfl) rfl rfl rfl ?_
            refine o_unguard 137 rfl rfl ?_
            refine o_pure (p_move (v := .int .i64 need) rfl) rfl rfl rfl ?_
            refine o_unguard 137 rfl rfl ?_
            refine o_pure (p_eq (p := (Deep.room l percent)) (q := need) rfl rfl) rfl rfl rfl ?_
            refine o_pure (p_pick_true (u := .bool ((Deep.room l percent) == need)) rfl rfl) rfl rfl rfl ?_
            exact o_sub (Sub.cons rfl (Sub.skip rfl (Sub.skip rfl (Sub.skip rfl (Sub.skip rfl (Sub.skip rfl (Sub.refl _))))))) hk
          · intro hb53 hk
            refine o_guard_no rfl 137 rfl rfl rfl rfl rfl ?_
            refine o_guard_no rfl 137 rfl rfl rfl rfl rfl ?_
            refine o_guard_no rfl 137 rfl rfl rfl rfl rfl ?_
            refine o_pure (p_pick_false (v := .bool false) rfl rfl) rfl rfl rfl ?_
            exact o_sub (Sub.cons rfl (Sub.skip rfl (Sub.skip rfl (Sub.skip rfl (Sub.skip rfl (Sub.skip rfl (Sub.refl _))))))) hk
          refine o_pure (p_move (v := .bool (((((((Ref.sameInts (Deep.dist l) depths) && ((Lru.trace l) == (Lru.trace l))) && (Ref.sameInts (Deep.hitsR l) hits)) && ((Lru.trace l) == (Lru.trace l))) && (Ref.sameInts (Deep.misses l) curve)) && ((Lru.trace l) == (Lru.trace l))) && ((Deep.room l percent) == need))) rfl) rfl rfl rfl ?_
          refine o_and (p := 146) 4 ((Deep.roomErr l percent) == 3) ?_ ?_ ?_
          · intro hb54 hk
            simp only [Bool.and_eq_true, beq_iff_eq] at hb54
            refine o_unguard 142 rfl rfl ?_
            refine o_pure (p_move (v := .int .i64 (Deep.roomErr l percent)) rfl) rfl rfl rfl ?_
            refine o_unguard 142 rfl rfl ?_
            refine o_pure (p_move (v := .int .i64 3) rfl) rfl rfl rfl ?_
            refine o_unguard 142 rfl rfl ?_
            refine o_pure (p_eq (p := (Deep.roomErr l percent)) (q := 3) rfl rfl) rfl rfl rfl ?_
            refine o_pure (p_pick_true (u := .bool ((Deep.roomErr l percent) == 3)) rfl rfl) rfl rfl rfl ?_
            exact o_sub (Sub.cons rfl (Sub.skip rfl (Sub.skip rfl (Sub.skip rfl (Sub.skip rfl (Sub.skip rfl (Sub.refl _))))))) hk
          · intro hb54 hk
            refine o_guard_no rfl 142 rfl rfl rfl rfl rfl ?_
            refine o_guard_no rfl 142 rfl rfl rfl rfl rfl ?_
            refine o_guard_no rfl 142 rfl rfl rfl rfl rfl ?_
            refine o_pure (p_pick_false (v := .bool false) rfl rfl) rfl rfl rfl ?_
            exact o_sub (Sub.cons rfl (Sub.skip rfl (Sub.skip rfl (Sub.skip rfl (Sub.skip rfl (Sub.skip rfl (Sub.refl _))))))) hk
          refine o_pure (p_assign (v := .bool ((((((((Ref.sameInts (Deep.dist l) depths) && ((Lru.trace l) == (Lru.trace l))) && (Ref.sameInts (Deep.hitsR l) hits)) && ((Lru.trace l) == (Lru.trace l))) && (Ref.sameInts (Deep.misses l) curve)) && ((Lru.trace l) == (Lru.trace l))) && ((Deep.room l percent) == need)) && ((Deep.roomErr l percent) == 3))) rfl) rfl rfl rfl ?_
          refine o_nil ?_
          refine q_then ?_
          refine c_ret ?_
          have hr0 : (((((((((Ref.sameInts (Deep.dist l) depths) && ((Lru.trace l) == (Lru.trace l))) && (Ref.sameInts (Deep.hitsR l) hits)) && ((Lru.trace l) == (Lru.trace l))) && (Ref.sameInts (Deep.misses l) curve)) && ((Lru.trace l) == (Lru.trace l))) && ((Deep.room l percent) == need)) && ((Deep.roomErr l percent) == 3)) : Bool) = true := by
            first | (have h9 : Lru.trace l ≠ 0 := (by assumption); obtain ⟨q1, q2, q3⟩ := Deep.spec_bad h9; obtain ⟨q4, q5⟩ := Deep.spec_bad2 percent h9; simp [q1, q2, q3, q4, q5, Ref.sameInts]; done) | (rw [← hdd, ← hs1, ← hs2, ← hs3]; simp [Ref.sameInts]; first | exact hs4 (by omega) | exact hs5 (by omega) (by omega) | exact (hs6 (by omega) (by omega)).trans ht.symm)
          refine q_end0 (v := .bool ((((((((Ref.sameInts (Deep.dist l) depths) && ((Lru.trace l) == (Lru.trace l))) && (Ref.sameInts (Deep.hitsR l) hits)) && ((Lru.trace l) == (Lru.trace l))) && (Ref.sameInts (Deep.misses l) curve)) && ((Lru.trace l) == (Lru.trace l))) && ((Deep.room l percent) == need)) && ((Deep.roomErr l percent) == 3))) (rt1 rfl (r_tmp rfl)) (i := 6) rfl ?_
          exact (by have hcc := congrArg (fun (y0 : Bool) => (.bool y0 : Value)) hr0; exact hcc)
        · simp only [Bool.or_eq_false_iff, decide_eq_false_iff_not, Int.not_lt] at hc47
          refine c_seq ?_
          refine c_region ?_
          refine o_pure (p_move (v := .int .i64 need) rfl) rfl rfl rfl ?_
          refine o_pure (p_eq (p := need) (q := 0) rfl rfl) rfl rfl rfl ?_
          refine o_nil ?_
          refine q_then ?_
          refine c_cond (b := (need == 0)) rfl (fun hc55 => ?_) (fun hc55 => ?_)
          · simp only [beq_iff_eq] at hc55
            refine c_region ?_
            refine o_pure (p_assign (v := .int .i64 5) rfl) rfl rfl rfl ?_
            refine o_nil ?_
            refine q_then ?_
            refine c_seq ?_
            refine c_region ?_
            refine o_call0 (v := .bool true) rfl (deepBegun_ok ) hf29 (fun _ _ => trivial) rfl ?_
            refine o_pure (p_move (v := .bool true) rfl) rfl rfl rfl ?_
            refine o_unguard 107 rfl rfl ?_
            refine o_pure (p_move (v := .slice a3 (Deep.dist l).length c4) rfl) rfl rfl rfl ?_
            refine o_unguard 107 rfl rfl ?_
            refine o_pure (p_move (v := .slice adepths depths.length cdepths) rfl) rfl rfl rfl ?_
            refine o_unguard 107 rfl rfl ?_
            refine o_call0 (v := .bool (Ref.sameInts (Deep.dist l) depths)) rfl (sameInts_ok (Deep.dist l) a3 c4 depths adepths cdepths) hf35 (fun w hw => ⟨(rd_own (i := 5) rfl) w hw, (rd_own (i := 2) rfl) w hw⟩) rfl ?_
            refine o_pure (p_pick_true (u := .bool (Ref.sameInts (Deep.dist l) depths)) rfl rfl) rfl rfl rfl ?_
            refine o_pure (p_move (v := .bool (Ref.sameInts (Deep.dist l) depths)) rfl) rfl rfl rfl ?_
            refine o_and (p := 116) 4 ((Lru.trace l) == (Lru.trace l)) ?_ ?_ ?_
            · intro hb56 hk
              skip
              refine o_unguard 112 rfl rfl ?_
              refine o_pure (p_move (v := .int .i64 (Lru.trace l)) rfl) rfl rfl rfl ?_
              refine o_unguard 112 rfl rfl ?_
              refine o_pure (p_move (v := .int .i64 (Lru.trace l)) rfl) rfl rfl rfl ?_
              refine o_unguard 112 rfl rfl ?_
              refine o_pure (p_eq (p := (Lru.trace l)) (q := (Lru.trace l)) rfl rfl) rfl rfl rfl ?_
              refine o_pure (p_pick_true (u := .bool ((Lru.trace l) == (Lru.trace l))) rfl rfl) rfl rfl rfl ?_
              exact o_sub (Sub.cons rfl (Sub.skip rfl (Sub.skip rfl (Sub.skip rfl (Sub.skip rfl (Sub.skip rfl (Sub.refl _))))))) hk
            · intro hb56 hk
              refine o_guard_no rfl 112 rfl rfl rfl rfl rfl ?_
              refine o_guard_no rfl 112 rfl rfl rfl rfl rfl ?_
              refine o_guard_no rfl 112 rfl rfl rfl rfl rfl ?_
              refine o_pure (p_pick_false (v := .bool false) rfl rfl) rfl rfl rfl ?_
              exact o_sub (Sub.cons rfl (Sub.skip rfl (Sub.skip rfl (Sub.skip rfl (Sub.skip rfl (Sub.skip rfl (Sub.refl _))))))) hk
            refine o_pure (p_move (v := .bool ((Ref.sameInts (Deep.dist l) depths) && ((Lru.trace l) == (Lru.trace l)))) rfl) rfl rfl rfl ?_
            refine o_and (p := 121) 4 (Ref.sameInts (Deep.hitsR l) hits) ?_ ?_ ?_
            · intro hb57 hk
              simp only [Bool.and_eq_true, beq_iff_eq] at hb57
              refine o_unguard 117 rfl rfl ?_
              refine o_pure (p_move (v := .slice a8 (Deep.hitsR l).length c9) rfl) rfl rfl rfl ?_
              refine o_unguard 117 rfl rfl ?_
              refine o_pure (p_move (v := .slice ahits hits.length chits) rfl) rfl rfl rfl ?_
              refine o_unguard 117 rfl rfl ?_
              refine o_call0 (v := .bool (Ref.sameInts (Deep.hitsR l) hits)) rfl (sameInts_ok (Deep.hitsR l) a8 c9 hits ahits chits) hf35 (fun w hw => ⟨(rd_own (i := 4) rfl) w hw, (rd_own (i := 1) rfl) w hw⟩) rfl ?_
              refine o_pure (p_pick_true (u := .bool (Ref.sameInts (Deep.hitsR l) hits)) rfl rfl) rfl rfl rfl ?_
              exact o_sub (Sub.cons rfl (Sub.skip rfl (Sub.skip rfl (Sub.skip rfl (Sub.skip rfl (Sub.skip rfl (Sub.refl _))))))) hk
            · intro hb57 hk
              refine o_guard_no rfl 117 rfl rfl rfl rfl rfl ?_
              refine o_guard_no rfl 117 rfl rfl rfl rfl rfl ?_
              refine o_guard_no rfl 117 rfl rfl rfl rfl rfl ?_
              refine o_pure (p_pick_false (v := .bool false) rfl rfl) rfl rfl rfl ?_
              exact o_sub (Sub.cons rfl (Sub.skip rfl (Sub.skip rfl (Sub.skip rfl (Sub.skip rfl (Sub.skip rfl (Sub.refl _))))))) hk
            refine o_pure (p_move (v := .bool (((Ref.sameInts (Deep.dist l) depths) && ((Lru.trace l) == (Lru.trace l))) && (Ref.sameInts (Deep.hitsR l) hits))) rfl) rfl rfl rfl ?_
            refine o_and (p := 126) 4 ((Lru.trace l) == (Lru.trace l)) ?_ ?_ ?_
            · intro hb58 hk
              simp only [Bool.and_eq_true, beq_iff_eq] at hb58
              refine o_unguard 122 rfl rfl ?_
              refine o_pure (p_move (v := .int .i64 (Lru.trace l)) rfl) rfl rfl rfl ?_
              refine o_unguard 122 rfl rfl ?_
              refine o_pure (p_move (v := .int .i64 (Lru.trace l)) rfl) rfl rfl rfl ?_
              refine o_unguard 122 rfl rfl ?_
              refine o_pure (p_eq (p := (Lru.trace l)) (q := (Lru.trace l)) rfl rfl) rfl rfl rfl ?_
              refine o_pure (p_pick_true (u := .bool ((Lru.trace l) == (Lru.trace l))) rfl rfl) rfl rfl rfl ?_
              exact o_sub (Sub.cons rfl (Sub.skip rfl (Sub.skip rfl (Sub.skip rfl (Sub.skip rfl (Sub.skip rfl (Sub.refl _))))))) hk
            · intro hb58 hk
              refine o_guard_no rfl 122 rfl rfl rfl rfl rfl ?_
              refine o_guard_no rfl 122 rfl rfl rfl rfl rfl ?_
              refine o_guard_no rfl 122 rfl rfl rfl rfl rfl ?_
              refine o_pure (p_pick_false (v := .bool false) rfl rfl) rfl rfl rfl ?_
              exact o_sub (Sub.cons rfl (Sub.skip rfl (Sub.skip rfl (Sub.skip rfl (Sub.skip rfl (Sub.skip rfl (Sub.refl _))))))) hk
            refine o_pure (p_move (v := .bool ((((Ref.sameInts (Deep.dist l) depths) && ((Lru.trace l) == (Lru.trace l))) && (Ref.sameInts (Deep.hitsR l) hits)) && ((Lru.trace l) == (Lru.trace l)))) rfl) rfl rfl rfl ?_
            refine o_and (p := 131) 4 (Ref.sameInts (Deep.misses l) curve) ?_ ?_ ?_
            · intro hb59 hk
              simp only [Bool.and_eq_true, beq_iff_eq] at hb59
              refine o_unguard 127 rfl rfl ?_
              refine o_pure (p_move (v := .slice a13 (Deep.misses l).length c14) rfl) rfl rfl rfl ?_
              refine o_unguard 127 rfl rfl ?_
              refine o_pure (p_move (v := .slice acurve curve.length ccurve) rfl) rfl rfl rfl ?_
              refine o_unguard 127 rfl rfl ?_
              refine o_call0 (v := .bool (Ref.sameInts (Deep.misses l) curve)) rfl (sameInts_ok (Deep.misses l) a13 c14 curve acurve ccurve) hf35 (fun w hw => ⟨(rd_own (i := 3) rfl) w hw, (rd_own (i := 0) rfl) w hw⟩) rfl ?_
              refine o_pure (p_pick_true (u := .bool (Ref.sameInts (Deep.misses l) curve)) rfl rfl) rfl rfl rfl ?_
              exact o_sub (Sub.cons rfl (Sub.skip rfl (Sub.skip rfl (Sub.skip rfl (Sub.skip rfl (Sub.skip rfl (Sub.refl _))))))) hk
            · intro hb59 hk
              refine o_guard_no rfl 127 rfl rfl rfl rfl rfl ?_
              refine o_guard_no rfl 127 rfl rfl rfl rfl rfl ?_
              refine o_guard_no rfl 127 rfl rfl rfl rfl rfl ?_
              refine o_pure (p_pick_false (v := .bool false) rfl rfl) rfl rfl rfl ?_
              exact o_sub (Sub.cons rfl (Sub.skip rfl (Sub.skip rfl (Sub.skip rfl (Sub.skip rfl (Sub.skip rfl (Sub.refl _))))))) hk
            refine o_pure (p_move (v := .bool (((((Ref.sameInts (Deep.dist l) depths) && ((Lru.trace l) == (Lru.trace l))) && (Ref.sameInts (Deep.hitsR l) hits)) && ((Lru.trace l) == (Lru.trace l))) && (Ref.sameInts (Deep.misses l) curve))) rfl) rfl rfl rfl ?_
            refine o_and (p := 136) 4 ((Lru.trace l) == (Lru.trace l)) ?_ ?_ ?_
            · intro hb60 hk
              simp only [Bool.and_eq_true, beq_iff_eq] at hb60
              refine o_unguard 132 rfl rfl ?_
              refine o_pure (p_move (v := .int .i64 (Lru.trace l)) rfl) rfl rfl rfl ?_
              refine o_unguard 132 rfl rfl ?_
              refine o_pure (p_move (v := .int .i64 (Lru.trace l)) rfl) rfl rfl rfl ?_
              refine o_unguard 132 rfl rfl ?_
              refine o_pure (p_eq (p := (Lru.trace l)) (q := (Lru.trace l)) rfl rfl) rfl rfl rfl ?_
              refine o_pure (p_pick_true (u := .bool ((Lru.trace l) == (Lru.trace l))) rfl rfl) rfl rfl rfl ?_
              exact o_sub (Sub.cons rfl (Sub.skip rfl (Sub.skip rfl (Sub.skip rfl (Sub.skip rfl (Sub.skip rfl (Sub.refl _))))))) hk
            · intro hb60 hk
              refine o_guard_no rfl 132 rfl rfl rfl rfl rfl ?_
              refine o_guard_no rfl 132 rfl rfl rfl rfl rfl ?_
              refine o_guard_no rfl 132 rfl rfl rfl rfl rfl ?_
              refine o_pure (p_pick_false (v := .bool false) rfl rfl) rfl rfl rfl ?_
              exact o_sub (Sub.cons rfl (Sub.skip rfl (Sub.skip rfl (Sub.skip rfl (Sub.skip rfl (Sub.skip rfl (Sub.refl _))))))) hk
            refine o_pure (p_move (v := .bool ((((((Ref.sameInts (Deep.dist l) depths) && ((Lru.trace l) == (Lru.trace l))) && (Ref.sameInts (Deep.hitsR l) hits)) && ((Lru.trace l) == (Lru.trace l))) && (Ref.sameInts (Deep.misses l) curve)) && ((Lru.trace l) == (Lru.trace l)))) rfl) rfl rfl rfl ?_
            refine o_and (p := 141) 4 ((Deep.room l percent) == need) ?_ ?_ ?_
            · intro hb61 hk
              simp only [Bool.and_eq_true, beq_iff_eq] at hb61
              refine o_unguard 137 rfl rfl ?_
              refine o_pure (p_move (v := .int .i64 (Deep.room l percent)) rfl) rfl rfl rfl ?_
              refine o_unguard 137 rfl rfl ?_
              refine o_pure (p_move (v := .int .i64 need) rfl) rfl rfl rfl ?_
              refine o_unguard 137 rfl rfl ?_
              refine o_pure (p_eq (p := (Deep.room l percent)) (q := need) rfl rfl) rfl rfl rfl ?_
              refine o_pure (p_pick_true (u := .bool ((Deep.room l percent) == need)) rfl rfl) rfl rfl rfl ?_
              exact o_sub (Sub.cons rfl (Sub.skip rfl (Sub.skip rfl (Sub.skip rfl (Sub.skip rfl (Sub.skip rfl (Sub.refl _))))))) hk
            · intro hb61 hk
              refine o_guard_no rfl 137 rfl rfl rfl rfl rfl ?_
              refine o_guard_no rfl 137 rfl rfl rfl rfl rfl ?_
              refine o_guard_no rfl 137 rfl rfl rfl rfl rfl ?_
              refine o_pure (p_pick_false (v := .bool false) rfl rfl) rfl rfl rfl ?_
              exact o_sub (Sub.cons rfl (Sub.skip rfl (Sub.skip rfl (Sub.skip rfl (Sub.skip rfl (Sub.skip rfl (Sub.refl _))))))) hk
            refine o_pure (p_move (v := .bool (((((((Ref.sameInts (Deep.dist l) depths) && ((Lru.trace l) == (Lru.trace l))) && (Ref.sameInts (Deep.hitsR l) hits)) && ((Lru.trace l) == (Lru.trace l))) && (Ref.sameInts (Deep.misses l) curve)) && ((Lru.trace l) == (Lru.trace l))) && ((Deep.room l percent) == need))) rfl) rfl rfl rfl ?_
            refine o_and (p := 146) 4 ((Deep.roomErr l percent) == 5) ?_ ?_ ?_
            · intro hb62 hk
              simp only [Bool.and_eq_true, beq_iff_eq] at hb62
              refine o_unguard 142 rfl rfl ?_
              refine o_pure (p_move (v := .int .i64 (Deep.roomErr l percent)) rfl) rfl rfl rfl ?_
              refine o_unguard 142 rfl rfl ?_
              refine o_pure (p_move (v := .int .i64 5) rfl) rfl rfl rfl ?_
              refine o_unguard 142 rfl rfl ?_
              refine o_pure (p_eq (p := (Deep.roomErr l percent)) (q := 5) rfl rfl) rfl rfl rfl ?_
              refine o_pure (p_pick_true (u := .bool ((Deep.roomErr l percent) == 5)) rfl rfl) rfl rfl rfl ?_
              exact o_sub (Sub.cons rfl (Sub.skip rfl (Sub.skip rfl (Sub.skip rfl (Sub.skip rfl (Sub.skip rfl (Sub.refl _))))))) hk
            · intro hb62 hk
              refine o_guard_no rfl 142 rfl rfl rfl rfl rfl ?_
              refine o_guard_no rfl 142 rfl rfl rfl rfl rfl ?_
              refine o_guard_no rfl 142 rfl rfl rfl rfl rfl ?_
              refine o_pure (p_pick_false (v := .bool false) rfl rfl) rfl rfl rfl ?_
              exact o_sub (Sub.cons rfl (Sub.skip rfl (Sub.skip rfl (Sub.skip rfl (Sub.skip rfl (Sub.skip rfl (Sub.refl _))))))) hk
            refine o_pure (p_assign (v := .bool ((((((((Ref.sameInts (Deep.dist l) depths) && ((Lru.trace l) == (Lru.trace l))) && (Ref.sameInts (Deep.hitsR l) hits)) && ((Lru.trace l) == (Lru.trace l))) && (Ref.sameInts (Deep.misses l) curve)) && ((Lru.trace l) == (Lru.trace l))) && ((Deep.room l percent) == need)) && ((Deep.roomErr l percent) == 5))) rfl) rfl rfl rfl ?_
            refine o_nil ?_
            refine q_then ?_
            refine c_ret ?_
            have hr0 : (((((((((Ref.sameInts (Deep.dist l) depths) && ((Lru.trace l) == (Lru.trace l))) && (Ref.sameInts (Deep.hitsR l) hits)) && ((Lru.trace l) == (Lru.trace l))) && (Ref.sameInts (Deep.misses l) curve)) && ((Lru.trace l) == (Lru.trace l))) && ((Deep.room l percent) == need)) && ((Deep.roomErr l percent) == 5)) : Bool) = true := by
              first | (have h9 : Lru.trace l ≠ 0 := (by assumption); obtain ⟨q1, q2, q3⟩ := Deep.spec_bad h9; obtain ⟨q4, q5⟩ := Deep.spec_bad2 percent h9; simp [q1, q2, q3, q4, q5, Ref.sameInts]; done) | (rw [← hdd, ← hs1, ← hs2, ← hs3]; simp [Ref.sameInts]; first | exact hs4 (by omega) | exact hs5 (by omega) (by omega) | exact (hs6 (by omega) (by omega)).trans ht.symm)
            refine q_end0 (v := .bool ((((((((Ref.sameInts (Deep.dist l) depths) && ((Lru.trace l) == (Lru.trace l))) && (Ref.sameInts (Deep.hitsR l) hits)) && ((Lru.trace l) == (Lru.trace l))) && (Ref.sameInts (Deep.misses l) curve)) && ((Lru.trace l) == (Lru.trace l))) && ((Deep.room l percent) == need)) && ((Deep.roomErr l percent) == 5))) (rt1 rfl (r_tmp rfl)) (i := 6) rfl ?_
            exact (by have hcc := congrArg (fun (y0 : Bool) => (.bool y0 : Value)) hr0; exact hcc)
          · simp only [beq_eq_false_iff_ne, ne_eq] at hc55
            refine c_skip ?_
            refine q_then ?_
            refine c_seq ?_
            refine c_region ?_
            refine o_call0 (v := .bool true) rfl (deepBegun_ok ) hf29 (fun _ _ => trivial) rfl ?_
            refine o_pure (p_move (v := .bool true) rfl) rfl rfl rfl ?_
            refine o_unguard 107 rfl rfl ?_
            refine o_pure (p_move (v := .slice a3 (Deep.dist l).length c4) rfl) rfl rfl rfl ?_
            refine o_unguard 107 rfl rfl ?_
            refine o_pure (p_move (v := .slice adepths depths.length cdepths) rfl) rfl rfl rfl ?_
            refine o_unguard 107 rfl rfl ?_
            refine o_call0 (v := .bool (Ref.sameInts (Deep.dist l) depths)) rfl (sameInts_ok (Deep.dist l) a3 c4 depths adepths cdepths) hf35 (fun w hw => ⟨(rd_own (i := 5) rfl) w hw, (rd_own (i := 2) rfl) w hw⟩) rfl ?_
            refine o_pure (p_pick_true (u := .bool (Ref.sameInts (Deep.dist l) depths)) rfl rfl) rfl rfl rfl ?_
            refine o_pure (p_move (v := .bool (Ref.sameInts (Deep.dist l) depths)) rfl) rfl rfl rfl ?_
            refine o_and (p := 116) 4 ((Lru.trace l) == (Lru.trace l)) ?_ ?_ ?_
            · intro hb63 hk
              skip
              refine o_unguard 112 rfl rfl ?_
              refine o_pure (p_move (v := .int .i64 (Lru.trace l)) rfl) rfl rfl rfl ?_
              refine o_unguard 112 rfl rfl ?_
              refine o_pure (p_move (v := .int .i64 (Lru.trace l)) rfl) rfl rfl rfl ?_
              refine o_unguard 112 rfl rfl ?_
              refine o_pure (p_eq (p := (Lru.trace l)) (q := (Lru.trace l)) rfl rfl) rfl rfl rfl ?_
              refine o_pure (p_pick_true (u := .bool ((Lru.trace l) == (Lru.trace l))) rfl rfl) rfl rfl rfl ?_
              exact o_sub (Sub.cons rfl (Sub.skip rfl (Sub.skip rfl (Sub.skip rfl (Sub.skip rfl (Sub.skip rfl (Sub.refl _))))))) hk
            · intro hb63 hk
              refine o_guard_no rfl 112 rfl rfl rfl rfl rfl ?_
              refine o_guard_no rfl 112 rfl rfl rfl rfl rfl ?_
              refine o_guard_no rfl 112 rfl rfl rfl rfl rfl ?_
              refine o_pure (p_pick_false (v := .bool false) rfl rfl) rfl rfl rfl ?_
              exact o_sub (Sub.cons rfl (Sub.skip rfl (Sub.skip rfl (Sub.skip rfl (Sub.skip rfl (Sub.skip rfl (Sub.refl _))))))) hk
            refine o_pure (p_move (v := .bool ((Ref.sameInts (Deep.dist l) depths) && ((Lru.trace l) == (Lru.trace l)))) rfl) rfl rfl rfl ?_
            refine o_and (p := 121) 4 (Ref.sameInts (Deep.hitsR l) hits) ?_ ?_ ?_
            · intro hb64 hk
              simp only [Bool.and_eq_true, beq_iff_eq] at hb64
              refine o_unguard 117 rfl rfl ?_
              refine o_pure (p_move (v := .slice a8 (Deep.hitsR l).length c9) rfl) rfl rfl rfl ?_
              refine o_unguard 117 rfl rfl ?_
              refine o_pure (p_move (v := .slice ahits hits.length chits) rfl) rfl rfl rfl ?_
              refine o_unguard 117 rfl rfl ?_
              refine o_call0 (v := .bool (Ref.sameInts (Deep.hitsR l) hits)) rfl (sameInts_ok (Deep.hitsR l) a8 c9 hits ahits chits) hf35 (fun w hw => ⟨(rd_own (i := 4) rfl) w hw, (rd_own (i := 1) rfl) w hw⟩) rfl ?_
              refine o_pure (p_pick_true (u := .bool (Ref.sameInts (Deep.hitsR l) hits)) rfl rfl) rfl rfl rfl ?_
              exact o_sub (Sub.cons rfl (Sub.skip rfl (Sub.skip rfl (Sub.skip rfl (Sub.skip rfl (Sub.skip rfl (Sub.refl _))))))) hk
            · intro hb64 hk
              refine o_guard_no rfl 117 rfl rfl rfl rfl rfl ?_
              refine o_guard_no rfl 117 rfl rfl rfl rfl rfl ?_
              refine o_guard_no rfl 117 rfl rfl rfl rfl rfl ?_
              refine o_pure (p_pick_false (v := .bool false) rfl rfl) rfl rfl rfl ?_
              exact o_sub (Sub.cons rfl (Sub.skip rfl (Sub.skip rfl (Sub.skip rfl (Sub.skip rfl (Sub.skip rfl (Sub.refl _))))))) hk
            refine o_pure (p_move (v := .bool (((Ref.sameInts (Deep.dist l) depths) && ((Lru.trace l) == (Lru.trace l))) && (Ref.sameInts (Deep.hitsR l) hits))) rfl) rfl rfl rfl ?_
            refine o_and (p := 126) 4 ((Lru.trace l) == (Lru.trace l)) ?_ ?_ ?_
            · intro hb65 hk
              simp only [Bool.and_eq_true, beq_iff_eq] at hb65
              refine o_unguard 122 rfl rfl ?_
              refine o_pure (p_move (v := .int .i64 (Lru.trace l)) rfl) rfl rfl rfl ?_
              refine o_unguard 122 rfl rfl ?_
              refine o_pure (p_move (v := .int .i64 (Lru.trace l)) rfl) rfl rfl rfl ?_
              refine o_unguard 122 rfl rfl ?_
              refine o_pure (p_eq (p := (Lru.trace l)) (q := (Lru.trace l)) rfl rfl) rfl rfl rfl ?_
              refine o_pure (p_pick_true (u := .bool ((Lru.trace l) == (Lru.trace l))) rfl rfl) rfl rfl rfl ?_
              exact o_sub (Sub.cons rfl (Sub.skip rfl (Sub.skip rfl (Sub.skip rfl (Sub.skip rfl (Sub.skip rfl (Sub.refl _))))))) hk
            · intro hb65 hk
              refine o_guard_no rfl 122 rfl rfl rfl rfl rfl ?_
              refine o_guard_no rfl 122 rfl rfl rfl rfl rfl ?_
              refine o_guard_no rfl 122 rfl rfl rfl rfl rfl ?_
              refine o_pure (p_pick_false (v := .bool false) rfl rfl) rfl rfl rfl ?_
              exact o_sub (Sub.cons rfl (Sub.skip rfl (Sub.skip rfl (Sub.skip rfl (Sub.skip rfl (Sub.skip rfl (Sub.refl _))))))) hk
            refine o_pure (p_move (v := .bool ((((Ref.sameInts (Deep.dist l) depths) && ((Lru.trace l) == (Lru.trace l))) && (Ref.sameInts (Deep.hitsR l) hits)) && ((Lru.trace l) == (Lru.trace l)))) rfl) rfl rfl rfl ?_
            refine o_and (p := 131) 4 (Ref.sameInts (Deep.misses l) curve) ?_ ?_ ?_
            · intro hb66 hk
              simp only [Bool.and_eq_true, beq_iff_eq] at hb66
              refine o_unguard 127 rfl rfl ?_
              refine o_pure (p_move (v := .slice a13 (Deep.misses l).length c14) rfl) rfl rfl rfl ?_
              refine o_unguard 127 rfl rfl ?_
              refine o_pure (p_move (v := .slice acurve curve.length ccurve) rfl) rfl rfl rfl ?_
              refine o_unguard 127 rfl rfl ?_
              refine o_call0 (v := .bool (Ref.sameInts (Deep.misses l) curve)) rfl (sameInts_ok (Deep.misses l) a13 c14 curve acurve ccurve) hf35 (fun w hw => ⟨(rd_own (i := 3) rfl) w hw, (rd_own (i := 0) rfl) w hw⟩) rfl ?_
              refine o_pure (p_pick_true (u := .bool (Ref.sameInts (Deep.misses l) curve)) rfl rfl) rfl rfl rfl ?_
              exact o_sub (Sub.cons rfl (Sub.skip rfl (Sub.skip rfl (Sub.skip rfl (Sub.skip rfl (Sub.skip rfl (Sub.refl _))))))) hk
            · intro hb66 hk
              refine o_guard_no rfl 127 rfl rfl rfl rfl rfl ?_
              refine o_guard_no rfl 127 rfl rfl rfl rfl rfl ?_
              refine o_guard_no rfl 127 rfl rfl rfl rfl rfl ?_
              refine o_pure (p_pick_false (v := .bool false) rfl rfl) rfl rfl rfl ?_
              exact o_sub (Sub.cons rfl (Sub.skip rfl (Sub.skip rfl (Sub.skip rfl (Sub.skip rfl (Sub.skip rfl (Sub.refl _))))))) hk
            refine o_pure (p_move (v := .bool (((((Ref.sameInts (Deep.dist l) depths) && ((Lru.trace l) == (Lru.trace l))) && (Ref.sameInts (Deep.hitsR l) hits)) && ((Lru.trace l) == (Lru.trace l))) && (Ref.sameInts (Deep.misses l) curve))) rfl) rfl rfl rfl ?_
            refine o_and (p := 136) 4 ((Lru.trace l) == (Lru.trace l)) ?_ ?_ ?_
            · intro hb67 hk
              simp only [Bool.and_eq_true, beq_iff_eq] at hb67
              refine o_unguard 132 rfl rfl ?_
              refine o_pure (p_move (v := .int .i64 (Lru.trace l)) rfl) rfl rfl rfl ?_
              refine o_unguard 132 rfl rfl ?_
              refine o_pure (p_move (v := .int .i64 (Lru.trace l)) rfl) rfl rfl rfl ?_
              refine o_unguard 132 rfl rfl ?_
              refine o_pure (p_eq (p := (Lru.trace l)) (q := (Lru.trace l)) rfl rfl) rfl rfl rfl ?_
              refine o_pure (p_pick_true (u := .bool ((Lru.trace l) == (Lru.trace l))) rfl rfl) rfl rfl rfl ?_
              exact o_sub (Sub.cons rfl (Sub.skip rfl (Sub.skip rfl (Sub.skip rfl (Sub.skip rfl (Sub.skip rfl (Sub.refl _))))))) hk
            · intro hb67 hk
              refine o_guard_no rfl 132 rfl rfl rfl rfl rfl ?_
              refine o_guard_no rfl 132 rfl rfl rfl rfl rfl ?_
              refine o_guard_no rfl 132 rfl rfl rfl rfl rfl ?_
              refine o_pure (p_pick_false (v := .bool false) rfl rfl) rfl rfl rfl ?_
              exact o_sub (Sub.cons rfl (Sub.skip rfl (Sub.skip rfl (Sub.skip rfl (Sub.skip rfl (Sub.skip rfl (Sub.refl _))))))) hk
            refine o_pure (p_move (v := .bool ((((((Ref.sameInts (Deep.dist l) depths) && ((Lru.trace l) == (Lru.trace l))) && (Ref.sameInts (Deep.hitsR l) hits)) && ((Lru.trace l) == (Lru.trace l))) && (Ref.sameInts (Deep.misses l) curve)) && ((Lru.trace l) == (Lru.trace l)))) rfl) rfl rfl rfl ?_
            refine o_and (p := 141) 4 ((Deep.room l percent) == need) ?_ ?_ ?_
            · intro hb68 hk
              simp only [Bool.and_eq_true, beq_iff_eq] at hb68
              refine o_unguard 137 rfl rfl ?_
              refine o_pure (p_move (v := .int .i64 (Deep.room l percent)) rfl) rfl rfl rfl ?_
              refine o_unguard 137 rfl rfl ?_
              refine o_pure (p_move (v := .int .i64 need) rfl) rfl rfl rfl ?_
              refine o_unguard 137 rfl rfl ?_
              refine o_pure (p_eq (p := (Deep.room l percent)) (q := need) rfl rfl) rfl rfl rfl ?_
              refine o_pure (p_pick_true (u := .bool ((Deep.room l percent) == need)) rfl rfl) rfl rfl rfl ?_
              exact o_sub (Sub.cons rfl (Sub.skip rfl (Sub.skip rfl (Sub.skip rfl (Sub.skip rfl (Sub.skip rfl (Sub.refl _))))))) hk
            · intro hb68 hk
              refine o_guard_no rfl 137 rfl rfl rfl rfl rfl ?_
              refine o_guard_no rfl 137 rfl rfl rfl rfl rfl ?_
              refine o_guard_no rfl 137 rfl rfl rfl rfl rfl ?_
              refine o_pure (p_pick_false (v := .bool false) rfl rfl) rfl rfl rfl ?_
              exact o_sub (Sub.cons rfl (Sub.skip rfl (Sub.skip rfl (Sub.skip rfl (Sub.skip rfl (Sub.skip rfl (Sub.refl _))))))) hk
            refine o_pure (p_move (v := .bool (((((((Ref.sameInts (Deep.dist l) depths) && ((Lru.trace l) == (Lru.trace l))) && (Ref.sameInts (Deep.hitsR l) hits)) && ((Lru.trace l) == (Lru.trace l))) && (Ref.sameInts (Deep.misses l) curve)) && ((Lru.trace l) == (Lru.trace l))) && ((Deep.room l percent) == need))) rfl) rfl rfl rfl ?_
            refine o_and (p := 146) 4 ((Deep.roomErr l percent) == (Lru.trace l)) ?_ ?_ ?_
            · intro hb69 hk
              simp only [Bool.and_eq_true, beq_iff_eq] at hb69
              refine o_unguard 142 rfl rfl ?_
              refine o_pure (p_move (v := .int .i64 (Deep.roomErr l percent)) rfl) rfl rfl rfl ?_
              refine o_unguard 142 rfl rfl ?_
              refine o_pure (p_move (v := .int .i64 (Lru.trace l)) rfl) rfl rfl rfl ?_
              refine o_unguard 142 rfl rfl ?_
              refine o_pure (p_eq (p := (Deep.roomErr l percent)) (q := (Lru.trace l)) rfl rfl) rfl rfl rfl ?_
              refine o_pure (p_pick_true (u := .bool ((Deep.roomErr l percent) == (Lru.trace l))) rfl rfl) rfl rfl rfl ?_
              exact o_sub (Sub.cons rfl (Sub.skip rfl (Sub.skip rfl (Sub.skip rfl (Sub.skip rfl (Sub.skip rfl (Sub.refl _))))))) hk
            · intro hb69 hk
              refine o_guard_no rfl 142 rfl rfl rfl rfl rfl ?_
              refine o_guard_no rfl 142 rfl rfl rfl rfl rfl ?_
              refine o_guard_no rfl 142 rfl rfl rfl rfl rfl ?_
              refine o_pure (p_pick_false (v := .bool false) rfl rfl) rfl rfl rfl ?_
              exact o_sub (Sub.cons rfl (Sub.skip rfl (Sub.skip rfl (Sub.skip rfl (Sub.skip rfl (Sub.skip rfl (Sub.refl _))))))) hk
            refine o_pure (p_assign (v := .bool ((((((((Ref.sameInts (Deep.dist l) depths) && ((Lru.trace l) == (Lru.trace l))) && (Ref.sameInts (Deep.hitsR l) hits)) && ((Lru.trace l) == (Lru.trace l))) && (Ref.sameInts (Deep.misses l) curve)) && ((Lru.trace l) == (Lru.trace l))) && ((Deep.room l percent) == need)) && ((Deep.roomErr l percent) == (Lru.trace l)))) rfl) rfl rfl rfl ?_
            refine o_nil ?_
            refine q_then ?_
            refine c_ret ?_
            have hr0 : (((((((((Ref.sameInts (Deep.dist l) depths) && ((Lru.trace l) == (Lru.trace l))) && (Ref.sameInts (Deep.hitsR l) hits)) && ((Lru.trace l) == (Lru.trace l))) && (Ref.sameInts (Deep.misses l) curve)) && ((Lru.trace l) == (Lru.trace l))) && ((Deep.room l percent) == need)) && ((Deep.roomErr l percent) == (Lru.trace l))) : Bool) = true := by
              first | (have h9 : Lru.trace l ≠ 0 := (by assumption); obtain ⟨q1, q2, q3⟩ := Deep.spec_bad h9; obtain ⟨q4, q5⟩ := Deep.spec_bad2 percent h9; simp [q1, q2, q3, q4, q5, Ref.sameInts]; done) | (rw [← hdd, ← hs1, ← hs2, ← hs3]; simp [Ref.sameInts]; first | exact hs4 (by omega) | exact hs5 (by omega) (by omega) | exact (hs6 (by omega) (by omega)).trans ht.symm)
            refine q_end0 (v := .bool ((((((((Ref.sameInts (Deep.dist l) depths) && ((Lru.trace l) == (Lru.trace l))) && (Ref.sameInts (Deep.hitsR l) hits)) && ((Lru.trace l) == (Lru.trace l))) && (Ref.sameInts (Deep.misses l) curve)) && ((Lru.trace l) == (Lru.trace l))) && ((Deep.room l percent) == need)) && ((Deep.roomErr l percent) == (Lru.trace l)))) (rt1 rfl (r_tmp rfl)) (i := 6) rfl ?_
            exact (by have hcc := congrArg (fun (y0 : Bool) => (.bool y0 : Value)) hr0; exact hcc)
  · simp only [beq_eq_false_iff_ne, ne_eq] at hc16
    refine c_skip ?_
    refine q_then ?_
    refine c_seq ?_
    refine c_region ?_
    refine o_call0 (v := .bool true) rfl (deepBegun_ok ) hf29 (fun _ _ => trivial) rfl ?_
    refine o_pure (p_move (v := .bool true) rfl) rfl rfl rfl ?_
    refine o_unguard 107 rfl rfl ?_
    refine o_pure (p_move (v := .slice a3 (Deep.dist l).length c4) rfl) rfl rfl rfl ?_
    refine o_unguard 107 rfl rfl ?_
    refine o_pure (p_move (v := .slice none 0 0) rfl) rfl rfl rfl ?_
    refine o_unguard 107 rfl rfl ?_
    refine o_call0 (v := .bool (Ref.sameInts (Deep.dist l) [])) rfl (sameInts_ok (Deep.dist l) a3 c4 [] none 0) hf35 (fun w hw => ⟨(rd_own (i := 2) rfl) w hw, rd_nil w hw⟩) rfl ?_
    refine o_pure (p_pick_true (u := .bool (Ref.sameInts (Deep.dist l) [])) rfl rfl) rfl rfl rfl ?_
    refine o_pure (p_move (v := .bool (Ref.sameInts (Deep.dist l) [])) rfl) rfl rfl rfl ?_
    refine o_and (p := 116) 4 ((Lru.trace l) == (Lru.trace l)) ?_ ?_ ?_
    · intro hb70 hk
      skip
      refine o_unguard 112 rfl rfl ?_
      refine o_pure (p_move (v := .int .i64 (Lru.trace l)) rfl) rfl rfl rfl ?_
      refine o_unguard 112 rfl rfl ?_
      refine o_pure (p_move (v := .int .i64 (Lru.trace l)) rfl) rfl rfl rfl ?_
      refine o_unguard 112 rfl rfl ?_
      refine o_pure (p_eq (p := (Lru.trace l)) (q := (Lru.trace l)) rfl rfl) rfl rfl rfl ?_
      refine o_pure (p_pick_true (u := .bool ((Lru.trace l) == (Lru.trace l))) rfl rfl) rfl rfl rfl ?_
      exact o_sub (Sub.cons rfl (Sub.skip rfl (Sub.skip rfl (Sub.skip rfl (Sub.skip rfl (Sub.skip rfl (Sub.refl _))))))) hk
    · intro hb70 hk
      refine o_guard_no rfl 112 rfl rfl rfl rfl rfl ?_
      refine o_guard_no rfl 112 rfl rfl rfl rfl rfl ?_
      refine o_guard_no rfl 112 rfl rfl rfl rfl rfl ?_
      refine o_pure (p_pick_false (v := .bool false) rfl rfl) rfl rfl rfl ?_
      exact o_sub (Sub.cons rfl (Sub.skip rfl (Sub.skip rfl (Sub.skip rfl (Sub.skip rfl (Sub.skip rfl (Sub.refl _))))))) hk
    refine o_pure (p_move (v := .bool ((Ref.sameInts (Deep.dist l) []) && ((Lru.trace l) == (Lru.trace l)))) rfl) rfl rfl rfl ?_
    refine o_and (p := 121) 4 (Ref.sameInts (Deep.hitsR l) []) ?_ ?_ ?_
    · intro hb71 hk
      simp only [Bool.and_eq_true, beq_iff_eq] at hb71
      refine o_unguard 117 rfl rfl ?_
      refine o_pure (p_move (v := .slice a8 (Deep.hitsR l).length c9) rfl) rfl rfl rfl ?_
      refine o_unguard 117 rfl rfl ?_
      refine o_pure (p_move (v := .slice none 0 0) rfl) rfl rfl rfl ?_
      refine o_unguard 117 rfl rfl ?_
      refine o_call0 (v := .bool (Ref.sameInts (Deep.hitsR l) [])) rfl (sameInts_ok (Deep.hitsR l) a8 c9 [] none 0) hf35 (fun w hw => ⟨(rd_own (i := 1) rfl) w hw, rd_nil w hw⟩) rfl ?_
      refine o_pure (p_pick_true (u := .bool (Ref.sameInts (Deep.hitsR l) [])) rfl rfl) rfl rfl rfl ?_
      exact o_sub (Sub.cons rfl (Sub.skip rfl (Sub.skip rfl (Sub.skip rfl (Sub.skip rfl (Sub.skip rfl (Sub.refl _))))))) hk
    · intro hb71 hk
      refine o_guard_no rfl 117 rfl rfl rfl rfl rfl ?_
      refine o_guard_no rfl 117 rfl rfl rfl rfl rfl ?_
      refine o_guard_no rfl 117 rfl rfl rfl rfl rfl ?_
      refine o_pure (p_pick_false (v := .bool false) rfl rfl) rfl rfl rfl ?_
      exact o_sub (Sub.cons rfl (Sub.skip rfl (Sub.skip rfl (Sub.skip rfl (Sub.skip rfl (Sub.skip rfl (Sub.refl _))))))) hk
    refine o_pure (p_move (v := .bool (((Ref.sameInts (Deep.dist l) []) && ((Lru.trace l) == (Lru.trace l))) && (Ref.sameInts (Deep.hitsR l) []))) rfl) rfl rfl rfl ?_
    refine o_and (p := 126) 4 ((Lru.trace l) == (Lru.trace l)) ?_ ?_ ?_
    · intro hb72 hk
      simp only [Bool.and_eq_true, beq_iff_eq] at hb72
      refine o_unguard 122 rfl rfl ?_
      refine o_pure (p_move (v := .int .i64 (Lru.trace l)) rfl) rfl rfl rfl ?_
      refine o_unguard 122 rfl rfl ?_
      refine o_pure (p_move (v := .int .i64 (Lru.trace l)) rfl) rfl rfl rfl ?_
      refine o_unguard 122 rfl rfl ?_
      refine o_pure (p_eq (p := (Lru.trace l)) (q := (Lru.trace l)) rfl rfl) rfl rfl rfl ?_
      refine o_pure (p_pick_true (u := .bool ((Lru.trace l) == (Lru.trace l))) rfl rfl) rfl rfl rfl ?_
      exact o_sub (Sub.cons rfl (Sub.skip rfl (Sub.skip rfl (Sub.skip rfl (Sub.skip rfl (Sub.skip rfl (Sub.refl _))))))) hk
    · intro hb72 hk
      refine o_guard_no rfl 122 rfl rfl rfl rfl rfl ?_
      refine o_guard_no rfl 122 rfl rfl rfl rfl rfl ?_
      refine o_guard_no rfl 122 rfl rfl rfl rfl rfl ?_
      refine o_pure (p_pick_false (v := .bool false) rfl rfl) rfl rfl rfl ?_
      exact o_sub (Sub.cons rfl (Sub.skip rfl (Sub.skip rfl (Sub.skip rfl (Sub.skip rfl (Sub.skip rfl (Sub.refl _))))))) hk
    refine o_pure (p_move (v := .bool ((((Ref.sameInts (Deep.dist l) []) && ((Lru.trace l) == (Lru.trace l))) && (Ref.sameInts (Deep.hitsR l) [])) && ((Lru.trace l) == (Lru.trace l)))) rfl) rfl rfl rfl ?_
    refine o_and (p := 131) 4 (Ref.sameInts (Deep.misses l) []) ?_ ?_ ?_
    · intro hb73 hk
      simp only [Bool.and_eq_true, beq_iff_eq] at hb73
      refine o_unguard 127 rfl rfl ?_
      refine o_pure (p_move (v := .slice a13 (Deep.misses l).length c14) rfl) rfl rfl rfl ?_
      refine o_unguard 127 rfl rfl ?_
      refine o_pure (p_move (v := .slice none 0 0) rfl) rfl rfl rfl ?_
      refine o_unguard 127 rfl rfl ?_
      refine o_call0 (v := .bool (Ref.sameInts (Deep.misses l) [])) rfl (sameInts_ok (Deep.misses l) a13 c14 [] none 0) hf35 (fun w hw => ⟨(rd_own (i := 0) rfl) w hw, rd_nil w hw⟩) rfl ?_
      refine o_pure (p_pick_true (u := .bool (Ref.sameInts (Deep.misses l) [])) rfl rfl) rfl rfl rfl ?_
      exact o_sub (Sub.cons rfl (Sub.skip rfl (Sub.skip rfl (Sub.skip rfl (Sub.skip rfl (Sub.skip rfl (Sub.refl _))))))) hk
    · intro hb73 hk
      refine o_guard_no rfl 127 rfl rfl rfl rfl rfl ?_
      refine o_guard_no rfl 127 rfl rfl rfl rfl rfl ?_
      refine o_guard_no rfl 127 rfl rfl rfl rfl rfl ?_
      refine o_pure (p_pick_false (v := .bool false) rfl rfl) rfl rfl rfl ?_
      exact o_sub (Sub.cons rfl (Sub.skip rfl (Sub.skip rfl (Sub.skip rfl (Sub.skip rfl (Sub.skip rfl (Sub.refl _))))))) hk
    refine o_pure (p_move (v := .bool (((((Ref.sameInts (Deep.dist l) []) && ((Lru.trace l) == (Lru.trace l))) && (Ref.sameInts (Deep.hitsR l) [])) && ((Lru.trace l) == (Lru.trace l))) && (Ref.sameInts (Deep.misses l) []))) rfl) rfl rfl rfl ?_
    refine o_and (p := 136) 4 ((Lru.trace l) == (Lru.trace l)) ?_ ?_ ?_
    · intro hb74 hk
      simp only [Bool.and_eq_true, beq_iff_eq] at hb74
      refine o_unguard 132 rfl rfl ?_
      refine o_pure (p_move (v := .int .i64 (Lru.trace l)) rfl) rfl rfl rfl ?_
      refine o_unguard 132 rfl rfl ?_
      refine o_pure (p_move (v := .int .i64 (Lru.trace l)) rfl) rfl rfl rfl ?_
      refine o_unguard 132 rfl rfl ?_
      refine o_pure (p_eq (p := (Lru.trace l)) (q := (Lru.trace l)) rfl rfl) rfl rfl rfl ?_
      refine o_pure (p_pick_true (u := .bool ((Lru.trace l) == (Lru.trace l))) rfl rfl) rfl rfl rfl ?_
      exact o_sub (Sub.cons rfl (Sub.skip rfl (Sub.skip rfl (Sub.skip rfl (Sub.skip rfl (Sub.skip rfl (Sub.refl _))))))) hk
    · intro hb74 hk
      refine o_guard_no rfl 132 rfl rfl rfl rfl rfl ?_
      refine o_guard_no rfl 132 rfl rfl rfl rfl rfl ?_
      refine o_guard_no rfl 132 rfl rfl rfl rfl rfl ?_
      refine o_pure (p_pick_false (v := .bool false) rfl rfl) rfl rfl rfl ?_
      exact o_sub (Sub.cons rfl (Sub.skip rfl (Sub.skip rfl (Sub.skip rfl (Sub.skip rfl (Sub.skip rfl (Sub.refl _))))))) hk
    refine o_pure (p_move (v := .bool ((((((Ref.sameInts (Deep.dist l) []) && ((Lru.trace l) == (Lru.trace l))) && (Ref.sameInts (Deep.hitsR l) [])) && ((Lru.trace l) == (Lru.trace l))) && (Ref.sameInts (Deep.misses l) [])) && ((Lru.trace l) == (Lru.trace l)))) rfl) rfl rfl rfl ?_
    refine o_and (p := 141) 4 ((Deep.room l percent) == 0) ?_ ?_ ?_
    · intro hb75 hk
      simp only [Bool.and_eq_true, beq_iff_eq] at hb75
      refine o_unguard 137 rfl rfl ?_
      refine o_pure (p_move (v := .int .i64 (Deep.room l percent)) rfl) rfl rfl rfl ?_
      refine o_unguard 137 rfl rfl ?_
      refine o_pure (p_move (v := .int .i64 0) rfl) rfl rfl rfl ?_
      refine o_unguard 137 rfl rfl ?_
      refine o_pure (p_eq (p := (Deep.room l percent)) (q := 0) rfl rfl) rfl rfl rfl ?_
      refine o_pure (p_pick_true (u := .bool ((Deep.room l percent) == 0)) rfl rfl) rfl rfl rfl ?_
      exact o_sub (Sub.cons rfl (Sub.skip rfl (Sub.skip rfl (Sub.skip rfl (Sub.skip rfl (Sub.skip rfl (Sub.refl _))))))) hk
    · intro hb75 hk
      refine o_guard_no rfl 137 rfl rfl rfl rfl rfl ?_
      refine o_guard_no rfl 137 rfl rfl rfl rfl rfl ?_
      refine o_guard_no rfl 137 rfl rfl rfl rfl rfl ?_
      refine o_pure (p_pick_false (v := .bool false) rfl rfl) rfl rfl rfl ?_
      exact o_sub (Sub.cons rfl (Sub.skip rfl (Sub.skip rfl (Sub.skip rfl (Sub.skip rfl (Sub.skip rfl (Sub.refl _))))))) hk
    refine o_pure (p_move (v := .bool (((((((Ref.sameInts (Deep.dist l) []) && ((Lru.trace l) == (Lru.trace l))) && (Ref.sameInts (Deep.hitsR l) [])) && ((Lru.trace l) == (Lru.trace l))) && (Ref.sameInts (Deep.misses l) [])) && ((Lru.trace l) == (Lru.trace l))) && ((Deep.room l percent) == 0))) rfl) rfl rfl rfl ?_
    refine o_and (p := 146) 4 ((Deep.roomErr l percent) == (Lru.trace l)) ?_ ?_ ?_
    · intro hb76 hk
      simp only [Bool.and_eq_true, beq_iff_eq] at hb76
      refine o_unguard 142 rfl rfl ?_
      refine o_pure (p_move (v := .int .i64 (Deep.roomErr l percent)) rfl) rfl rfl rfl ?_
      refine o_unguard 142 rfl rfl ?_
      refine o_pure (p_move (v := .int .i64 (Lru.trace l)) rfl) rfl rfl rfl ?_
      refine o_unguard 142 rfl rfl ?_
      refine o_pure (p_eq (p := (Deep.roomErr l percent)) (q := (Lru.trace l)) rfl rfl) rfl rfl rfl ?_
      refine o_pure (p_pick_true (u := .bool ((Deep.roomErr l percent) == (Lru.trace l))) rfl rfl) rfl rfl rfl ?_
      exact o_sub (Sub.cons rfl (Sub.skip rfl (Sub.skip rfl (Sub.skip rfl (Sub.skip rfl (Sub.skip rfl (Sub.refl _))))))) hk
    · intro hb76 hk
      refine o_guard_no rfl 142 rfl rfl rfl rfl rfl ?_
      refine o_guard_no rfl 142 rfl rfl rfl rfl rfl ?_
      refine o_guard_no rfl 142 rfl rfl rfl rfl rfl ?_
      refine o_pure (p_pick_false (v := .bool false) rfl rfl) rfl rfl rfl ?_
      exact o_sub (Sub.cons rfl (Sub.skip rfl (Sub.skip rfl (Sub.skip rfl (Sub.skip rfl (Sub.skip rfl (Sub.refl _))))))) hk
    refine o_pure (p_assign (v := .bool ((((((((Ref.sameInts (Deep.dist l) []) && ((Lru.trace l) == (Lru.trace l))) && (Ref.sameInts (Deep.hitsR l) [])) && ((Lru.trace l) == (Lru.trace l))) && (Ref.sameInts (Deep.misses l) [])) && ((Lru.trace l) == (Lru.trace l))) && ((Deep.room l percent) == 0)) && ((Deep.roomErr l percent) == (Lru.trace l)))) rfl) rfl rfl rfl ?_
    refine o_nil ?_
    refine q_then ?_
    refine c_ret ?_
    have hr0 : (((((((((Ref.sameInts (Deep.dist l) []) && ((Lru.trace l) == (Lru.trace l))) && (Ref.sameInts (Deep.hitsR l) [])) && ((Lru.trace l) == (Lru.trace l))) && (Ref.sameInts (Deep.misses l) [])) && ((Lru.trace l) == (Lru.trace l))) && ((Deep.room l percent) == 0)) && ((Deep.roomErr l percent) == (Lru.trace l))) : Bool) = true := by
      first | (have h9 : Lru.trace l ≠ 0 := (by assumption); obtain ⟨q1, q2, q3⟩ := Deep.spec_bad h9; obtain ⟨q4, q5⟩ := Deep.spec_bad2 percent h9; simp [q1, q2, q3, q4, q5, Ref.sameInts]; done) | (rw [← hdd, ← hs1, ← hs2, ← hs3]; simp [Ref.sameInts]; first | exact hs4 (by omega) | exact hs5 (by omega) (by omega) | exact (hs6 (by omega) (by omega)).trans ht.symm)
    refine q_end0 (v := .bool ((((((((Ref.sameInts (Deep.dist l) []) && ((Lru.trace l) == (Lru.trace l))) && (Ref.sameInts (Deep.hitsR l) [])) && ((Lru.trace l) == (Lru.trace l))) && (Ref.sameInts (Deep.misses l) [])) && ((Lru.trace l) == (Lru.trace l))) && ((Deep.room l percent) == 0)) && ((Deep.roomErr l percent) == (Lru.trace l)))) (rt1 rfl (r_tmp rfl)) (i := 3) rfl ?_
    exact (by have hcc := congrArg (fun (y0 : Bool) => (.bool y0 : Value)) hr0; exact hcc)
end Go.Proofs.Ytagbihjkdejdjaa
