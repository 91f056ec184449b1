/- The walks, printed by a program from the translation and a specification. -/
import Derived.Test.YtkndekkacimekaaTdF
import Derived.Test.YtkndekkacimekaaTdLaw
import Derived.Test.YtkndekkacimekaaTdW7
import Derived.Test.YtkndekkacimekaaTdW5
import Derived.Test.YtkndekkacimekaaTdW4
namespace Go.Proofs.Ytkndekkacimekaa
open Go.Sx Go.RowKit
set_option maxHeartbeats 8000000 in
set_option maxRecDepth 100000 in
theorem trun_ok (t : DTiers) (at_0 : Option Addr) (ct_0 : Nat) (at_1 : Option Addr) (ct_1 : Nat) (l : List Int) (al : Option Addr) (cl : Nat) : FnM Try.prog 44 [.agg #[.int .i64 t.near, .int .i64 t.far, .slice at_0 t.first.length ct_0, .slice at_1 t.rest.length ct_1], .slice al l.length cl] (fun w => Rd tInt w at_0 ct_0 t.first ∧ Rd tInt w at_1 ct_1 t.rest ∧ Rd tInt w al cl l) (Option Addr × Nat × Option Addr × Nat) (fun p => .tuple #[.agg #[.int .i64 (((Tier.run t l).1).near), .int .i64 (((Tier.run t l).1).far), .slice p.1 (((Tier.run t l).1).first).length p.2.1, .slice p.2.2.1 (((Tier.run t l).1).rest).length p.2.2.2], .int .i64 ((Tier.run t l).2.1), .int .i64 ((Tier.run t l).2.2), .int .i64 (Tier.runErr t l)]) (fun p S w => SlR tInt S w p.1 p.2.1 (((Tier.run t l).1).first) ∧ SlR tInt S w p.2.2.1 p.2.2.2 (((Tier.run t l).1).rest)) := by
  refine fnM (nt := 52) (F0 := [(0, .agg #[.int .i64 t.near, .int .i64 t.far, .slice at_0 t.first.length ct_0, .slice at_1 t.rest.length ct_1]), (1, .slice al l.length cl)]) Try.func44 rfl Try.ntmps44 rfl rfl (fun w0 hpre => ?_)
  obtain ⟨ht_0, ht_1, hl⟩ := hpre
  have hlht_0 := ht_0.2.1
  have hlht_1 := ht_1.2.1
  have hlhl := hl.2.1
  refine c_seq ?_
  refine c_region ?_
  refine o_box (v := .agg #[.int .i64 t.near, .int .i64 t.far, .slice at_0 t.first.length ct_0, .slice at_1 t.rest.length ct_1]) rfl rfl (fun B1 => ?_)
  refine o_alloc ze76 rfl (fun B2 => ?_)
  refine o_pure (p_assign (v := .int .i64 0) rfl) rfl rfl rfl ?_
  refine o_pure (p_assign (v := .int .i64 0) rfl) rfl rfl rfl ?_
  refine o_pure (p_assign (v := .int .i64 0) rfl) rfl rfl rfl ?_
  refine o_nil ?_
  refine q_then ?_
  refine c_seq ?_
  refine c_region ?_
  refine o_pure (p_load_agg (i := 1) (vs := [.int .i64 t.near, .int .i64 t.far, .slice at_0 t.first.length ct_0, .slice at_1 t.rest.length ct_1]) rfl rfl sh76 rfl rfl) rfl rfl rfl ?_
  refine o_call0 (v := .int .i64 (Tier.check t)) rfl (tcheck_ok t at_0 ct_0 at_1 ct_1) hf73 (fun w hw => ⟨(rd_base (i := 2) rfl ht_0) w hw, (rd_base (i := 2) rfl ht_1) w hw⟩) rfl ?_
  refine o_pure (p_assign (v := .int .i64 (Tier.check t)) rfl) rfl rfl rfl ?_
  refine o_nil ?_
  refine q_then ?_
  refine c_seq ?_
  refine c_seq ?_
  refine c_region ?_
  refine o_pure (p_move (v := .int .i64 (Tier.check t)) rfl) rfl rfl rfl ?_
  refine o_pure (p_eq (p := (Tier.check t)) (q := 0) rfl rfl) rfl rfl rfl ?_
  refine o_nil ?_
  refine q_then ?_
  refine c_cond (b := ((Tier.check t) == 0)) rfl (fun hc3 => ?_) (fun hc3 => ?_)
  · simp only [beq_iff_eq] at hc3
    have hck := hc3
    have hok := Tier.ok_of hck
    have hnr := hok.near
    have hfr := hok.far
    have hl1 := hok.len1
    have hl2 := hok.len2
    refine c_region ?_
    refine o_pure (p_move (v := .slice al l.length cl) rfl) rfl rfl rfl ?_
    refine o_call0 (v := .int .i64 (Lru.trace l)) rfl (checkTrace_ok l al cl) hf57 (fun w hw => (rd_base (i := 2) rfl hl) w hw) rfl ?_
    refine o_pure (p_assign (v := .int .i64 (Lru.trace l)) rfl) rfl rfl rfl ?_
    refine o_nil ?_
    refine q_then ?_
    refine c_seq ?_
    refine c_seq ?_
    refine c_region ?_
    refine o_pure (p_move (v := .int .i64 (Lru.trace l)) rfl) rfl rfl rfl ?_
    refine o_pure (p_ne (p := (Lru.trace l)) (q := 0) rfl rfl) rfl rfl rfl ?_
    refine o_nil ?_
    refine q_then ?_
    refine c_cond (b := ((Lru.trace l) != 0)) rfl (fun hc4 => ?_) (fun hc4 => ?_)
    · simp only [bne_iff_ne, ne_eq] at hc4
      refine c_seq ?_
      refine c_region ?_
      refine o_pure (p_build (cells := [.int .i64 0, .int .i64 0, .slice none 0 0, .slice none 0 0]) fp76 ze76 rfl rfl) rfl rfl rfl ?_
      refine o_pure (p_move (v := .int .i64 (Lru.trace l)) rfl) rfl rfl rfl ?_
      refine o_storeN (i := 0) (vs := [.int .i64 0, .int .i64 0, .slice none 0 0, .slice none 0 0]) (cs' := [.int .i64 0, .int .i64 0, .slice none 0 0, .slice none 0 0]) rfl rfl rfl sz76 rfl rfl rfl rfl ?_
      refine o_pure (p_assign (v := .int .i64 0) rfl) rfl rfl rfl ?_
      refine o_pure (p_assign (v := .int .i64 0) rfl) rfl rfl rfl ?_
      refine o_pure (p_assign (v := .int .i64 (Lru.trace l)) rfl) rfl rfl rfl ?_
      refine o_nil ?_
      refine q_then ?_
      refine c_ret ?_
      refine q_then_ret ?_
      obtain ⟨ha, hae⟩ : _ ∧ _ := by first | exact Tier.run1 (c := t) (l := l) (by assumption) | exact Tier.run2 (c := t) (l := l) (by assumption) (by assumption) | exact Tier.run3 (c := t) (l := l) (by assumption) (by assumption)
      have hr0 : (0 : Int) = ((Tier.run t l).1).near := by
        first | (simp only [ha, hae, Tier.zero]; done) | (simp only [ha, hdn]; done)
      have hr1 : (0 : Int) = ((Tier.run t l).1).far := by
        first | (simp only [ha, hae, Tier.zero]; done) | (simp only [ha, hdn]; done)
      have hr2 : ([] : List Int) = ((Tier.run t l).1).first := by
        first | (simp only [ha, hae, Tier.zero]; done) | (simp only [ha, hdn]; done)
      have hr3 : ([] : List Int) = ((Tier.run t l).1).rest := by
        first | (simp only [ha, hae, Tier.zero]; done) | (simp only [ha, hdn]; done)
      have hr4 : (0 : Int) = ((Tier.run t l).2.1) := by
        first | (simp only [ha, hae, Tier.zero]; done) | (simp only [ha, hdn]; done)
      have hr5 : (0 : Int) = ((Tier.run t l).2.2) := by
        first | (simp only [ha, hae, Tier.zero]; done) | (simp only [ha, hdn]; done)
      have hr6 : ((Lru.trace l) : Int) = (Tier.runErr t l) := by
        first | (simp only [ha, hae, Tier.zero]; done) | (simp only [ha, hdn]; done)
      refine q_endM (p := (none, 0, none, 0)) (fun _ => False) (rt4 rfl (r_cell (i := 0) rfl rfl sh76 rfl) (r_tmp rfl) (r_tmp rfl) (r_tmp rfl)) (i := 2) rfl ?_ ?_ ?_
      · exact (by have hcc := congr (congr (congr (congr (congr (congr (congrArg (fun (y0 : Int) (y1 : Int) (y2 : List Int) (y3 : List Int) (y4 : Int) (y5 : Int) (y6 : Int) => (.tuple #[.agg #[.int .i64 y0, .int .i64 y1, .slice none y2.length 0, .slice none y3.length 0], .int .i64 y4, .int .i64 y5, .int .i64 y6] : Value)) hr0) hr1) hr2) hr3) hr4) hr5) hr6; exact hcc)
      · intro w hw b hb; exact hb.elim
      · intro w hw; exact ⟨Eq.mp (congrArg (fun y => SlR tInt _ w none 0 y) hr2) (SlR.nil tInt _ w), Eq.mp (congrArg (fun y => SlR tInt _ w none 0 y) hr3) (SlR.nil tInt _ w)⟩
    · simp only [bne_eq_false_iff_eq] at hc4
      have htr := hc4
      have hkeys := (Lru.trace_ok.1 hc4).2
      refine c_skip ?_
      refine q_then ?_
      refine c_seq ?_
      refine c_region ?_
      refine o_pure (p_load_agg (i := 1) (vs := [.int .i64 t.near, .int .i64 t.far, .slice at_0 t.first.length ct_0, .slice at_1 t.rest.length ct_1]) rfl rfl sh76 rfl rfl) rfl rfl rfl ?_
      refine o_callX (pre := []) (R := [box B2 [.int .i64 0, .int .i64 0, .slice none 0 0, .slice none 0 0] 76, box B1 [.int .i64 t.near, .int .i64 t.far, .slice at_0 t.first.length ct_0, .slice at_1 t.rest.length ct_1] 76, base w0]) rfl (town_ok t at_0 ct_0 at_1 ct_1 (by omega)) hf74 rfl (fun w hw => ⟨(rdX (i := 2) (js := []) rfl (by decide) rfl (fun _ hA => slR_base ht_0 hA)) w hw, (rdX (i := 2) (js := []) rfl (by decide) rfl (fun _ hA => slR_base ht_1 hA)) w hw⟩) rfl ?_
      rintro ⟨B5, a6, c7, S8, a9, c10, S11⟩
      refine o_asH (H' := [box B5 [.int .i64 t.near, .int .i64 t.far, .slice a6 t.first.length c7, .slice a9 t.rest.length c10] 76, own tInt S8 a6 c7 t.first, own tInt S11 a9 c10 t.rest, box B2 [.int .i64 0, .int .i64 0, .slice none 0 0, .slice none 0 0] 76, box B1 [.int .i64 t.near, .int .i64 t.far, .slice at_0 t.first.length ct_0, .slice at_1 t.rest.length ct_1] 76, base w0]) rfl ?_
      refine o_pure (p_assign (v := .pointer (some ⟨B5, 0, none⟩)) rfl) rfl rfl rfl ?_
      refine o_nil ?_
      refine q_then ?_
      refine c_seq ?_
      refine c_region ?_
      refine o_alloc ze110 rfl (fun B14 => ?_)
      refine o_nil ?_
      refine q_then ?_
      refine c_seq ?_
      refine c_seq ?_
      refine c_region ?_
      refine o_pure (p_move (v := .slice al l.length cl) rfl) rfl rfl rfl ?_
      refine o_pure (p_len_slice (len := l.length) rfl rfl Try.underlying30) rfl rfl rfl ?_
      refine o_pure (p_move (v := .int .i64 0) rfl) rfl rfl rfl ?_
      refine o_nil ?_
      refine q_then ?_
      refine c_block ?_
      refine c_loop (St := Nat × Int × Int × Int × DTiers × Option Addr × Nat × (Nat → Prop) × Option Addr × Nat × (Nat → Prop))
        (fun ⟨k, m0, m1, m2, tt, att_0, ctt_0, Stt_0, att_1, ctt_1, Stt_1⟩ => [(4, .pointer (some ⟨B2, 0, none⟩)), (9, .pointer (some ⟨B5, 0, none⟩)), (10, .pointer (some ⟨B14, 0, none⟩)), (27, .slice al l.length cl), (28, .int .i64 (l.length : Int)), (29, .int .i64 (k : Int))])
        (fun ⟨k, m0, m1, m2, tt, att_0, ctt_0, Stt_0, att_1, ctt_1, Stt_1⟩ => [box B14 [.int .i64 m0, .int .i64 m1, .int .i64 m2] 110, box B5 [.int .i64 tt.near, .int .i64 tt.far, .slice att_0 tt.first.length ctt_0, .slice att_1 tt.rest.length ctt_1] 76, own tInt Stt_0 att_0 ctt_0 tt.first, own tInt Stt_1 att_1 ctt_1 tt.rest, box B2 [.int .i64 0, .int .i64 0, .slice none 0 0, .slice none 0 0] 76, box B1 [.int .i64 t.near, .int .i64 t.far, .slice at_0 t.first.length ct_0, .slice at_1 t.rest.length ct_1] 76, base w0])
        (fun ⟨k, m0, m1, m2, tt, att_0, ctt_0, Stt_0, att_1, ctt_1, Stt_1⟩ => Tier.RInv t tt l m1 m2 k ∧ 0 ≤ m0 ∧ m0 ≤ (k : Int) ∧ l.length ≤ 200)
        (fun ⟨k, m0, m1, m2, tt, att_0, ctt_0, Stt_0, att_1, ctt_1, Stt_1⟩ => l.length - k)
        (0, 0, 0, 0, t, a6, c7, S8, a9, c10, S11) ?_ (Sub.cons rfl (Sub.cons rfl (Sub.cons rfl (Sub.cons rfl (Sub.cons rfl (Sub.cons rfl (Sub.nil _))))))) (fun _ hw => hw) ?_
      · exact ⟨Tier.RInv.start hok hkeys, Int.le_refl _, Int.le_refl _, (Lru.trace_ok.1 htr).1⟩
      rintro ⟨k, m0, m1, m2, tt, att_0, ctt_0, Stt_0, att_1, ctt_1, Stt_1⟩ hI K hK15
      obtain ⟨hI, hm0, hm1, hl200⟩ := hI
      have hn0 := hI.n0
      have hm20 := hI.m0
      have hI := And.intro hI True.intro
      show SC _ _ Try.prog 52 w0 _ _ [(4, .pointer (some ⟨B2, 0, none⟩)), (9, .pointer (some ⟨B5, 0, none⟩)), (10, .pointer (some ⟨B14, 0, none⟩)), (27, .slice al l.length cl), (28, .int .i64 (l.length : Int)), (29, .int .i64 (k : Int))] [box B14 [.int .i64 m0, .int .i64 m1, .int .i64 m2] 110, box B5 [.int .i64 tt.near, .int .i64 tt.far, .slice att_0 tt.first.length ctt_0, .slice att_1 tt.rest.length ctt_1] 76, own tInt Stt_0 att_0 ctt_0 tt.first, own tInt Stt_1 att_1 ctt_1 tt.rest, box B2 [.int .i64 0, .int .i64 0, .slice none 0 0, .slice none 0 0] 76, box B1 [.int .i64 t.near, .int .i64 t.far, .slice at_0 t.first.length ct_0, .slice at_1 t.rest.length ct_1] 76, base w0]
      refine c_seq ?_
      refine c_region ?_
      refine o_pure (p_lt (p := (k : Int)) (q := (l.length : Int)) rfl rfl) rfl rfl rfl ?_
      refine o_nil ?_
      refine q_then ?_
      refine c_seq ?_
      refine c_cond (b := decide ((k : Int) < (l.length : Int))) rfl (fun hc16 => ?_) (fun hc16 => ?_)
      · simp only [decide_eq_true_eq] at hc16
        refine c_skip ?_
        refine q_then ?_
        refine c_seq ?_
        refine c_block ?_
        refine c_seq ?_
        refine c_region ?_
        refine o_pure (p_indexAddr (L := l) (T := tInt) (i := (k : Int)) rfl rfl (rd_base (i := 6) rfl hl) Try.underlying30 sz3 (by omega) (by omega)) rfl rfl rfl ?_
        refine o_pure (p_loadE1 (i := k) (T := tInt) (L := l) (v := .int .i64 (l[k])) rfl (rd_base (i := 6) rfl hl) (by first | assumption | omega) sh3 rfl) rfl rfl rfl ?_
        refine o_pure (p_assign (v := .int .i64 (l[k])) rfl) rfl rfl rfl ?_
        refine o_nil ?_
        refine q_then ?_
        refine c_seq ?_
        refine c_region ?_
        refine o_pure (p_move (v := .pointer (some ⟨B5, 0, none⟩)) rfl) rfl rfl rfl ?_
        refine o_pure (p_move (v := .int .i64 (l[k])) rfl) rfl rfl rfl ?_
        refine o_pick (H' := [box B5 [.int .i64 tt.near, .int .i64 tt.far, .slice att_0 tt.first.length ctt_0, .slice att_1 tt.rest.length ctt_1] 76, own tInt Stt_0 att_0 ctt_0 tt.first, own tInt Stt_1 att_1 ctt_1 tt.rest, box B14 [.int .i64 m0, .int .i64 m1, .int .i64 m2] 110, box B2 [.int .i64 0, .int .i64 0, .slice none 0 0, .slice none 0 0] 76, box B1 [.int .i64 t.near, .int .i64 t.far, .slice at_0 t.first.length ct_0, .slice at_1 t.rest.length ct_1] 76, base w0]) [1, 2, 3, 0, 4, 5, 6] (by decide) rfl ?_
        refine o_callX (pre := [box B5 [.int .i64 tt.near, .int .i64 tt.far, .slice att_0 tt.first.length ctt_0, .slice att_1 tt.rest.length ctt_1] 76, own tInt Stt_0 att_0 ctt_0 tt.first, own tInt Stt_1 att_1 ctt_1 tt.rest]) (R := [box B14 [.int .i64 m0, .int .i64 m1, .int .i64 m2] 110, box B2 [.int .i64 0, .int .i64 0, .slice none 0 0, .slice none 0 0] 76, box B1 [.int .i64 t.near, .int .i64 t.far, .slice at_0 t.first.length ct_0, .slice at_1 t.rest.length ct_1] 76, base w0]) rfl (ttouch_ok tt B5 att_0 ctt_0 Stt_0 att_1 ctt_1 Stt_1 (l[k]) (by first | assumption | exact hI.1.ok | exact hI.ok | omega)) hf75 rfl (fun _ _ => trivial) rfl ?_
        rintro ⟨a17, c18, S19, a20, c21, S22⟩
        refine o_asH (H' := [box B5 [.int .i64 (((Tier.touch tt (l[k])).1).near), .int .i64 (((Tier.touch tt (l[k])).1).far), .slice a17 (((Tier.touch tt (l[k])).1).first).length c18, .slice a20 (((Tier.touch tt (l[k])).1).rest).length c21] 76, own tInt S19 a17 c18 (((Tier.touch tt (l[k])).1).first), own tInt S22 a20 c21 (((Tier.touch tt (l[k])).1).rest), box B14 [.int .i64 m0, .int .i64 m1, .int .i64 m2] 110, box B2 [.int .i64 0, .int .i64 0, .slice none 0 0, .slice none 0 0] 76, box B1 [.int .i64 t.near, .int .i64 t.far, .slice at_0 t.first.length ct_0, .slice at_1 t.rest.length ct_1] 76, base w0]) rfl ?_
        refine o_pure (p_move (v := .tuple #[.int .i64 (Tier.place tt (l[k])), .int .i64 (Tier.gone tt (l[k]))]) rfl) rfl rfl rfl ?_
        refine o_pure (p_extract (vs := [.int .i64 (Tier.place tt (l[k])), .int .i64 (Tier.gone tt (l[k]))]) (v := .int .i64 (Tier.place tt (l[k]))) rfl rfl) rfl rfl rfl ?_
        refine o_pure (p_extract (vs := [.int .i64 (Tier.place tt (l[k])), .int .i64 (Tier.gone tt (l[k]))]) (v := .int .i64 (Tier.gone tt (l[k]))) rfl rfl) rfl rfl rfl ?_
        refine o_pure (p_assign (v := .int .i64 (Tier.place tt (l[k]))) rfl) rfl rfl rfl ?_
        refine o_pure (p_assign (v := .int .i64 (Tier.gone tt (l[k]))) rfl) rfl rfl rfl ?_
        refine o_nil ?_
        refine q_then ?_
        rcases (Tier.place_is tt l[k]) with e_ | e_ | e_
        · rw [e_]
          refine c_region ?_
          refine o_pure (p_move (v := .int .i64 0) rfl) rfl rfl rfl ?_
          refine o_pure (p_indexAddrA (B := B14) (j := 0) (j' := 0) (i := 0) rfl rfl Try.underlying110 sz3 (by decide) rfl) rfl rfl rfl ?_
          refine o_pure (p_load (i := 3) (v := .int .i64 m0) rfl rfl sh3 rfl) rfl rfl rfl ?_
          refine o_pure (p_addb (p := m0) (q := 1) rfl rfl (by omega)) rfl rfl rfl ?_
          refine o_pure (p_indexAddrA (B := B14) (j := 0) (j' := 0) (i := 0) rfl rfl Try.underlying110 sz3 (by decide) rfl) rfl rfl rfl ?_
          refine o_store (i := 3) (v := .int .i64 (m0 + 1)) (cs' := [.int .i64 (m0 + 1), .int .i64 m1, .int .i64 m2]) rfl rfl rfl sz3 rfl rfl rfl ?_
          refine o_nil ?_
          refine q_block_normal (q_then ?_)
          refine c_region ?_
          refine o_pure (p_addb (p := (k : Int)) (q := 1) rfl rfl (by omega)) rfl rfl rfl ?_
          refine o_pure (p_move (v := .int .i64 ((k : Int) + 1)) rfl) rfl rfl rfl ?_
          refine o_nil ?_
          refine q_round hK15 (k + 1, (m0 + 1), m1, m2, ((Tier.touch tt (l[k])).1), a17, c18, S19, a20, c21, S22) ?_ ?_ ?_ ?_
          · clear hK15
            first | exact ⟨hI.1.zero (by omega) e_, by omega, by omega, hl200⟩ | exact ⟨hI.1.one (by omega) e_, by omega, by omega, hl200⟩ | exact ⟨hI.1.two (by omega) e_, by omega, by omega, hl200⟩
          · (try dsimp only); omega
          · exact Sub.cons rfl (Sub.cons rfl (Sub.cons rfl (Sub.cons rfl (Sub.cons rfl (Sub.cons rfl (Sub.nil _))))))
          · exact fun _ hw => HeapIs.pick hw [3, 0, 1, 2, 4, 5, 6] (by decide) rfl
        · rw [e_]
          refine c_region ?_
          refine o_pure (p_move (v := .int .i64 1) rfl) rfl rfl rfl ?_
          refine o_pure (p_indexAddrA (B := B14) (j := 0) (j' := 1) (i := 1) rfl rfl Try.underlying110 sz3 (by decide) rfl) rfl rfl rfl ?_
          refine o_pure (p_load (i := 3) (v := .int .i64 m1) rfl rfl sh3 rfl) rfl rfl rfl ?_
          refine o_pure (p_addb (p := m1) (q := 1) rfl rfl (by omega)) rfl rfl rfl ?_
          refine o_pure (p_indexAddrA (B := B14) (j := 0) (j' := 1) (i := 1) rfl rfl Try.underlying110 sz3 (by decide) rfl) rfl rfl rfl ?_
          refine o_store (i := 3) (v := .int .i64 (m1 + 1)) (cs' := [.int .i64 m0, .int .i64 (m1 + 1), .int .i64 m2]) rfl rfl rfl sz3 rfl rfl rfl ?_
          refine o_nil ?_
          refine q_block_normal (q_then ?_)
          refine c_region ?_
          refine o_pure (p_addb (p := (k : Int)) (q := 1) rfl rfl (by omega)) rfl rfl rfl ?_
          refine o_pure (p_move (v := .int .i64 ((k : Int) + 1)) rfl) rfl rfl rfl ?_
          refine o_nil ?_
          refine q_round hK15 (k + 1, m0, (m1 + 1), m2, ((Tier.touch tt (l[k])).1), a17, c18, S19, a20, c21, S22) ?_ ?_ ?_ ?_
          · clear hK15
            first | exact ⟨hI.1.zero (by omega) e_, by omega, by omega, hl200⟩ | exact ⟨hI.1.one (by omega) e_, by omega, by omega, hl200⟩ | exact ⟨hI.1.two (by omega) e_, by omega, by omega, hl200⟩
          · (try dsimp only); omega
          · exact Sub.cons rfl (Sub.cons rfl (Sub.cons rfl (Sub.cons rfl (Sub.cons rfl (Sub.cons rfl (Sub.nil _))))))
          · exact fun _ hw => HeapIs.pick hw [3, 0, 1, 2, 4, 5, 6] (by decide) rfl
        · rw [e_]
          refine c_region ?_
          refine o_pure (p_move (v := .int .i64 2) rfl) rfl rfl rfl ?_
          refine o_pure (p_indexAddrA (B := B14) (j := 0) (j' := 2) (i := 2) rfl rfl Try.underlying110 sz3 (by decide) rfl) rfl rfl rfl ?_
          refine o_pure (p_load (i := 3) (v := .int .i64 m2) rfl rfl sh3 rfl) rfl rfl rfl ?_
          refine o_pure (p_addb (p := m2) (q := 1) rfl rfl (by omega)) rfl rfl rfl ?_
          refine o_pure (p_indexAddrA (B := B14) (j := 0) (j' := 2) (i := 2) rfl rfl Try.underlying110 sz3 (by decide) rfl) rfl rfl rfl ?_
          refine o_store (i := 3) (v := .int .i64 (m2 + 1)) (cs' := [.int .i64 m0, .int .i64 m1, .int .i64 (m2 + 1)]) rfl rfl rfl sz3 rfl rfl rfl ?_
          refine o_nil ?_
          refine q_block_normal (q_then ?_)
          refine c_region ?_
          refine o_pure (p_addb (p := (k : Int)) (q := 1) rfl rfl (by omega)) rfl rfl rfl ?_
          refine o_pure (p_move (v := .int .i64 ((k : Int) + 1)) rfl) rfl rfl rfl ?_
          refine o_nil ?_
          refine q_round hK15 (k + 1, m0, m1, (m2 + 1), ((Tier.touch tt (l[k])).1), a17, c18, S19, a20, c21, S22) ?_ ?_ ?_ ?_
          · clear hK15
            first | exact ⟨hI.1.zero (by omega) e_, by omega, by omega, hl200⟩ | exact ⟨hI.1.one (by omega) e_, by omega, by omega, hl200⟩ | exact ⟨hI.1.two (by omega) e_, by omega, by omega, hl200⟩
          · (try dsimp only); omega
          · exact Sub.cons rfl (Sub.cons rfl (Sub.cons rfl (Sub.cons rfl (Sub.cons rfl (Sub.cons rfl (Sub.nil _))))))
          · exact fun _ hw => HeapIs.pick hw [3, 0, 1, 2, 4, 5, 6] (by decide) rfl
      · simp only [decide_eq_false_iff_not, Int.not_lt] at hc16
        have hdn := hI.1.done (by omega)
        refine c_exit ?_
        refine q_then_exit (q_then_exit (q_block_exit (q_then ?_)))
        refine c_seq ?_
        refine c_held hmix [box B14 [.int .i64 m0, .int .i64 m1, .int .i64 m2] 110, box B5 [.int .i64 tt.near, .int .i64 tt.far, .slice att_0 tt.first.length ctt_0, .slice att_1 tt.rest.length ctt_1] 76, own tInt Stt_0 att_0 ctt_0 tt.first, own tInt Stt_1 att_1 ctt_1 tt.rest, box B1 [.int .i64 t.near, .int .i64 t.far, .slice at_0 t.first.length ct_0, .slice at_1 t.rest.length ct_1] 76, base w0] rfl rfl ?_
        refine h_take (i := 0) (ls := #[true, false, false, false, false, false, false, false, false, false, false]) rfl (by kernel_rfl) (by kernel_rfl) (by kernel_rfl) (fun _ _ _ h => h) (p_move (v := .pointer (some ⟨B5, 0, none⟩)) rfl) rfl rfl rfl (fun _ hw => HeapIs.drop hw (List.Sublist.cons_cons _ (List.Sublist.cons_cons _ (List.Sublist.cons_cons _ (List.Sublist.cons_cons _ (List.Sublist.cons _ (List.Sublist.cons_cons _ (List.Sublist.cons_cons _ (List.Sublist.slnil))))))))) rfl ?_
        refine h_take (i := 1) (ls := #[true, true, false, false, false, false, false, false, false, false, false]) rfl (by kernel_rfl) (by kernel_rfl) (by kernel_rfl) (fun _ _ _ h => h) (p_nilCheck rfl) rfl rfl rfl (fun _ hw => HeapIs.drop hw (List.Sublist.cons_cons _ (List.Sublist.cons_cons _ (List.Sublist.cons_cons _ (List.Sublist.cons_cons _ (List.Sublist.cons _ (List.Sublist.cons_cons _ (List.Sublist.cons_cons _ (List.Sublist.slnil))))))))) rfl ?_
        refine h_take (i := 2) (ls := #[true, true, true, false, false, false, false, false, false, false, false]) rfl (by kernel_rfl) (by kernel_rfl) (by kernel_rfl) (fun _ _ _ h => h) (p_load_agg (i := 1) (vs := [.int .i64 tt.near, .int .i64 tt.far, .slice att_0 tt.first.length ctt_0, .slice att_1 tt.rest.length ctt_1]) rfl rfl sh76 rfl rfl) rfl rfl rfl (fun _ hw => HeapIs.drop hw (List.Sublist.cons_cons _ (List.Sublist.cons_cons _ (List.Sublist.cons_cons _ (List.Sublist.cons_cons _ (List.Sublist.cons _ (List.Sublist.cons_cons _ (List.Sublist.cons_cons _ (List.Sublist.slnil))))))))) rfl ?_
        refine h_take (i := 3) (ls := #[true, true, true, true, false, false, false, false, false, false, false]) rfl (by kernel_rfl) (by kernel_rfl) (by kernel_rfl) (fun _ _ _ h => h) (p_indexAddrA (B := B14) (j := 0) (j' := 1) (i := 1) rfl rfl Try.underlying110 sz3 (by decide) rfl) rfl rfl rfl (fun _ hw => HeapIs.drop hw (List.Sublist.cons_cons _ (List.Sublist.cons_cons _ (List.Sublist.cons_cons _ (List.Sublist.cons_cons _ (List.Sublist.cons _ (List.Sublist.cons_cons _ (List.Sublist.cons_cons _ (List.Sublist.slnil))))))))) rfl ?_
        refine h_take (i := 4) (ls := #[true, true, true, true, true, false, false, false, false, false, false]) rfl (by kernel_rfl) (by kernel_rfl) (by kernel_rfl) (fun _ _ _ h => h) (p_load (i := 0) (v := .int .i64 m1) rfl rfl sh3 rfl) rfl rfl rfl (fun _ hw => HeapIs.drop hw (List.Sublist.cons_cons _ (List.Sublist.cons_cons _ (List.Sublist.cons_cons _ (List.Sublist.cons_cons _ (List.Sublist.cons _ (List.Sublist.cons_cons _ (List.Sublist.cons_cons _ (List.Sublist.slnil))))))))) rfl ?_
        refine h_take (i := 5) (ls := #[true, true, true, true, true, true, false, false, false, false, false]) rfl (by kernel_rfl) (by kernel_rfl) (by kernel_rfl) (fun _ _ _ h => h) (p_indexAddrA (B := B14) (j := 0) (j' := 2) (i := 2) rfl rfl Try.underlying110 sz3 (by decide) rfl) rfl rfl rfl (fun _ hw => HeapIs.drop hw (List.Sublist.cons_cons _ (List.Sublist.cons_cons _ (List.Sublist.cons_cons _ (List.Sublist.cons_cons _ (List.Sublist.cons _ (List.Sublist.cons_cons _ (List.Sublist.cons_cons _ (List.Sublist.slnil))))))))) rfl ?_
        refine h_take (i := 6) (ls := #[true, true, true, true, true, true, true, false, false, false, false]) rfl (by kernel_rfl) (by kernel_rfl) (by kernel_rfl) (fun _ _ _ h => h) (p_load (i := 0) (v := .int .i64 m2) rfl rfl sh3 rfl) rfl rfl rfl (fun _ hw => HeapIs.drop hw (List.Sublist.cons_cons _ (List.Sublist.cons_cons _ (List.Sublist.cons_cons _ (List.Sublist.cons_cons _ (List.Sublist.cons _ (List.Sublist.cons_cons _ (List.Sublist.cons_cons _ (List.Sublist.slnil))))))))) rfl ?_
        refine h_one (i := 7) (ls := #[true, true, true, true, true, true, true, true, false, false, false]) (by kernel_rfl) rfl rfl ?_
        refine o_storeN (i := 4) (vs := [.int .i64 tt.near, .int .i64 tt.far, .slice att_0 tt.first.length ctt_0, .slice att_1 tt.rest.length ctt_1]) (cs' := [.int .i64 tt.near, .int .i64 tt.far, .slice att_0 tt.first.length ctt_0, .slice att_1 tt.rest.length ctt_1]) rfl rfl rfl sz76 rfl rfl rfl rfl ?_
        refine o_nil ?_
        refine h_next (fun _ hw => HeapIs.drop hw (List.Sublist.cons_cons _ (List.Sublist.cons_cons _ (List.Sublist.cons_cons _ (List.Sublist.cons_cons _ (List.Sublist.cons _ (List.Sublist.cons_cons _ (List.Sublist.cons_cons _ (List.Sublist.slnil))))))))) ?_
        refine h_take (i := 8) (ls := #[true, true, true, true, true, true, true, true, true, false, false]) rfl (by kernel_rfl) (by kernel_rfl) (by kernel_rfl) (fun _ _ _ h => h) (p_assign (v := .int .i64 m1) rfl) rfl rfl rfl (fun _ hw => HeapIs.drop hw (List.Sublist.cons_cons _ (List.Sublist.cons_cons _ (List.Sublist.cons_cons _ (List.Sublist.cons_cons _ (List.Sublist.cons _ (List.Sublist.cons_cons _ (List.Sublist.cons_cons _ (List.Sublist.slnil))))))))) rfl ?_
        refine h_take (i := 9) (ls := #[true, true, true, true, true, true, true, true, true, true, false]) rfl (by kernel_rfl) (by kernel_rfl) (by kernel_rfl) (fun _ _ _ h => h) (p_assign (v := .int .i64 m2) rfl) rfl rfl rfl (fun _ hw => HeapIs.drop hw (List.Sublist.cons_cons _ (List.Sublist.cons_cons _ (List.Sublist.cons_cons _ (List.Sublist.cons_cons _ (List.Sublist.cons _ (List.Sublist.cons_cons _ (List.Sublist.cons_cons _ (List.Sublist.slnil))))))))) rfl ?_
        refine h_take (i := 10) (ls := #[true, true, true, true, true, true, true, true, true, true, true]) rfl (by kernel_rfl) (by kernel_rfl) (by kernel_rfl) (fun _ _ _ h => h) (p_assign (v := .int .i64 0) rfl) rfl rfl rfl (fun _ hw => HeapIs.drop hw (List.Sublist.cons_cons _ (List.Sublist.cons_cons _ (List.Sublist.cons_cons _ (List.Sublist.cons_cons _ (List.Sublist.cons _ (List.Sublist.cons_cons _ (List.Sublist.cons_cons _ (List.Sublist.slnil))))))))) rfl ?_
        refine h_done (by kernel_rfl) ?_
        refine q_then ?_
        refine c_ret ?_
        obtain ⟨ha, hae⟩ : _ ∧ _ := by first | exact Tier.run1 (c := t) (l := l) (by assumption) | exact Tier.run2 (c := t) (l := l) (by assumption) (by assumption) | exact Tier.run3 (c := t) (l := l) (by assumption) (by assumption)
        have hr0 : (tt.near : Int) = ((Tier.run t l).1).near := by
          first | (simp only [ha, hae, Tier.zero]; done) | (simp only [ha, hdn]; done)
        have hr1 : (tt.far : Int) = ((Tier.run t l).1).far := by
          first | (simp only [ha, hae, Tier.zero]; done) | (simp only [ha, hdn]; done)
        have hr2 : (tt.first : List Int) = ((Tier.run t l).1).first := by
          first | (simp only [ha, hae, Tier.zero]; done) | (simp only [ha, hdn]; done)
        have hr3 : (tt.rest : List Int) = ((Tier.run t l).1).rest := by
          first | (simp only [ha, hae, Tier.zero]; done) | (simp only [ha, hdn]; done)
        have hr4 : (m1 : Int) = ((Tier.run t l).2.1) := by
          first | (simp only [ha, hae, Tier.zero]; done) | (simp only [ha, hdn]; done)
        have hr5 : (m2 : Int) = ((Tier.run t l).2.2) := by
          first | (simp only [ha, hae, Tier.zero]; done) | (simp only [ha, hdn]; done)
        have hr6 : (0 : Int) = (Tier.runErr t l) := by
          first | (simp only [ha, hae, Tier.zero]; done) | (simp only [ha, hdn]; done)
        refine q_endM (p := (att_0, ctt_0, att_1, ctt_1)) (fun b => Stt_0 b ∨ Stt_1 b) (rt4 rfl (r_cell (i := 4) rfl rfl sh76 rfl) (r_tmp rfl) (r_tmp rfl) (r_tmp rfl)) (i := 6) rfl ?_ ?_ ?_
        · exact (by have hcc := congr (congr (congr (congr (congr (congr (congrArg (fun (y0 : Int) (y1 : Int) (y2 : List Int) (y3 : List Int) (y4 : Int) (y5 : Int) (y6 : Int) => (.tuple #[.agg #[.int .i64 y0, .int .i64 y1, .slice att_0 y2.length ctt_0, .slice att_1 y3.length ctt_1], .int .i64 y4, .int .i64 y5, .int .i64 y6] : Value)) hr0) hr1) hr2) hr3) hr4) hr5) hr6; exact hcc)
        · intro w hw b hb; rcases hb with hb | hb
          · exact hw.above (i := 6) (j := 2) (by decide) rfl rfl b hb
          · exact hw.above (i := 6) (j := 3) (by decide) rfl rfl b hb
        · intro w hw; exact ⟨Eq.mp (congrArg (fun y => SlR tInt _ w att_0 ctt_0 y) hr2) (SlR.mono (fun b hb => by simp [hb]) (SlO.toR (hw.at (i := 2) rfl).here)), Eq.mp (congrArg (fun y => SlR tInt _ w att_1 ctt_1 y) hr3) (SlR.mono (fun b hb => by simp [hb]) (SlO.toR (hw.at (i := 3) rfl).here))⟩
  · simp only [beq_eq_false_iff_ne, ne_eq] at hc3
    refine c_skip ?_
    refine q_then ?_
    refine c_seq ?_
    refine c_seq ?_
    refine c_region ?_
    refine o_pure (p_move (v := .int .i64 (Tier.check t)) rfl) rfl rfl rfl ?_
    refine o_pure (p_ne (p := (Tier.check t)) (q := 0) rfl rfl) rfl rfl rfl ?_
    refine o_nil ?_
    refine q_then ?_
    refine c_cond (b := ((Tier.check t) != 0)) rfl (fun hc26 => ?_) (fun hc26 => ?_)
    · simp only [bne_iff_ne, ne_eq] at hc26
      refine c_seq ?_
      refine c_region ?_
      refine o_pure (p_build (cells := [.int .i64 0, .int .i64 0, .slice none 0 0, .slice none 0 0]) fp76 ze76 rfl rfl) rfl rfl rfl ?_
      refine o_pure (p_move (v := .int .i64 (Tier.check t)) rfl) rfl rfl rfl ?_
      refine o_storeN (i := 0) (vs := [.int .i64 0, .int .i64 0, .slice none 0 0, .slice none 0 0]) (cs' := [.int .i64 0, .int .i64 0, .slice none 0 0, .slice none 0 0]) rfl rfl rfl sz76 rfl rfl rfl rfl ?_
      refine o_pure (p_assign (v := .int .i64 0) rfl) rfl rfl rfl ?_
      refine o_pure (p_assign (v := .int .i64 0) rfl) rfl rfl rfl ?_
      refine o_pure (p_assign (v := .int .i64 (Tier.check t)) rfl) rfl rfl rfl ?_
      refine o_nil ?_
      refine q_then ?_
      refine c_ret ?_
      refine q_then_ret ?_
      obtain ⟨ha, hae⟩ : _ ∧ _ := by first | exact Tier.run1 (c := t) (l := l) (by assumption) | exact Tier.run2 (c := t) (l := l) (by assumption) (by assumption) | exact Tier.run3 (c := t) (l := l) (by assumption) (by assumption)
      have hr0 : (0 : Int) = ((Tier.run t l).1).near := by
        first | (simp only [ha, hae, Tier.zero]; done) | (simp only [ha, hdn]; done)
      have hr1 : (0 : Int) = ((Tier.run t l).1).far := by
        first | (simp only [ha, hae, Tier.zero]; done) | (simp only [ha, hdn]; done)
      have hr2 : ([] : List Int) = ((Tier.run t l).1).first := by
        first | (simp only [ha, hae, Tier.zero]; done) | (simp only [ha, hdn]; done)
      have hr3 : ([] : List Int) = ((Tier.run t l).1).rest := by
        first | (simp only [ha, hae, Tier.zero]; done) | (simp only [ha, hdn]; done)
      have hr4 : (0 : Int) = ((Tier.run t l).2.1) := by
        first | (simp only [ha, hae, Tier.zero]; done) | (simp only [ha, hdn]; done)
      have hr5 : (0 : Int) = ((Tier.run t l).2.2) := by
        first | (simp only [ha, hae, Tier.zero]; done) | (simp only [ha, hdn]; done)
      have hr6 : ((Tier.check t) : Int) = (Tier.runErr t l) := by
        first | (simp only [ha, hae, Tier.zero]; done) | (simp only [ha, hdn]; done)
      refine q_endM (p := (none, 0, none, 0)) (fun _ => False) (rt4 rfl (r_cell (i := 0) rfl rfl sh76 rfl) (r_tmp rfl) (r_tmp rfl) (r_tmp rfl)) (i := 2) rfl ?_ ?_ ?_
      · exact (by have hcc := congr (congr (congr (congr (congr (congr (congrArg (fun (y0 : Int) (y1 : Int) (y2 : List Int) (y3 : List Int) (y4 : Int) (y5 : Int) (y6 : Int) => (.tuple #[.agg #[.int .i64 y0, .int .i64 y1, .slice none y2.length 0, .slice none y3.length 0], .int .i64 y4, .int .i64 y5, .int .i64 y6] : Value)) hr0) hr1) hr2) hr3) hr4) hr5) hr6; exact hcc)
      · intro w hw b hb; exact hb.elim
      · intro w hw; exact ⟨Eq.mp (congrArg (fun y => SlR tInt _ w none 0 y) hr2) (SlR.nil tInt _ w), Eq.mp (congrArg (fun y => SlR tInt _ w none 0 y) hr3) (SlR.nil tInt _ w)⟩
    · simp only [bne_eq_false_iff_eq] at hc26
      exfalso; first | contradiction | omega | simp_all
end Go.Proofs.Ytkndekkacimekaa
