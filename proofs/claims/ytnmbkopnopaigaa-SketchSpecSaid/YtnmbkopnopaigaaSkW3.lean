/- The walks, printed by a program from the translation and a specification. -/
import Derived.Test.YtnmbkopnopaigaaSkF
import Derived.Test.YtnmbkopnopaigaaSkLaw
import Derived.Test.YtnmbkopnopaigaaSkW2
namespace Go.Proofs.Ytnmbkopnopaigaa
open Go.Sx Go.RowKit
set_option maxHeartbeats 8000000 in
set_option maxRecDepth 100000 in
theorem sadd1_ok (row : Int) (i : Int) (n : Int) (Bkey : Nat) (key : ByteArray) (Bs : Nat) (s : DSketch) (as_0 : Option Addr) (cs_0 : NC) (Bmany : Nat) (many : Int) : Fn0 Try.prog 53 [Vi row, Vi i, Vi n, .pointer (some ⟨Bkey, 0, none⟩), .pointer (some ⟨Bs, 0, none⟩), .pointer (some ⟨Bmany, 0, none⟩)] (fun w => (box Bkey [.string key] 9).A w ∧ RdN tInt w as_0 cs_0 s.counts ∧ (box Bs [Vi s.wide, .slice as_0 s.counts.length cs_0.n] 24).A w ∧ (box Bmany [Vi many] 3).A w) (Vi (Sk.addF key s.wide many row i n)) := by
 refine fn0 (nt := 21) (F0 := [(0, Vi row), (1, Vi i), (2, Vi n), (3, .pointer (some ⟨Bkey, 0, none⟩)), (4, .pointer (some ⟨Bs, 0, none⟩)), (5, .pointer (some ⟨Bmany, 0, none⟩))]) Try.func53 rfl Try.ntmps53 rfl rfl (fun w0 hpre => ?_)
 obtain ⟨hBkey, hs_0, hBs, hBmany⟩ := hpre
 have hlhs_0 := hs_0.2.1
 refine c_seq (c_region ?_)
 refine o_as rfl rfl ?_
 refine o_nil (q_then (c_seq (c_seq (c_region ?_))))
 refine o_mv rfl rfl ?_
 refine o_p (p_loadR (v := .string key) rfl (rbox_base (i := 0) rfl hBkey) sh9 rfl) ?_
 refine o_mv rfl rfl ?_
 refine o_p (p_fieldAddr (j' := 0) rfl fo24_0 rfl) ?_
 refine o_p (p_loadR (v := Vi s.wide) rfl (rbox_base (i := 0) rfl hBs) sh3 rfl) ?_
 refine o_call0 (v := Vi (Sk.place key row s.wide)) rfl (sat_ok key row s.wide) hf54 (fun _ _ => trivial) rfl ?_
 refine o_p (p_eq rfl rfl) ?_
 refine o_nil (q_then ?_)
 refine c_cond rfl (fun hc1 => ?_) (fun hc1 => ?_)
 ·simp only [beq_iff_eq] at hc1
  refine c_region ?_
  refine o_mv rfl rfl ?_
  refine o_p (p_loadR (v := Vi many) rfl (rbox_base (i := 0) rfl hBmany) sh3 rfl) ?_
  refine o_p (p_add rfl rfl) ?_
  refine o_as rfl rfl ?_
  refine o_nil (q_then (c_seq (c_region ?_)))
  refine o_mv rfl rfl ?_
  refine o_as rfl rfl ?_
  refine o_nil (q_then (c_ret ?_))
  have hr0 : ((IntKind.i64.wrap (n + many)) : Int) = (Sk.addF key s.wide many row i n) := by
   first | exact (if_pos (by assumption)).symm | exact (if_neg (by assumption)).symm
  refine q_end0 (v := Vi (IntKind.i64.wrap (n + many))) (rt1 rfl (r_tmp rfl)) (i := 0) rfl ?_
  exact (by have hcc := congrArg (fun (y0 : Int) => (.int .i64 y0 : Value)) hr0; exact hcc)
 ·simp only [beq_eq_false_iff_ne, ne_eq] at hc1
  refine c_skip (q_then (c_seq (c_region ?_)))
  refine o_mv rfl rfl ?_
  refine o_as rfl rfl ?_
  refine o_nil (q_then (c_ret ?_))
  have hr0 : (n : Int) = (Sk.addF key s.wide many row i n) := by
   first | exact (if_pos (by assumption)).symm | exact (if_neg (by assumption)).symm
  refine q_end0 (v := Vi n) (rt1 rfl (r_tmp rfl)) (i := 0) rfl ?_
  exact (by have hcc := congrArg (fun (y0 : Int) => (.int .i64 y0 : Value)) hr0; exact hcc)

set_option maxHeartbeats 8000000 in
set_option maxRecDepth 100000 in
theorem sadd_ok (s : DSketch) (as_0 : Option Addr) (cs_0 : NC) (key : ByteArray) (many : Int) : FnM Try.prog 13 [.agg #[Vi s.wide, .slice as_0 s.counts.length cs_0.n], .string key, Vi many] (fun w => RdN tInt w as_0 cs_0 s.counts) (Option Addr × NC) (fun p => .tuple #[.agg #[Vi ((Sk.add s key many).wide), .slice p.1 ((Sk.add s key many).counts).length p.2.n], Vi (Sk.addErr s key many)]) (fun p S w => SlON tInt S w p.1 p.2 ((Sk.add s key many).counts)) := by
 refine fnM (nt := 38) (F0 := [(0, .agg #[Vi s.wide, .slice as_0 s.counts.length cs_0.n]), (1, .string key), (2, Vi many)]) Try.func13 rfl Try.ntmps13 rfl rfl (fun w0 hpre => ?_)
 have hs_0 := hpre
 have hlhs_0 := hs_0.2.1
 refine c_seq (c_region ?_)
 refine o_box (v := .agg #[Vi s.wide, .slice as_0 s.counts.length cs_0.n]) rfl rfl (fun B1 => ?_)
 refine o_box (v := .string key) rfl rfl (fun B2 => ?_)
 refine o_box (v := Vi many) rfl rfl (fun B3 => ?_)
 refine o_alloc ze24 rfl (fun B4 => ?_)
 refine o_as rfl rfl ?_
 refine o_nil (q_then (c_seq (c_region ?_)))
 refine o_p (p_load_agg (i := 3) (vs := [Vi s.wide, .slice as_0 s.counts.length cs_0.n]) rfl rfl sh24 rfl rfl) ?_
 refine o_p (p_load (i := 2) (v := .string key) rfl rfl sh9 rfl) ?_
 refine o_call0 (v := Vi (Sk.keyErr s key)) rfl (scheckK_ok s as_0 cs_0 key) hf51 (fun w hw => (rd_baseN (i := 4) rfl hs_0) w hw) rfl ?_
 refine o_as rfl rfl ?_
 refine o_nil (q_then (c_seq (c_seq (c_region ?_))))
 refine o_mv rfl rfl ?_
 refine o_p (p_eq rfl rfl) ?_
 refine o_mv rfl rfl ?_
 refine o_and (p := 23) 7 (decide (many < 1) || decide (1099511627776 < many)) ?_ ?_ ?_
 ·intro hb5 hk
  simp only [beq_iff_eq] at hb5
  refine o_unguard 16 rfl rfl ?_
  refine o_p (p_load (i := 1) (v := Vi many) rfl rfl sh3 rfl) ?_
  refine o_unguard 16 rfl rfl ?_
  refine o_p (p_lt rfl rfl) ?_
  refine o_unguard 16 rfl rfl ?_
  refine o_mv rfl rfl ?_
  refine o_or (p := 22) 3 (decide (1099511627776 < many)) ?_ ?_ ?_
  ·intro hb6 hk
   simp only [decide_eq_false_iff_not, Int.not_lt] at hb6
   refine o_unguard 19 rfl rfl ?_
   refine o_p (p_load (i := 1) (v := Vi many) rfl rfl sh3 rfl) ?_
   refine o_unguard 19 rfl rfl ?_
   refine o_p (p_gt rfl rfl) ?_
   refine o_unguard 16 rfl rfl ?_
   refine o_pf rfl rfl rfl ?_
   exact o_sub (sr (Sub.skip rfl (Sub.skip rfl (Sub.skip rfl (Sub.skip rfl (Sub.refl _)))))) hk
  ·intro hb6 hk
   refine o_guard_no rfl 19 rfl rfl rfl rfl rfl ?_
   refine o_guard_no rfl 19 rfl rfl rfl rfl rfl ?_
   refine o_unguard 16 rfl rfl ?_
   refine o_pt rfl rfl rfl ?_
   exact o_sub (sr (Sub.skip rfl (Sub.skip rfl (Sub.skip rfl (Sub.skip rfl (Sub.refl _)))))) hk
  refine o_pt rfl rfl rfl ?_
  exact o_sub (sr (Sub.skip rfl (Sub.skip rfl (Sub.skip rfl (Sub.skip rfl (Sub.skip rfl (Sub.refl _))))))) hk
 ·intro hb5 hk
  refine o_guard_no rfl 16 rfl rfl rfl rfl rfl ?_
  refine o_guard_no rfl 16 rfl rfl rfl rfl rfl ?_
  refine o_guard_no rfl 16 rfl rfl rfl rfl rfl ?_
  refine o_guard_no rfl 19 rfl rfl rfl rfl rfl ?_
  refine o_guard_no rfl 19 rfl rfl rfl rfl rfl ?_
  refine o_guard_no rfl 16 rfl rfl rfl rfl rfl ?_
  refine o_pf rfl rfl rfl ?_
  exact o_sub (sr (Sub.skip rfl (Sub.skip rfl (Sub.skip rfl (Sub.skip rfl (Sub.skip rfl (Sub.skip rfl (Sub.skip rfl (Sub.skip rfl (Sub.refl _)))))))))) hk
 refine o_nil (q_then ?_)
 refine c_cond rfl (fun hc7 => ?_) (fun hc7 => ?_)
 ·simp only [Bool.and_eq_true, beq_iff_eq, Bool.or_eq_true, decide_eq_true_eq] at hc7
  have hbad := hc7
  refine c_region ?_
  refine o_as rfl rfl ?_
  refine o_nil (q_then (c_seq (c_seq (c_region ?_))))
  refine o_mv rfl rfl ?_
  refine o_p (p_ne rfl rfl) ?_
  refine o_nil (q_then ?_)
  refine c_true rfl ?_
  refine c_seq (c_region ?_)
  refine o_p (p_build (cells := [Vi 0, .slice none 0 0]) fp24 ze24 rfl rfl) ?_
  refine o_mv rfl rfl ?_
  refine o_storeN (i := 0) (vs := [Vi 0, .slice none 0 0]) (cs' := [Vi 0, .slice none 0 0]) rfl rfl rfl sz24 rfl rfl rfl rfl ?_
  refine o_as rfl rfl ?_
  refine o_nil (q_then (c_ret ?_))
  refine q_then_ret ?_
  obtain ⟨c1, c2⟩ : _ ∧ _ := by first | exact Sk.ad1 (s := s) (key := key) (many := many) hke | exact Sk.ad2 (s := s) (key := key) (many := many) hbad | exact Sk.ad3 (s := s) (key := key) (many := many) hke (by omega) (by assumption) | exact Sk.ad4 (s := s) (key := key) (many := many) hke (by omega) (by assumption)
  have hr0 : (0 : Int) = (Sk.add s key many).wide := by
   first | (rw [c1]; done) | (rw [c1]; rfl) | exact c2.symm
  have hr1 : ([] : List (List Int)) = (Sk.add s key many).counts := by
   first | (rw [c1]; done) | (rw [c1]; rfl) | exact c2.symm
  have hr2 : (3 : Int) = (Sk.addErr s key many) := by
   first | (rw [c1]; done) | (rw [c1]; rfl) | exact c2.symm
  refine q_endM (p := (none, nc0)) (fun _ => False) (rt2 rfl (r_cell (i := 0) rfl rfl sh24 rfl) (r_tmp rfl)) (i := 4) rfl ?_ ?_ ?_
  ·exact (by have hcc := congr (congr (congrArg (fun (y0 : Int) (y1 : List (List Int)) (y2 : Int) => (.tuple #[.agg #[.int .i64 y0, .slice none y1.length 0], .int .i64 y2] : Value)) hr0) hr1) hr2; exact hcc)
  ·intro w hw b hb; exact hb.elim
  ·intro w hw; exact Eq.mp (congrArg (fun y => SlON tInt _ w none nc0 y) hr1) (SlON.nil tInt w)
 ·simp only [Bool.and_eq_false_iff, beq_eq_false_iff_ne, ne_eq, Bool.or_eq_false_iff, decide_eq_false_iff_not, Int.not_lt] at hc7
  have hgood := hc7
  refine c_skip (q_then (c_seq (c_seq (c_region ?_))))
  refine o_mv rfl rfl ?_
  refine o_p (p_ne rfl rfl) ?_
  refine o_nil (q_then ?_)
  refine c_cond rfl (fun hc8 => ?_) (fun hc8 => ?_)
  ·simp only [bne_iff_ne, ne_eq] at hc8
   have hke := hc8
   refine c_seq (c_region ?_)
   refine o_p (p_build (cells := [Vi 0, .slice none 0 0]) fp24 ze24 rfl rfl) ?_
   refine o_mv rfl rfl ?_
   refine o_storeN (i := 0) (vs := [Vi 0, .slice none 0 0]) (cs' := [Vi 0, .slice none 0 0]) rfl rfl rfl sz24 rfl rfl rfl rfl ?_
   refine o_as rfl rfl ?_
   refine o_nil (q_then (c_ret ?_))
   refine q_then_ret ?_
   obtain ⟨c1, c2⟩ : _ ∧ _ := by first | exact Sk.ad1 (s := s) (key := key) (many := many) hke | exact Sk.ad2 (s := s) (key := key) (many := many) hbad | exact Sk.ad3 (s := s) (key := key) (many := many) hke (by omega) (by assumption) | exact Sk.ad4 (s := s) (key := key) (many := many) hke (by omega) (by assumption)
   have hr0 : (0 : Int) = (Sk.add s key many).wide := by
    first | (rw [c1]; done) | (rw [c1]; rfl) | exact c2.symm
   have hr1 : ([] : List (List Int)) = (Sk.add s key many).counts := by
    first | (rw [c1]; done) | (rw [c1]; rfl) | exact c2.symm
   have hr2 : ((Sk.keyErr s key) : Int) = (Sk.addErr s key many) := by
    first | (rw [c1]; done) | (rw [c1]; rfl) | exact c2.symm
   refine q_endM (p := (none, nc0)) (fun _ => False) (rt2 rfl (r_cell (i := 0) rfl rfl sh24 rfl) (r_tmp rfl)) (i := 4) rfl ?_ ?_ ?_
   ·exact (by have hcc := congr (congr (congrArg (fun (y0 : Int) (y1 : List (List Int)) (y2 : Int) => (.tuple #[.agg #[.int .i64 y0, .slice none y1.length 0], .int .i64 y2] : Value)) hr0) hr1) hr2; exact hcc)
   ·intro w hw b hb; exact hb.elim
   ·intro w hw; exact Eq.mp (congrArg (fun y => SlON tInt _ w none nc0 y) hr1) (SlON.nil tInt w)
  ·simp only [bne_eq_false_iff_eq] at hc8
   have hke := hc8
   have hko := Sk.key_ok hc8
   have hok := hko.1
   have hw1 := hok.w1
   have hw2 := hok.w2
   have hps := hok.pos
   have hfw := hok.few
   refine c_skip (q_then (c_seq (c_region ?_)))
   refine o_p (p_load_agg (i := 3) (vs := [Vi s.wide, .slice as_0 s.counts.length cs_0.n]) rfl rfl sh24 rfl rfl) ?_
   refine o_p (p_makeFunc (vs := [.pointer (some ⟨B2, 0, none⟩), .pointer (some ⟨B1, 0, none⟩), .pointer (some ⟨B3, 0, none⟩)]) rfl) ?_
   refine o_callM rfl (smapped_ok s as_0 cs_0 53 [.pointer (some ⟨B2, 0, none⟩), .pointer (some ⟨B1, 0, none⟩), .pointer (some ⟨B3, 0, none⟩)] (fun x y z => (Sk.addF key s.wide many x y z)) (fun w => (box B2 [.string key] 9).A w ∧ RdN tInt w as_0 cs_0 s.counts ∧ (box B1 [Vi s.wide, .slice as_0 s.counts.length cs_0.n] 24).A w ∧ (box B3 [Vi many] 3).A w) (fun _ _ hb h => ⟨box_below hb h.1, RdN.below h.2.1 hb.block hb.size, box_below hb h.2.2.1, box_below hb h.2.2.2⟩) (fun x y z hdom => sadd1_ok x y z B2 key B1 s as_0 cs_0 B3 many) hf53 (by first | assumption | exact hok.toForm | exact hoa.toForm)) hf52 (fun w hw => ⟨(rd_baseN (i := 4) rfl hs_0) w hw, ⟨(hw.at (i := 2) rfl).here, (rd_baseN (i := 4) rfl hs_0) w hw, (hw.at (i := 3) rfl).here, (hw.at (i := 1) rfl).here⟩⟩) rfl (fun _ _ _ _ ha hA => SlON.agree ha hA) ?_
   rintro ⟨a11, c12⟩ S9
   refine o_know (fun w hw => own_lenN (i := 0) (T := tInt) hw rfl) (fun hlr13 => ?_)
   refine o_mv rfl rfl ?_
   refine o_ex rfl rfl rfl ?_
   refine o_ex rfl rfl rfl ?_
   refine o_alloc ze24 rfl (fun B14 => ?_)
   refine o_storeN (i := 0) (vs := [Vi ((Sk.mapS (fun (x : Int) (y : Int) (z : Int) => (Sk.addF key s.wide many x y z)) s).wide), .slice a11 ((Sk.mapS (fun (x : Int) (y : Int) (z : Int) => (Sk.addF key s.wide many x y z)) s).counts).length c12.n]) (cs' := [Vi ((Sk.mapS (fun (x : Int) (y : Int) (z : Int) => (Sk.addF key s.wide many x y z)) s).wide), .slice a11 ((Sk.mapS (fun (x : Int) (y : Int) (z : Int) => (Sk.addF key s.wide many x y z)) s).counts).length c12.n]) rfl rfl rfl sz24 rfl rfl rfl rfl ?_
   refine o_as rfl rfl ?_
   refine o_nil (q_then (c_seq (c_seq (c_region ?_))))
   refine o_mv rfl rfl ?_
   refine o_p (p_not (b := (Sk.mapOk (fun (x : Int) (y : Int) (z : Int) => (Sk.addF key s.wide many x y z)) s)) rfl) ?_
   refine o_nil (q_then ?_)
   refine c_cond rfl (fun hc15 => ?_) (fun hc15 => ?_)
   ·simp only [Bool.not_eq_true'] at hc15
    refine c_seq (c_region ?_)
    refine o_p (p_build (cells := [Vi 0, .slice none 0 0]) fp24 ze24 rfl rfl) ?_
    refine o_storeN (i := 2) (vs := [Vi 0, .slice none 0 0]) (cs' := [Vi 0, .slice none 0 0]) rfl rfl rfl sz24 rfl rfl rfl rfl ?_
    refine o_as rfl rfl ?_
    refine o_nil (q_then (c_ret ?_))
    refine q_then_ret ?_
    obtain ⟨c1, c2⟩ : _ ∧ _ := by first | exact Sk.ad1 (s := s) (key := key) (many := many) hke | exact Sk.ad2 (s := s) (key := key) (many := many) hbad | exact Sk.ad3 (s := s) (key := key) (many := many) hke (by omega) (by assumption) | exact Sk.ad4 (s := s) (key := key) (many := many) hke (by omega) (by assumption)
    have hr0 : (0 : Int) = (Sk.add s key many).wide := by
     first | (rw [c1]; done) | (rw [c1]; rfl) | exact c2.symm
    have hr1 : ([] : List (List Int)) = (Sk.add s key many).counts := by
     first | (rw [c1]; done) | (rw [c1]; rfl) | exact c2.symm
    have hr2 : (8 : Int) = (Sk.addErr s key many) := by
     first | (rw [c1]; done) | (rw [c1]; rfl) | exact c2.symm
    refine q_endM (p := (none, nc0)) (fun _ => False) (rt2 rfl (r_cell (i := 2) rfl rfl sh24 rfl) (r_tmp rfl)) (i := 6) rfl ?_ ?_ ?_
    ·exact (by have hcc := congr (congr (congrArg (fun (y0 : Int) (y1 : List (List Int)) (y2 : Int) => (.tuple #[.agg #[.int .i64 y0, .slice none y1.length 0], .int .i64 y2] : Value)) hr0) hr1) hr2; exact hcc)
    ·intro w hw b hb; exact hb.elim
    ·intro w hw; exact Eq.mp (congrArg (fun y => SlON tInt _ w none nc0 y) hr1) (SlON.nil tInt w)
   ·simp only [Bool.not_eq_false'] at hc15
    refine c_skip (q_then (c_seq (c_region ?_)))
    refine o_p (p_load_agg (i := 0) (vs := [Vi ((Sk.mapS (fun (x : Int) (y : Int) (z : Int) => (Sk.addF key s.wide many x y z)) s).wide), .slice a11 ((Sk.mapS (fun (x : Int) (y : Int) (z : Int) => (Sk.addF key s.wide many x y z)) s).counts).length c12.n]) rfl rfl sh24 rfl rfl) ?_
    refine o_storeN (i := 2) (vs := [Vi ((Sk.mapS (fun (x : Int) (y : Int) (z : Int) => (Sk.addF key s.wide many x y z)) s).wide), .slice a11 ((Sk.mapS (fun (x : Int) (y : Int) (z : Int) => (Sk.addF key s.wide many x y z)) s).counts).length c12.n]) (cs' := [Vi ((Sk.mapS (fun (x : Int) (y : Int) (z : Int) => (Sk.addF key s.wide many x y z)) s).wide), .slice a11 ((Sk.mapS (fun (x : Int) (y : Int) (z : Int) => (Sk.addF key s.wide many x y z)) s).counts).length c12.n]) rfl rfl rfl sz24 rfl rfl rfl rfl ?_
    refine o_as rfl rfl ?_
    refine o_nil (q_then (c_ret ?_))
    obtain ⟨c1, c2⟩ : _ ∧ _ := by first | exact Sk.ad1 (s := s) (key := key) (many := many) hke | exact Sk.ad2 (s := s) (key := key) (many := many) hbad | exact Sk.ad3 (s := s) (key := key) (many := many) hke (by omega) (by assumption) | exact Sk.ad4 (s := s) (key := key) (many := many) hke (by omega) (by assumption)
    have hr0 : ((Sk.mapS (fun (x : Int) (y : Int) (z : Int) => (Sk.addF key s.wide many x y z)) s).wide : Int) = (Sk.add s key many).wide := by
     first | (rw [c1]; done) | (rw [c1]; rfl) | exact c2.symm
    have hr1 : ((Sk.mapS (fun (x : Int) (y : Int) (z : Int) => (Sk.addF key s.wide many x y z)) s).counts : List (List Int)) = (Sk.add s key many).counts := by
     first | (rw [c1]; done) | (rw [c1]; rfl) | exact c2.symm
    have hr2 : (0 : Int) = (Sk.addErr s key many) := by
     first | (rw [c1]; done) | (rw [c1]; rfl) | exact c2.symm
    refine q_endM (p := (a11, c12)) S9 (rt2 rfl (r_cell (i := 2) rfl rfl sh24 rfl) (r_tmp rfl)) (i := 6) rfl ?_ ?_ ?_
    ·exact (by have hcc := congr (congr (congrArg (fun (y0 : Int) (y1 : List (List Int)) (y2 : Int) => (.tuple #[.agg #[.int .i64 y0, .slice a11 y1.length c12.n], .int .i64 y2] : Value)) hr0) hr1) hr2; exact hcc)
    ·exact fun w hw => hw.above (i := 6) (j := 1) (by decide) rfl rfl
    ·intro w hw; exact Eq.mp (congrArg (fun y => SlON tInt _ w a11 c12 y) hr1) ((hw.at (i := 1) rfl).here)

set_option maxHeartbeats 8000000 in
set_option maxRecDepth 100000 in
theorem sest_ok (s : DSketch) (as_0 : Option Addr) (cs_0 : NC) (key : ByteArray) : Fn0 Try.prog 14 [.agg #[Vi s.wide, .slice as_0 s.counts.length cs_0.n], .string key] (fun w => RdN tInt w as_0 cs_0 s.counts) (.tuple #[Vi (Sk.est s key), Vi (Sk.keyErr s key)]) := by
 refine fn0 (nt := 46) (F0 := [(0, .agg #[Vi s.wide, .slice as_0 s.counts.length cs_0.n]), (1, .string key)]) Try.func14 rfl Try.ntmps14 rfl rfl (fun w0 hpre => ?_)
 have hs_0 := hpre
 have hlhs_0 := hs_0.2.1
 refine c_seq (c_region ?_)
 refine o_box (v := .agg #[Vi s.wide, .slice as_0 s.counts.length cs_0.n]) rfl rfl (fun B1 => ?_)
 refine o_as rfl rfl ?_
 refine o_as rfl rfl ?_
 refine o_nil (q_then (c_seq (c_seq (c_region ?_))))
 refine o_p (p_load_agg (i := 0) (vs := [Vi s.wide, .slice as_0 s.counts.length cs_0.n]) rfl rfl sh24 rfl rfl) ?_
 refine o_mv rfl rfl ?_
 refine o_call0 (v := Vi (Sk.keyErr s key)) rfl (scheckK_ok s as_0 cs_0 key) hf51 (fun w hw => (rd_baseN (i := 1) rfl hs_0) w hw) rfl ?_
 refine o_as rfl rfl ?_
 refine o_nil (q_then (c_seq (c_region ?_)))
 refine o_mv rfl rfl ?_
 refine o_p (p_ne rfl rfl) ?_
 refine o_nil (q_then ?_)
 refine c_cond rfl (fun hc2 => ?_) (fun hc2 => ?_)
 ·simp only [bne_iff_ne, ne_eq] at hc2
  refine c_seq (c_region ?_)
  refine o_mv rfl rfl ?_
  refine o_as rfl rfl ?_
  refine o_as rfl rfl ?_
  refine o_nil (q_then (c_ret ?_))
  refine q_then_ret ?_
  have hr0 : (0 : Int) = (Sk.est s key) := by
   first | exact (if_neg (by assumption)).symm | (have hle := hI.1; rw [hI.2, show k = s.counts.length by omega]; exact (if_pos hke).symm) | exact hke.symm | rfl
  refine q_end0 (v := .tuple #[Vi 0, Vi (Sk.keyErr s key)]) (rt2 rfl (r_tmp rfl) (r_tmp rfl)) (i := 1) rfl ?_
  exact (by have hcc := congrArg (fun (y0 : Int) => (.tuple #[.int .i64 y0, Vi (Sk.keyErr s key)] : Value)) hr0; exact hcc)
 ·simp only [bne_eq_false_iff_eq] at hc2
  have hke := hc2
  have hko := Sk.key_ok hc2
  have hok := hko.1
  have hw1 := hok.w1
  have hw2 := hok.w2
  have hps := hok.pos
  have hfw := hok.few
  have hp0 := Sk.place_bd key 0 (wide := s.wide) ⟨hw1, hw2⟩
  have hr0 := hok.row_len (show 0 < s.counts.length by omega)
  refine c_skip (q_then (c_seq ?_))
  refine c_draw hmix (by kernel_rfl) ?_
  refine w_p (p_fieldAddr (j' := 1) rfl fo24_1 rfl) ?_
  refine w_p (p_load (i := 0) (v := .slice as_0 s.counts.length cs_0.n) rfl rfl sh22 rfl) ?_
  refine w_p (p_indexAddrN (T := tInt) (c := cs_0) (LL := s.counts) (i := 0) rfl rfl (rd_baseN (i := 1) rfl hs_0) Try.underlying22 sz37 (by first | omega | decide) (by first | omega | decide)) ?_
  refine w_p (p_loadN (T := tInt) (c := cs_0) (LL := s.counts) (i := 0) rfl (rd_baseN (i := 1) rfl hs_0) (by first | assumption | omega | decide) sh37) ?_
  refine w_mv rfl rfl ?_
  refine w_p (p_fieldAddr (j' := 0) rfl fo24_0 rfl) ?_
  refine w_p (p_load (i := 0) (v := Vi s.wide) rfl rfl sh3 rfl) ?_
  refine w_call0 (v := Vi (Sk.place key (0 : Int) s.wide)) rfl (sat_ok key (0 : Int) s.wide) hf54 (fun _ _ => trivial) rfl ?_
  refine w_p (p_indexAddr (L := (s.counts.getD 0 [])) (T := tInt) (i := (Sk.place key (0 : Int) s.wide)) rfl rfl (rd_rowN (i := 0) (rd_baseN (i := 1) rfl hs_0) (by first | assumption | omega)) Try.underlying37 sz3 (by omega) (by omega)) ?_
  refine w_p (p_loadE1 (i := (Sk.place key (0 : Int) s.wide).toNat) (T := tInt) (L := (s.counts.getD 0 [])) (v := Vi ((s.counts.getD 0 []).getD ((Sk.place key (0 : Int) s.wide).toNat) default)) rfl (rd_rowN (i := 0) (rd_baseN (i := 1) rfl hs_0) (by first | assumption | omega)) (by first | assumption | omega) sh3 (congrArg tInt.enc (getd_at (by first | assumption | omega) default))) ?_
  refine w_p (p_assign rfl) ?_
  refine w_nil (q_then (c_seq (c_seq (c_region ?_))))
  refine o_p (p_fieldAddr (j' := 1) rfl fo24_1 rfl) ?_
  refine o_p (p_load (i := 0) (v := .slice as_0 s.counts.length cs_0.n) rfl rfl sh22 rfl) ?_
  refine o_p (p_len_slice rfl rfl Try.underlying22) ?_
  refine o_mv rfl rfl ?_
  refine o_nil (q_then (c_block ?_))
  refine c_loop (St := Int × Nat)
   (fun ⟨least, k⟩ => [(1, .string key), (2, .pointer (some ⟨B1, 0, none⟩)), (7, Vi least), (27, .slice as_0 s.counts.length cs_0.n), (28, Vi (s.counts.length : Int)), (29, Vi (k : Int))])
   (fun ⟨least, k⟩ => [box B1 [Vi s.wide, .slice as_0 s.counts.length cs_0.n] 24, base w0])
   (fun ⟨least, k⟩ => k ≤ s.counts.length ∧ least = Sk.leastTo s key k)
   (fun ⟨least, k⟩ => s.counts.length - k)
   (((s.counts.getD 0 []).getD ((Sk.place key (0 : Int) s.wide).toNat) default), 0) ?_ (sr (sr (sr (sr (sr (sr (Sub.nil _))))))) (fun _ hw => hw) ?_
  ·exact ⟨Nat.zero_le _, rfl⟩
  rintro ⟨least, k⟩ hI K hK3
  show SC _ _ Try.prog 46 w0 _ _ [(1, .string key), (2, .pointer (some ⟨B1, 0, none⟩)), (7, Vi least), (27, .slice as_0 s.counts.length cs_0.n), (28, Vi (s.counts.length : Int)), (29, Vi (k : Int))] [box B1 [Vi s.wide, .slice as_0 s.counts.length cs_0.n] 24, base w0]
  refine c_seq (c_region ?_)
  refine o_p (p_lt rfl rfl) ?_
  refine o_nil (q_then (c_seq ?_))
  refine c_cond rfl (fun hc4 => ?_) (fun hc4 => ?_)
  ·simp only [decide_eq_true_eq] at hc4
   have hpk := Sk.place_bd key (k : Int) (wide := s.wide) ⟨hw1, hw2⟩
   have hrk := hok.row_len (show k < s.counts.length by omega)
   refine c_skip (q_then (c_seq (c_block (c_seq (c_region ?_)))))
   refine o_mv rfl rfl ?_
   refine o_p (p_indexAddrN (T := tInt) (c := cs_0) (LL := s.counts) (i := (k : Int)) rfl rfl (rd_baseN (i := 1) rfl hs_0) Try.underlying22 sz37 (by first | omega | decide) (by first | omega | decide)) ?_
   refine o_p (p_loadN (T := tInt) (c := cs_0) (LL := s.counts) (i := k) rfl (rd_baseN (i := 1) rfl hs_0) (by first | assumption | omega | decide) sh37) ?_
   refine o_as rfl rfl ?_
   refine o_as rfl rfl ?_
   refine o_nil (q_then (c_region ?_))
   refine o_mv rfl rfl ?_
   refine o_mv rfl rfl ?_
   refine o_mv rfl rfl ?_
   refine o_mv rfl rfl ?_
   refine o_p (p_fieldAddr (j' := 0) rfl fo24_0 rfl) ?_
   refine o_p (p_load (i := 0) (v := Vi s.wide) rfl rfl sh3 rfl) ?_
   refine o_call0 (v := Vi (Sk.place key (k : Int) s.wide)) rfl (sat_ok key (k : Int) s.wide) hf54 (fun _ _ => trivial) rfl ?_
   refine o_p (p_indexAddr (L := (s.counts.getD k [])) (T := tInt) (i := (Sk.place key (k : Int) s.wide)) rfl rfl (rd_rowN (i := k) (rd_baseN (i := 1) rfl hs_0) (by first | assumption | omega)) Try.underlying37 sz3 (by omega) (by omega)) ?_
   refine o_p (p_loadE1 (i := (Sk.place key (k : Int) s.wide).toNat) (T := tInt) (L := (s.counts.getD k [])) (v := Vi ((s.counts.getD k []).getD ((Sk.place key (k : Int) s.wide).toNat) default)) rfl (rd_rowN (i := k) (rd_baseN (i := 1) rfl hs_0) (by first | assumption | omega)) (by first | assumption | omega) sh3 (congrArg tInt.enc (getd_at (by first | assumption | omega) default))) ?_
   refine o_p (p_min (p := least) (q := ((s.counts.getD k []).getD ((Sk.place key (k : Int) s.wide).toNat) default)) rfl rfl) ?_
   refine o_as rfl rfl ?_
   refine o_nil ?_
   refine q_block_normal (q_then ?_)
   refine c_region ?_
   refine o_p (p_addb rfl rfl (by omega)) ?_
   refine o_mv rfl rfl ?_
   refine o_nil ?_
   refine q_round hK3 ((min least ((s.counts.getD k []).getD ((Sk.place key (k : Int) s.wide).toNat) default)), k + 1) ?_ ?_ ?_ ?_
   ·clear hK3
    exact ⟨by omega, by rw [hI.2]; rfl⟩
   ·(try dsimp only); omega
   ·exact sr (sr (sr (sr (sr (sr (Sub.nil _))))))
   ·exact pk [0, 1]
  ·simp only [decide_eq_false_iff_not, Int.not_lt] at hc4
   refine c_exit ?_
   refine q_then_exit (q_then_exit (q_block_exit (q_then ?_)))
   refine c_seq (c_region ?_)
   refine o_mv rfl rfl ?_
   refine o_as rfl rfl ?_
   refine o_as rfl rfl ?_
   refine o_nil (q_then (c_ret ?_))
   have hr0 : (least : Int) = (Sk.est s key) := by
    first | exact (if_neg (by assumption)).symm | (have hle := hI.1; rw [hI.2, show k = s.counts.length by omega]; exact (if_pos hke).symm) | exact hke.symm | rfl
   have hr1 : (0 : Int) = (Sk.keyErr s key) := by
    first | exact (if_neg (by assumption)).symm | (have hle := hI.1; rw [hI.2, show k = s.counts.length by omega]; exact (if_pos hke).symm) | exact hke.symm | rfl
   refine q_end0 (v := .tuple #[Vi least, Vi 0]) (rt2 rfl (r_tmp rfl) (r_tmp rfl)) (i := 1) rfl ?_
   exact (by have hcc := congr (congrArg (fun (y0 : Int) (y1 : Int) => (.tuple #[.int .i64 y0, .int .i64 y1] : Value)) hr0) hr1; exact hcc)

set_option maxHeartbeats 8000000 in
set_option maxRecDepth 100000 in
theorem smerge1_ok (row : Int) (i : Int) (n : Int) (Bb : Nat) (b : DSketch) (ab_0 : Option Addr) (cb_0 : NC) (hy1 : (0 ≤ row ∧ row < (b.counts.length : Int)) ∧ 0 ≤ i ∧ i < ((b.counts.getD row.toNat []).length : Int)) : Fn0 Try.prog 55 [Vi row, Vi i, Vi n, .pointer (some ⟨Bb, 0, none⟩)] (fun w => RdN tInt w ab_0 cb_0 b.counts ∧ (box Bb [Vi b.wide, .slice ab_0 b.counts.length cb_0.n] 24).A w) (Vi (Sk.mrgF b.counts row i n)) := by
 refine fn0 (nt := 18) (F0 := [(0, Vi row), (1, Vi i), (2, Vi n), (3, .pointer (some ⟨Bb, 0, none⟩))]) Try.func55 rfl Try.ntmps55 rfl rfl (fun w0 hpre => ?_)
 obtain ⟨hb_0, hBb⟩ := hpre
 have hlhb_0 := hb_0.2.1
 refine c_seq (c_region ?_)
 refine o_as rfl rfl ?_
 refine o_nil (q_then (c_seq (c_region ?_)))
 refine o_mv rfl rfl ?_
 refine o_p (p_fieldAddr (j' := 1) rfl fo24_1 rfl) ?_
 refine o_p (p_loadR (v := .slice ab_0 b.counts.length cb_0.n) rfl (rbox_base (i := 0) rfl hBb) sh22 rfl) ?_
 refine o_mv rfl rfl ?_
 refine o_p (p_indexAddrN (T := tInt) (c := cb_0) (LL := b.counts) (i := row) rfl rfl (rd_baseN (i := 0) rfl hb_0) Try.underlying22 sz37 (by first | omega | decide) (by first | omega | decide)) ?_
 refine o_p (p_loadN (T := tInt) (c := cb_0) (LL := b.counts) (i := row.toNat) rfl (rd_baseN (i := 0) rfl hb_0) (by first | assumption | omega | decide) sh37) ?_
 refine o_mv rfl rfl ?_
 refine o_p (p_indexAddr (L := (b.counts.getD row.toNat [])) (T := tInt) (i := i) rfl rfl (rd_rowN (i := row.toNat) (rd_baseN (i := 0) rfl hb_0) (by first | assumption | omega)) Try.underlying37 sz3 (by omega) (by omega)) ?_
 refine o_p (p_loadE1 (i := i.toNat) (T := tInt) (L := (b.counts.getD row.toNat [])) (v := Vi ((b.counts.getD row.toNat []).getD i.toNat default)) rfl (rd_rowN (i := row.toNat) (rd_baseN (i := 0) rfl hb_0) (by first | assumption | omega)) (by first | assumption | omega) sh3 (congrArg tInt.enc (getd_at (by first | assumption | omega) default))) ?_
 refine o_p (p_add rfl rfl) ?_
 refine o_as rfl rfl ?_
 refine o_nil (q_then (c_ret ?_))
 have hr0 : ((IntKind.i64.wrap (n + ((b.counts.getD row.toNat []).getD i.toNat default))) : Int) = (Sk.mrgF b.counts row i n) := by
  rfl
 refine q_end0 (v := Vi (IntKind.i64.wrap (n + ((b.counts.getD row.toNat []).getD i.toNat default)))) (rt1 rfl (r_tmp rfl)) (i := 0) rfl ?_
 exact (by have hcc := congrArg (fun (y0 : Int) => (.int .i64 y0 : Value)) hr0; exact hcc)

set_option maxHeartbeats 8000000 in
set_option maxRecDepth 100000 in
theorem smerge_ok (a : DSketch) (aa_0 : Option Addr) (ca_0 : NC) (b : DSketch) (ab_0 : Option Addr) (cb_0 : NC) : FnM Try.prog 15 [.agg #[Vi a.wide, .slice aa_0 a.counts.length ca_0.n], .agg #[Vi b.wide, .slice ab_0 b.counts.length cb_0.n]] (fun w => RdN tInt w aa_0 ca_0 a.counts ∧ RdN tInt w ab_0 cb_0 b.counts) (Option Addr × NC) (fun p => .tuple #[.agg #[Vi ((Sk.merge a b).wide), .slice p.1 ((Sk.merge a b).counts).length p.2.n], Vi (Sk.mrgErr a b)]) (fun p S w => SlON tInt S w p.1 p.2 ((Sk.merge a b).counts)) := by
 refine fnM (nt := 51) (F0 := [(0, .agg #[Vi a.wide, .slice aa_0 a.counts.length ca_0.n]), (1, .agg #[Vi b.wide, .slice ab_0 b.counts.length cb_0.n])]) Try.func15 rfl Try.ntmps15 rfl rfl (fun w0 hpre => ?_)
 obtain ⟨ha_0, hb_0⟩ := hpre
 have hlha_0 := ha_0.2.1
 have hlhb_0 := hb_0.2.1
 refine c_seq (c_region ?_)
 refine o_box (v := .agg #[Vi a.wide, .slice aa_0 a.counts.length ca_0.n]) rfl rfl (fun B1 => ?_)
 refine o_box (v := .agg #[Vi b.wide, .slice ab_0 b.counts.length cb_0.n]) rfl rfl (fun B2 => ?_)
 refine o_alloc ze24 rfl (fun B3 => ?_)
 refine o_as rfl rfl ?_
 refine o_nil (q_then (c_seq (c_seq (c_region ?_))))
 refine o_p (p_load_agg (i := 2) (vs := [Vi a.wide, .slice aa_0 a.counts.length ca_0.n]) rfl rfl sh24 rfl rfl) ?_
 refine o_p (p_load_agg (i := 1) (vs := [Vi b.wide, .slice ab_0 b.counts.length cb_0.n]) rfl rfl sh24 rfl rfl) ?_
 refine o_buildSlice (m := 2) (T := tSkHdr) (L := [(⟨a.wide, aa_0, a.counts.length, ca_0.n⟩ : SkHdr), (⟨b.wide, ab_0, b.counts.length, cb_0.n⟩ : SkHdr)]) (vs := [.agg #[Vi a.wide, .slice aa_0 a.counts.length ca_0.n], .agg #[Vi b.wide, .slice ab_0 b.counts.length cb_0.n]]) rfl rfl rfl rfl Try.underlying97 sz24 (by decide) ze24 rfl (by decide) rfl (fun S4 a5 => ?_)
 refine o_p (p_len_slice rfl rfl Try.underlying97) ?_
 refine o_mv rfl rfl ?_
 refine o_nil (q_then (c_block ?_))
 refine c_loop (St := Nat)
  (fun k => [(2, .pointer (some ⟨B1, 0, none⟩)), (3, .pointer (some ⟨B2, 0, none⟩)), (4, .pointer (some ⟨B3, 0, none⟩)), (13, .slice a5 ([(⟨a.wide, aa_0, a.counts.length, ca_0.n⟩ : SkHdr), (⟨b.wide, ab_0, b.counts.length, cb_0.n⟩ : SkHdr)]).length ([(⟨a.wide, aa_0, a.counts.length, ca_0.n⟩ : SkHdr), (⟨b.wide, ab_0, b.counts.length, cb_0.n⟩ : SkHdr)].length)), (14, Vi (([(⟨a.wide, aa_0, a.counts.length, ca_0.n⟩ : SkHdr), (⟨b.wide, ab_0, b.counts.length, cb_0.n⟩ : SkHdr)]).length : Int)), (15, Vi (k : Int))])
  (fun k => [own tSkHdr S4 a5 ([(⟨a.wide, aa_0, a.counts.length, ca_0.n⟩ : SkHdr), (⟨b.wide, ab_0, b.counts.length, cb_0.n⟩ : SkHdr)].length) ([(⟨a.wide, aa_0, a.counts.length, ca_0.n⟩ : SkHdr), (⟨b.wide, ab_0, b.counts.length, cb_0.n⟩ : SkHdr)]), box B3 [Vi 0, .slice none 0 0] 24, box B2 [Vi b.wide, .slice ab_0 b.counts.length cb_0.n] 24, box B1 [Vi a.wide, .slice aa_0 a.counts.length ca_0.n] 24, base w0])
  (fun k => k ≤ 2 ∧ (1 ≤ k → Sk.check a = 0) ∧ (2 ≤ k → Sk.check b = 0))
  (fun k => 2 - k)
  0 ?_ (sr (sr (sr (sr (sr (sr (Sub.nil _))))))) (fun _ hw => hw) ?_
 ·exact ⟨by omega, fun h => by omega, fun h => by omega⟩
 rintro k hI K hK7
 obtain ⟨hk1, hk2, hk3⟩ := id hI
 show SC _ _ Try.prog 51 w0 _ _ [(2, .pointer (some ⟨B1, 0, none⟩)), (3, .pointer (some ⟨B2, 0, none⟩)), (4, .pointer (some ⟨B3, 0, none⟩)), (13, .slice a5 ([(⟨a.wide, aa_0, a.counts.length, ca_0.n⟩ : SkHdr), (⟨b.wide, ab_0, b.counts.length, cb_0.n⟩ : SkHdr)]).length ([(⟨a.wide, aa_0, a.counts.length, ca_0.n⟩ : SkHdr), (⟨b.wide, ab_0, b.counts.length, cb_0.n⟩ : SkHdr)].length)), (14, Vi (([(⟨a.wide, aa_0, a.counts.length, ca_0.n⟩ : SkHdr), (⟨b.wide, ab_0, b.counts.length, cb_0.n⟩ : SkHdr)]).length : Int)), (15, Vi (k : Int))] [own tSkHdr S4 a5 ([(⟨a.wide, aa_0, a.counts.length, ca_0.n⟩ : SkHdr), (⟨b.wide, ab_0, b.counts.length, cb_0.n⟩ : SkHdr)].length) ([(⟨a.wide, aa_0, a.counts.length, ca_0.n⟩ : SkHdr), (⟨b.wide, ab_0, b.counts.length, cb_0.n⟩ : SkHdr)]), box B3 [Vi 0, .slice none 0 0] 24, box B2 [Vi b.wide, .slice ab_0 b.counts.length cb_0.n] 24, box B1 [Vi a.wide, .slice aa_0 a.counts.length ca_0.n] 24, base w0]
 refine c_seq (c_region ?_)
 refine o_p (p_lt rfl rfl) ?_
 refine o_nil (q_then (c_seq ?_))
 refine c_cond rfl (fun hc8 => ?_) (fun hc8 => ?_)
 ·simp only [decide_eq_true_eq] at hc8
  have hcq := hc8
  simp only [List.length_cons, List.length_nil] at hcq
  refine c_skip (q_then (c_seq (c_block (c_seq ?_))))
  rcases (show (k : Int) = 0 ∨ (k : Int) = 1 by omega) with e_ | e_
  ·rw [e_]
   refine c_region ?_
   refine o_p (p_indexAddr (L := [(⟨a.wide, aa_0, a.counts.length, ca_0.n⟩ : SkHdr), (⟨b.wide, ab_0, b.counts.length, cb_0.n⟩ : SkHdr)]) (T := tSkHdr) (i := 0) rfl rfl (rd_own (i := 0) rfl) Try.underlying97 sz24 (by omega) (by omega)) ?_
   refine o_p (p_loadEn (i := 0) (T := tSkHdr) (L := [(⟨a.wide, aa_0, a.counts.length, ca_0.n⟩ : SkHdr), (⟨b.wide, ab_0, b.counts.length, cb_0.n⟩ : SkHdr)]) (vs := [Vi a.wide, .slice aa_0 a.counts.length ca_0.n]) rfl (rd_own (i := 0) rfl) (by first | assumption | omega) sh24 rfl) ?_
   refine o_alloc ze24 rfl (fun B9 => ?_)
   refine o_storeN (i := 0) (vs := [Vi a.wide, .slice aa_0 a.counts.length ca_0.n]) (cs' := [Vi a.wide, .slice aa_0 a.counts.length ca_0.n]) rfl rfl rfl sz24 rfl rfl rfl rfl ?_
   refine o_nil (q_then (c_seq (c_region ?_)))
   refine o_p (p_load_agg (i := 0) (vs := [Vi a.wide, .slice aa_0 a.counts.length ca_0.n]) rfl rfl sh24 rfl rfl) ?_
   refine o_call0 (v := Vi (Sk.check a)) rfl (scheck_ok a aa_0 ca_0) hf26 (fun w hw => (rd_baseN (i := 5) rfl ha_0) w hw) rfl ?_
   refine o_as rfl rfl ?_
   refine o_nil (q_then (c_seq (c_region ?_)))
   refine o_mv rfl rfl ?_
   refine o_p (p_ne rfl rfl) ?_
   refine o_nil (q_then ?_)
   refine c_cond rfl (fun hc10 => ?_) (fun hc10 => ?_)
   ·simp only [bne_iff_ne, ne_eq] at hc10
    refine c_seq (c_region ?_)
    refine o_p (p_build (cells := [Vi 0, .slice none 0 0]) fp24 ze24 rfl rfl) ?_
    refine o_mv rfl rfl ?_
    refine o_storeN (i := 2) (vs := [Vi 0, .slice none 0 0]) (cs' := [Vi 0, .slice none 0 0]) rfl rfl rfl sz24 rfl rfl rfl rfl ?_
    refine o_as rfl rfl ?_
    refine o_nil (q_then (c_ret ?_))
    refine q_block_ret (q_then_ret (q_then_ret (q_block_ret (q_then_ret ?_))))
    obtain ⟨hv1, hv2⟩ : _ ∧ _ := by first | exact Sk.mg1 (a := a) (b := b) (by assumption) | exact Sk.mg2 (a := a) (b := b) (hI.2.1 (by omega)) (by assumption) | exact Sk.mg3 (a := a) (b := b) hca9 hcb9 hne | exact Sk.mg4 (a := a) (b := b) hca9 hcb9 hne (by assumption) | exact Sk.mg5 (a := a) (b := b) hca9 hcb9 hne (by assumption)
    have hr0 : (0 : Int) = (Sk.merge a b).wide := by
     first | (rw [hv1]; done) | (rw [hv1]; rfl) | exact hv2.symm
    have hr1 : ([] : List (List Int)) = (Sk.merge a b).counts := by
     first | (rw [hv1]; done) | (rw [hv1]; rfl) | exact hv2.symm
    have hr2 : ((Sk.check a) : Int) = (Sk.mrgErr a b) := by
     first | (rw [hv1]; done) | (rw [hv1]; rfl) | exact hv2.symm
    refine q_endM (p := (none, nc0)) (fun _ => False) (rt2 rfl (r_cell (i := 2) rfl rfl sh24 rfl) (r_tmp rfl)) (i := 5) rfl ?_ ?_ ?_
    ·exact (by have hcc := congr (congr (congrArg (fun (y0 : Int) (y1 : List (List Int)) (y2 : Int) => (.tuple #[.agg #[.int .i64 y0, .slice none y1.length 0], .int .i64 y2] : Value)) hr0) hr1) hr2; exact hcc)
    ·intro w hw b hb; exact hb.elim
    ·intro w hw; exact Eq.mp (congrArg (fun y => SlON tInt _ w none nc0 y) hr1) (SlON.nil tInt w)
   ·simp only [bne_eq_false_iff_eq] at hc10
    have hca := hc10
    refine c_skip ?_
    refine q_block_normal (q_then ?_)
    refine c_region ?_
    refine o_p (p_addb rfl rfl (by omega)) ?_
    refine o_mv rfl rfl ?_
    refine o_nil ?_
    refine q_round hK7 (((0 + 1) : Int).toNat) ?_ ?_ ?_ ?_
    ·clear hK7
     first | exact ⟨by omega, fun _ => hca, fun h => by omega⟩ | exact ⟨by omega, fun _ => hk2 (by omega), fun _ => hcb⟩
    ·(try dsimp only); omega
    ·exact sr (sr (sr (sr (sr (sr (Sub.nil _))))))
    ·exact pk [1, 2, 3, 4, 5]
  ·rw [e_]
   refine c_region ?_
   refine o_p (p_indexAddr (L := [(⟨a.wide, aa_0, a.counts.length, ca_0.n⟩ : SkHdr), (⟨b.wide, ab_0, b.counts.length, cb_0.n⟩ : SkHdr)]) (T := tSkHdr) (i := 1) rfl rfl (rd_own (i := 0) rfl) Try.underlying97 sz24 (by omega) (by omega)) ?_
   refine o_p (p_loadEn (i := 1) (T := tSkHdr) (L := [(⟨a.wide, aa_0, a.counts.length, ca_0.n⟩ : SkHdr), (⟨b.wide, ab_0, b.counts.length, cb_0.n⟩ : SkHdr)]) (vs := [Vi b.wide, .slice ab_0 b.counts.length cb_0.n]) rfl (rd_own (i := 0) rfl) (by first | assumption | omega) sh24 rfl) ?_
   refine o_alloc ze24 rfl (fun B11 => ?_)
   refine o_storeN (i := 0) (vs := [Vi b.wide, .slice ab_0 b.counts.length cb_0.n]) (cs' := [Vi b.wide, .slice ab_0 b.counts.length cb_0.n]) rfl rfl rfl sz24 rfl rfl rfl rfl ?_
   refine o_nil (q_then (c_seq (c_region ?_)))
   refine o_p (p_load_agg (i := 0) (vs := [Vi b.wide, .slice ab_0 b.counts.length cb_0.n]) rfl rfl sh24 rfl rfl) ?_
   refine o_call0 (v := Vi (Sk.check b)) rfl (scheck_ok b ab_0 cb_0) hf26 (fun w hw => (rd_baseN (i := 5) rfl hb_0) w hw) rfl ?_
   refine o_as rfl rfl ?_
   refine o_nil (q_then (c_seq (c_region ?_)))
   refine o_mv rfl rfl ?_
   refine o_p (p_ne rfl rfl) ?_
   refine o_nil (q_then ?_)
   refine c_cond rfl (fun hc12 => ?_) (fun hc12 => ?_)
   ·simp only [bne_iff_ne, ne_eq] at hc12
    refine c_seq (c_region ?_)
    refine o_p (p_build (cells := [Vi 0, .slice none 0 0]) fp24 ze24 rfl rfl) ?_
    refine o_mv rfl rfl ?_
    refine o_storeN (i := 2) (vs := [Vi 0, .slice none 0 0]) (cs' := [Vi 0, .slice none 0 0]) rfl rfl rfl sz24 rfl rfl rfl rfl ?_
    refine o_as rfl rfl ?_
    refine o_nil (q_then (c_ret ?_))
    refine q_block_ret (q_then_ret (q_then_ret (q_block_ret (q_then_ret ?_))))
    obtain ⟨hv1, hv2⟩ : _ ∧ _ := by first | exact Sk.mg1 (a := a) (b := b) (by assumption) | exact Sk.mg2 (a := a) (b := b) (hI.2.1 (by omega)) (by assumption) | exact Sk.mg3 (a := a) (b := b) hca9 hcb9 hne | exact Sk.mg4 (a := a) (b := b) hca9 hcb9 hne (by assumption) | exact Sk.mg5 (a := a) (b := b) hca9 hcb9 hne (by assumption)
    have hr0 : (0 : Int) = (Sk.merge a b).wide := by
     first | (rw [hv1]; done) | (rw [hv1]; rfl) | exact hv2.symm
    have hr1 : ([] : List (List Int)) = (Sk.merge a b).counts := by
     first | (rw [hv1]; done) | (rw [hv1]; rfl) | exact hv2.symm
    have hr2 : ((Sk.check b) : Int) = (Sk.mrgErr a b) := by
     first | (rw [hv1]; done) | (rw [hv1]; rfl) | exact hv2.symm
    refine q_endM (p := (none, nc0)) (fun _ => False) (rt2 rfl (r_cell (i := 2) rfl rfl sh24 rfl) (r_tmp rfl)) (i := 5) rfl ?_ ?_ ?_
    ·exact (by have hcc := congr (congr (congrArg (fun (y0 : Int) (y1 : List (List Int)) (y2 : Int) => (.tuple #[.agg #[.int .i64 y0, .slice none y1.length 0], .int .i64 y2] : Value)) hr0) hr1) hr2; exact hcc)
    ·intro w hw b hb; exact hb.elim
    ·intro w hw; exact Eq.mp (congrArg (fun y => SlON tInt _ w none nc0 y) hr1) (SlON.nil tInt w)
   ·simp only [bne_eq_false_iff_eq] at hc12
    have hcb := hc12
    refine c_skip ?_
    refine q_block_normal (q_then ?_)
    refine c_region ?_
    refine o_p (p_addb rfl rfl (by omega)) ?_
    refine o_mv rfl rfl ?_
    refine o_nil ?_
    refine q_round hK7 (((1 + 1) : Int).toNat) ?_ ?_ ?_ ?_
    ·clear hK7
     first | exact ⟨by omega, fun _ => hca, fun h => by omega⟩ | exact ⟨by omega, fun _ => hk2 (by omega), fun _ => hcb⟩
    ·(try dsimp only); omega
    ·exact sr (sr (sr (sr (sr (sr (Sub.nil _))))))
    ·exact pk [1, 2, 3, 4, 5]
 ·simp only [decide_eq_false_iff_not, Int.not_lt] at hc8
  have hcq := hc8
  simp only [List.length_cons, List.length_nil] at hcq
  have hca9 := hI.2.1 (by omega)
  have hcb9 := hI.2.2 (by omega)
  have hoa := Sk.check_ok.1 hca9
  have hob := Sk.check_ok.1 hcb9
  refine c_exit ?_
  refine q_then_exit (q_then_exit (q_block_exit (q_then ?_)))
  refine c_seq (c_seq (c_region ?_))
  refine o_p (p_fieldAddr (j' := 0) rfl fo24_0 rfl) ?_
  refine o_p (p_load (i := 3) (v := Vi a.wide) rfl rfl sh3 rfl) ?_
  refine o_p (p_fieldAddr (j' := 0) rfl fo24_0 rfl) ?_
  refine o_p (p_load (i := 2) (v := Vi b.wide) rfl rfl sh3 rfl) ?_
  refine o_p (p_ne rfl rfl) ?_
  refine o_mv rfl rfl ?_
  refine o_or (p := 39) 8 ((a.counts.length : Int) != (b.counts.length : Int)) ?_ ?_ ?_
  ·intro hb13 hk
   simp only [bne_eq_false_iff_eq] at hb13
   refine o_unguard 31 rfl rfl ?_
   refine o_p (p_fieldAddr (j' := 1) rfl fo24_1 rfl) ?_
   refine o_unguard 31 rfl rfl ?_
   refine o_p (p_load (i := 3) (v := .slice aa_0 a.counts.length ca_0.n) rfl rfl sh22 rfl) ?_
   refine o_unguard 31 rfl rfl ?_
   refine o_p (p_len_slice rfl rfl Try.underlying22) ?_
   refine o_unguard 31 rfl rfl ?_
   refine o_p (p_fieldAddr (j' := 1) rfl fo24_1 rfl) ?_
   refine o_unguard 31 rfl rfl ?_
   refine o_p (p_load (i := 2) (v := .slice ab_0 b.counts.length cb_0.n) rfl rfl sh22 rfl) ?_
   refine o_unguard 31 rfl rfl ?_
   refine o_p (p_len_slice rfl rfl Try.underlying22) ?_
   refine o_unguard 31 rfl rfl ?_
   refine o_p (p_ne rfl rfl) ?_
   refine o_pf rfl rfl rfl ?_
   exact o_sub (sr (Sub.skip rfl (Sub.skip rfl (Sub.skip rfl (Sub.skip rfl (Sub.skip rfl (Sub.skip rfl (Sub.skip rfl (Sub.skip rfl (Sub.skip rfl (Sub.refl _))))))))))) hk
  ·intro hb13 hk
   refine o_guard_no rfl 31 rfl rfl rfl rfl rfl ?_
   refine o_guard_no rfl 31 rfl rfl rfl rfl rfl ?_
   refine o_guard_no rfl 31 rfl rfl rfl rfl rfl ?_
   refine o_guard_no rfl 31 rfl rfl rfl rfl rfl ?_
   refine o_guard_no rfl 31 rfl rfl rfl rfl rfl ?_
   refine o_guard_no rfl 31 rfl rfl rfl rfl rfl ?_
   refine o_guard_no rfl 31 rfl rfl rfl rfl rfl ?_
   refine o_pt rfl rfl rfl ?_
   exact o_sub (sr (Sub.skip rfl (Sub.skip rfl (Sub.skip rfl (Sub.skip rfl (Sub.skip rfl (Sub.skip rfl (Sub.skip rfl (Sub.skip rfl (Sub.skip rfl (Sub.refl _))))))))))) hk
  refine o_nil (q_then ?_)
  refine c_cond rfl (fun hc14 => ?_) (fun hc14 => ?_)
  ·simp only [Bool.or_eq_true, bne_iff_ne, ne_eq] at hc14
   have hne := hc14
   refine c_seq (c_region ?_)
   refine o_p (p_build (cells := [Vi 0, .slice none 0 0]) fp24 ze24 rfl rfl) ?_
   refine o_storeN (i := 1) (vs := [Vi 0, .slice none 0 0]) (cs' := [Vi 0, .slice none 0 0]) rfl rfl rfl sz24 rfl rfl rfl rfl ?_
   refine o_as rfl rfl ?_
   refine o_nil (q_then (c_ret ?_))
   refine q_then_ret ?_
   obtain ⟨hv1, hv2⟩ : _ ∧ _ := by first | exact Sk.mg1 (a := a) (b := b) (by assumption) | exact Sk.mg2 (a := a) (b := b) (hI.2.1 (by omega)) (by assumption) | exact Sk.mg3 (a := a) (b := b) hca9 hcb9 hne | exact Sk.mg4 (a := a) (b := b) hca9 hcb9 hne (by assumption) | exact Sk.mg5 (a := a) (b := b) hca9 hcb9 hne (by assumption)
   have hr0 : (0 : Int) = (Sk.merge a b).wide := by
    first | (rw [hv1]; done) | (rw [hv1]; rfl) | exact hv2.symm
   have hr1 : ([] : List (List Int)) = (Sk.merge a b).counts := by
    first | (rw [hv1]; done) | (rw [hv1]; rfl) | exact hv2.symm
   have hr2 : (7 : Int) = (Sk.mrgErr a b) := by
    first | (rw [hv1]; done) | (rw [hv1]; rfl) | exact hv2.symm
   refine q_endM (p := (none, nc0)) (fun _ => False) (rt2 rfl (r_cell (i := 1) rfl rfl sh24 rfl) (r_tmp rfl)) (i := 4) rfl ?_ ?_ ?_
   ·exact (by have hcc := congr (congr (congrArg (fun (y0 : Int) (y1 : List (List Int)) (y2 : Int) => (.tuple #[.agg #[.int .i64 y0, .slice none y1.length 0], .int .i64 y2] : Value)) hr0) hr1) hr2; exact hcc)
   ·intro w hw b hb; exact hb.elim
   ·intro w hw; exact Eq.mp (congrArg (fun y => SlON tInt _ w none nc0 y) hr1) (SlON.nil tInt w)
  ·simp only [Bool.or_eq_false_iff, bne_eq_false_iff_eq] at hc14
   have hne := hc14
   refine c_skip (q_then (c_seq (c_region ?_)))
   refine o_p (p_load_agg (i := 3) (vs := [Vi a.wide, .slice aa_0 a.counts.length ca_0.n]) rfl rfl sh24 rfl rfl) ?_
   refine o_p (p_makeFunc (vs := [.pointer (some ⟨B2, 0, none⟩)]) rfl) ?_
   refine o_callM rfl (smapped_ok a aa_0 ca_0 55 [.pointer (some ⟨B2, 0, none⟩)] (fun x y z => (Sk.mrgF b.counts x y z)) (fun w => RdN tInt w ab_0 cb_0 b.counts ∧ (box B2 [Vi b.wide, .slice ab_0 b.counts.length cb_0.n] 24).A w) (fun _ _ hb h => ⟨RdN.below h.1 hb.block hb.size, box_below hb h.2⟩) (fun x y z hdom => smerge1_ok x y z B2 b ab_0 cb_0 (⟨by omega, by omega, by rw [hob.row_len (by omega)]; omega⟩)) hf55 (by first | assumption | exact hok.toForm | exact hoa.toForm)) hf52 (fun w hw => ⟨(rd_baseN (i := 4) rfl ha_0) w hw, ⟨(rd_baseN (i := 4) rfl hb_0) w hw, (hw.at (i := 2) rfl).here⟩⟩) rfl (fun _ _ _ _ ha hA => SlON.agree ha hA) ?_
   rintro ⟨a17, c18⟩ S15
   refine o_know (fun w hw => own_lenN (i := 0) (T := tInt) hw rfl) (fun hlr19 => ?_)
   refine o_mv rfl rfl ?_
   refine o_ex rfl rfl rfl ?_
   refine o_ex rfl rfl rfl ?_
   refine o_alloc ze24 rfl (fun B20 => ?_)
   refine o_storeN (i := 0) (vs := [Vi ((Sk.mapS (fun (x : Int) (y : Int) (z : Int) => (Sk.mrgF b.counts x y z)) a).wide), .slice a17 ((Sk.mapS (fun (x : Int) (y : Int) (z : Int) => (Sk.mrgF b.counts x y z)) a).counts).length c18.n]) (cs' := [Vi ((Sk.mapS (fun (x : Int) (y : Int) (z : Int) => (Sk.mrgF b.counts x y z)) a).wide), .slice a17 ((Sk.mapS (fun (x : Int) (y : Int) (z : Int) => (Sk.mrgF b.counts x y z)) a).counts).length c18.n]) rfl rfl rfl sz24 rfl rfl rfl rfl ?_
   refine o_as rfl rfl ?_
   refine o_nil (q_then (c_seq (c_seq (c_region ?_))))
   refine o_mv rfl rfl ?_
   refine o_p (p_not (b := (Sk.mapOk (fun (x : Int) (y : Int) (z : Int) => (Sk.mrgF b.counts x y z)) a)) rfl) ?_
   refine o_nil (q_then ?_)
   refine c_cond rfl (fun hc21 => ?_) (fun hc21 => ?_)
   ·simp only [Bool.not_eq_true'] at hc21
    refine c_seq (c_region ?_)
    refine o_p (p_build (cells := [Vi 0, .slice none 0 0]) fp24 ze24 rfl rfl) ?_
    refine o_storeN (i := 3) (vs := [Vi 0, .slice none 0 0]) (cs' := [Vi 0, .slice none 0 0]) rfl rfl rfl sz24 rfl rfl rfl rfl ?_
    refine o_as rfl rfl ?_
    refine o_nil (q_then (c_ret ?_))
    refine q_then_ret ?_
    obtain ⟨hv1, hv2⟩ : _ ∧ _ := by first | exact Sk.mg1 (a := a) (b := b) (by assumption) | exact Sk.mg2 (a := a) (b := b) (hI.2.1 (by omega)) (by assumption) | exact Sk.mg3 (a := a) (b := b) hca9 hcb9 hne | exact Sk.mg4 (a := a) (b := b) hca9 hcb9 hne (by assumption) | exact Sk.mg5 (a := a) (b := b) hca9 hcb9 hne (by assumption)
    have hr0 : (0 : Int) = (Sk.merge a b).wide := by
     first | (rw [hv1]; done) | (rw [hv1]; rfl) | exact hv2.symm
    have hr1 : ([] : List (List Int)) = (Sk.merge a b).counts := by
     first | (rw [hv1]; done) | (rw [hv1]; rfl) | exact hv2.symm
    have hr2 : (8 : Int) = (Sk.mrgErr a b) := by
     first | (rw [hv1]; done) | (rw [hv1]; rfl) | exact hv2.symm
    refine q_endM (p := (none, nc0)) (fun _ => False) (rt2 rfl (r_cell (i := 3) rfl rfl sh24 rfl) (r_tmp rfl)) (i := 6) rfl ?_ ?_ ?_
    ·exact (by have hcc := congr (congr (congrArg (fun (y0 : Int) (y1 : List (List Int)) (y2 : Int) => (.tuple #[.agg #[.int .i64 y0, .slice none y1.length 0], .int .i64 y2] : Value)) hr0) hr1) hr2; exact hcc)
    ·intro w hw b hb; exact hb.elim
    ·intro w hw; exact Eq.mp (congrArg (fun y => SlON tInt _ w none nc0 y) hr1) (SlON.nil tInt w)
   ·simp only [Bool.not_eq_false'] at hc21
    refine c_skip (q_then (c_seq (c_region ?_)))
    refine o_p (p_load_agg (i := 0) (vs := [Vi ((Sk.mapS (fun (x : Int) (y : Int) (z : Int) => (Sk.mrgF b.counts x y z)) a).wide), .slice a17 ((Sk.mapS (fun (x : Int) (y : Int) (z : Int) => (Sk.mrgF b.counts x y z)) a).counts).length c18.n]) rfl rfl sh24 rfl rfl) ?_
    refine o_storeN (i := 3) (vs := [Vi ((Sk.mapS (fun (x : Int) (y : Int) (z : Int) => (Sk.mrgF b.counts x y z)) a).wide), .slice a17 ((Sk.mapS (fun (x : Int) (y : Int) (z : Int) => (Sk.mrgF b.counts x y z)) a).counts).length c18.n]) (cs' := [Vi ((Sk.mapS (fun (x : Int) (y : Int) (z : Int) => (Sk.mrgF b.counts x y z)) a).wide), .slice a17 ((Sk.mapS (fun (x : Int) (y : Int) (z : Int) => (Sk.mrgF b.counts x y z)) a).counts).length c18.n]) rfl rfl rfl sz24 rfl rfl rfl rfl ?_
    refine o_as rfl rfl ?_
    refine o_nil (q_then (c_ret ?_))
    obtain ⟨hv1, hv2⟩ : _ ∧ _ := by first | exact Sk.mg1 (a := a) (b := b) (by assumption) | exact Sk.mg2 (a := a) (b := b) (hI.2.1 (by omega)) (by assumption) | exact Sk.mg3 (a := a) (b := b) hca9 hcb9 hne | exact Sk.mg4 (a := a) (b := b) hca9 hcb9 hne (by assumption) | exact Sk.mg5 (a := a) (b := b) hca9 hcb9 hne (by assumption)
    have hr0 : ((Sk.mapS (fun (x : Int) (y : Int) (z : Int) => (Sk.mrgF b.counts x y z)) a).wide : Int) = (Sk.merge a b).wide := by
     first | (rw [hv1]; done) | (rw [hv1]; rfl) | exact hv2.symm
    have hr1 : ((Sk.mapS (fun (x : Int) (y : Int) (z : Int) => (Sk.mrgF b.counts x y z)) a).counts : List (List Int)) = (Sk.merge a b).counts := by
     first | (rw [hv1]; done) | (rw [hv1]; rfl) | exact hv2.symm
    have hr2 : (0 : Int) = (Sk.mrgErr a b) := by
     first | (rw [hv1]; done) | (rw [hv1]; rfl) | exact hv2.symm
    refine q_endM (p := (a17, c18)) S15 (rt2 rfl (r_cell (i := 3) rfl rfl sh24 rfl) (r_tmp rfl)) (i := 6) rfl ?_ ?_ ?_
    ·exact (by have hcc := congr (congr (congrArg (fun (y0 : Int) (y1 : List (List Int)) (y2 : Int) => (.tuple #[.agg #[.int .i64 y0, .slice a17 y1.length c18.n], .int .i64 y2] : Value)) hr0) hr1) hr2; exact hcc)
    ·exact fun w hw => hw.above (i := 6) (j := 1) (by decide) rfl rfl
    ·intro w hw; exact Eq.mp (congrArg (fun y => SlON tInt _ w a17 c18 y) hr1) ((hw.at (i := 1) rfl).here)

set_option maxHeartbeats 8000000 in
set_option maxRecDepth 100000 in
theorem shalve1_ok (row : Int) (i : Int) (n : Int) (hy1 : 0 ≤ n ∧ n ≤ 1099511627776) : Fn0 Try.prog 56 [Vi row, Vi i, Vi n] (fun _ => True) (Vi (Sk.halfF row i n)) := by
 refine fn0 (nt := 9) (F0 := [(0, Vi row), (1, Vi i), (2, Vi n)]) Try.func56 rfl Try.ntmps56 rfl rfl (fun w0 hpre => ?_)
 refine c_seq (c_region ?_)
 refine o_as rfl rfl ?_
 refine o_nil (q_then (c_seq (c_region ?_)))
 refine o_mv rfl rfl ?_
 refine o_p (p_quob (p := n) (q := 2) rfl rfl (by decide) (by have h9 : n.tdiv 2 = n / 2 := Int.tdiv_eq_ediv_of_nonneg (by omega); omega)) ?_
 refine o_as rfl rfl ?_
 refine o_nil (q_then (c_ret ?_))
 have hr0 : ((n.tdiv 2) : Int) = (Sk.halfF row i n) := by
  rfl
 refine q_end0 (v := Vi (n.tdiv 2)) (rt1 rfl (r_tmp rfl)) (i := 0) rfl ?_
 exact (by have hcc := congrArg (fun (y0 : Int) => (.int .i64 y0 : Value)) hr0; exact hcc)

set_option maxHeartbeats 8000000 in
set_option maxRecDepth 100000 in
theorem shalve_ok (s : DSketch) (as_0 : Option Addr) (cs_0 : NC) : FnM Try.prog 16 [.agg #[Vi s.wide, .slice as_0 s.counts.length cs_0.n]] (fun w => RdN tInt w as_0 cs_0 s.counts) (Option Addr × NC) (fun p => .tuple #[.agg #[Vi ((Sk.halve s).wide), .slice p.1 ((Sk.halve s).counts).length p.2.n], Vi (Sk.halfErr s)]) (fun p S w => SlON tInt S w p.1 p.2 ((Sk.halve s).counts)) := by
 refine fnM (nt := 24) (F0 := [(0, .agg #[Vi s.wide, .slice as_0 s.counts.length cs_0.n])]) Try.func16 rfl Try.ntmps16 rfl rfl (fun w0 hpre => ?_)
 have hs_0 := hpre
 have hlhs_0 := hs_0.2.1
 refine c_seq (c_region ?_)
 refine o_box (v := .agg #[Vi s.wide, .slice as_0 s.counts.length cs_0.n]) rfl rfl (fun B1 => ?_)
 refine o_alloc ze24 rfl (fun B2 => ?_)
 refine o_as rfl rfl ?_
 refine o_nil (q_then (c_seq (c_seq (c_region ?_))))
 refine o_p (p_load_agg (i := 1) (vs := [Vi s.wide, .slice as_0 s.counts.length cs_0.n]) rfl rfl sh24 rfl rfl) ?_
 refine o_call0 (v := Vi (Sk.check s)) rfl (scheck_ok s as_0 cs_0) hf26 (fun w hw => (rd_baseN (i := 2) rfl hs_0) w hw) rfl ?_
 refine o_as rfl rfl ?_
 refine o_nil (q_then (c_seq (c_region ?_)))
 refine o_mv rfl rfl ?_
 refine o_p (p_ne rfl rfl) ?_
 refine o_nil (q_then ?_)
 refine c_cond rfl (fun hc3 => ?_) (fun hc3 => ?_)
 ·simp only [bne_iff_ne, ne_eq] at hc3
  refine c_seq (c_region ?_)
  refine o_p (p_build (cells := [Vi 0, .slice none 0 0]) fp24 ze24 rfl rfl) ?_
  refine o_mv rfl rfl ?_
  refine o_storeN (i := 0) (vs := [Vi 0, .slice none 0 0]) (cs' := [Vi 0, .slice none 0 0]) rfl rfl rfl sz24 rfl rfl rfl rfl ?_
  refine o_as rfl rfl ?_
  refine o_nil (q_then (c_ret ?_))
  refine q_then_ret ?_
  obtain ⟨c1, c2⟩ : _ ∧ _ := by first | exact Sk.hv1 (s := s) (by assumption) | exact Sk.hv2 (s := s) hckhok (by assumption) | exact Sk.hv3 (s := s) hckhok (by assumption)
  have hr0 : (0 : Int) = (Sk.halve s).wide := by
   first | (rw [c1]; done) | (rw [c1]; rfl) | exact c2.symm
  have hr1 : ([] : List (List Int)) = (Sk.halve s).counts := by
   first | (rw [c1]; done) | (rw [c1]; rfl) | exact c2.symm
  have hr2 : ((Sk.check s) : Int) = (Sk.halfErr s) := by
   first | (rw [c1]; done) | (rw [c1]; rfl) | exact c2.symm
  refine q_endM (p := (none, nc0)) (fun _ => False) (rt2 rfl (r_cell (i := 0) rfl rfl sh24 rfl) (r_tmp rfl)) (i := 2) rfl ?_ ?_ ?_
  ·exact (by have hcc := congr (congr (congrArg (fun (y0 : Int) (y1 : List (List Int)) (y2 : Int) => (.tuple #[.agg #[.int .i64 y0, .slice none y1.length 0], .int .i64 y2] : Value)) hr0) hr1) hr2; exact hcc)
  ·intro w hw b hb; exact hb.elim
  ·intro w hw; exact Eq.mp (congrArg (fun y => SlON tInt _ w none nc0 y) hr1) (SlON.nil tInt w)
 ·simp only [bne_eq_false_iff_eq] at hc3
  have hckhok := hc3
  have hok := Sk.check_ok.1 hc3
  have hw1 := hok.w1
  have hw2 := hok.w2
  have hps := hok.pos
  have hfw := hok.few
  refine c_skip (q_then (c_seq (c_region ?_)))
  refine o_p (p_load_agg (i := 1) (vs := [Vi s.wide, .slice as_0 s.counts.length cs_0.n]) rfl rfl sh24 rfl rfl) ?_
  refine o_callM rfl (smapped_ok s as_0 cs_0 56 [] (fun x y z => (Sk.halfF x y z)) (fun _ => True) (fun _ _ _ h => h) (fun x y z hdom => shalve1_ok x y z (by omega)) hf56 (by first | assumption | exact hok.toForm | exact hoa.toForm)) hf52 (fun w hw => ⟨(rd_baseN (i := 2) rfl hs_0) w hw, trivial⟩) rfl (fun _ _ _ _ ha hA => SlON.agree ha hA) ?_
  rintro ⟨a6, c7⟩ S4
  refine o_know (fun w hw => own_lenN (i := 0) (T := tInt) hw rfl) (fun hlr8 => ?_)
  refine o_mv rfl rfl ?_
  refine o_ex rfl rfl rfl ?_
  refine o_ex rfl rfl rfl ?_
  refine o_alloc ze24 rfl (fun B9 => ?_)
  refine o_storeN (i := 0) (vs := [Vi ((Sk.mapS (fun (x : Int) (y : Int) (z : Int) => (Sk.halfF x y z)) s).wide), .slice a6 ((Sk.mapS (fun (x : Int) (y : Int) (z : Int) => (Sk.halfF x y z)) s).counts).length c7.n]) (cs' := [Vi ((Sk.mapS (fun (x : Int) (y : Int) (z : Int) => (Sk.halfF x y z)) s).wide), .slice a6 ((Sk.mapS (fun (x : Int) (y : Int) (z : Int) => (Sk.halfF x y z)) s).counts).length c7.n]) rfl rfl rfl sz24 rfl rfl rfl rfl ?_
  refine o_as rfl rfl ?_
  refine o_nil (q_then (c_seq (c_seq (c_region ?_))))
  refine o_p (p_fieldAddr (j' := 1) rfl fo24_1 rfl) ?_
  refine o_p (p_load (i := 0) (v := .slice a6 ((Sk.mapS (fun (x : Int) (y : Int) (z : Int) => (Sk.halfF x y z)) s).counts).length c7.n) rfl rfl sh22 rfl) ?_
  refine o_call0 (v := .bool (Sk.even ((Sk.mapS (fun (x : Int) (y : Int) (z : Int) => (Sk.halfF x y z)) s).counts))) rfl (seven_ok ((Sk.mapS (fun (x : Int) (y : Int) (z : Int) => (Sk.halfF x y z)) s).counts) a6 c7 (by first | assumption | exact ⟨hform.vals, hform.pos⟩ | exact ⟨(Sk.half_form hok.toForm).vals, (Sk.half_form hok.toForm).pos⟩)) hf57 (fun w hw => (rd_ownN (i := 1) rfl) w hw) rfl ?_
  refine o_p (p_not (b := (Sk.even ((Sk.mapS (fun (x : Int) (y : Int) (z : Int) => (Sk.halfF x y z)) s).counts))) rfl) ?_
  refine o_nil (q_then ?_)
  refine c_cond rfl (fun hc10 => ?_) (fun hc10 => ?_)
  ·simp only [Bool.not_eq_true'] at hc10
   refine c_seq (c_region ?_)
   refine o_p (p_build (cells := [Vi 0, .slice none 0 0]) fp24 ze24 rfl rfl) ?_
   refine o_storeN (i := 2) (vs := [Vi 0, .slice none 0 0]) (cs' := [Vi 0, .slice none 0 0]) rfl rfl rfl sz24 rfl rfl rfl rfl ?_
   refine o_as rfl rfl ?_
   refine o_nil (q_then (c_ret ?_))
   refine q_then_ret ?_
   obtain ⟨c1, c2⟩ : _ ∧ _ := by first | exact Sk.hv1 (s := s) (by assumption) | exact Sk.hv2 (s := s) hckhok (by assumption) | exact Sk.hv3 (s := s) hckhok (by assumption)
   have hr0 : (0 : Int) = (Sk.halve s).wide := by
    first | (rw [c1]; done) | (rw [c1]; rfl) | exact c2.symm
   have hr1 : ([] : List (List Int)) = (Sk.halve s).counts := by
    first | (rw [c1]; done) | (rw [c1]; rfl) | exact c2.symm
   have hr2 : (4 : Int) = (Sk.halfErr s) := by
    first | (rw [c1]; done) | (rw [c1]; rfl) | exact c2.symm
   refine q_endM (p := (none, nc0)) (fun _ => False) (rt2 rfl (r_cell (i := 2) rfl rfl sh24 rfl) (r_tmp rfl)) (i := 4) rfl ?_ ?_ ?_
   ·exact (by have hcc := congr (congr (congrArg (fun (y0 : Int) (y1 : List (List Int)) (y2 : Int) => (.tuple #[.agg #[.int .i64 y0, .slice none y1.length 0], .int .i64 y2] : Value)) hr0) hr1) hr2; exact hcc)
   ·intro w hw b hb; exact hb.elim
   ·intro w hw; exact Eq.mp (congrArg (fun y => SlON tInt _ w none nc0 y) hr1) (SlON.nil tInt w)
  ·simp only [Bool.not_eq_false'] at hc10
   refine c_skip (q_then (c_seq (c_region ?_)))
   refine o_p (p_load_agg (i := 0) (vs := [Vi ((Sk.mapS (fun (x : Int) (y : Int) (z : Int) => (Sk.halfF x y z)) s).wide), .slice a6 ((Sk.mapS (fun (x : Int) (y : Int) (z : Int) => (Sk.halfF x y z)) s).counts).length c7.n]) rfl rfl sh24 rfl rfl) ?_
   refine o_storeN (i := 2) (vs := [Vi ((Sk.mapS (fun (x : Int) (y : Int) (z : Int) => (Sk.halfF x y z)) s).wide), .slice a6 ((Sk.mapS (fun (x : Int) (y : Int) (z : Int) => (Sk.halfF x y z)) s).counts).length c7.n]) (cs' := [Vi ((Sk.mapS (fun (x : Int) (y : Int) (z : Int) => (Sk.halfF x y z)) s).wide), .slice a6 ((Sk.mapS (fun (x : Int) (y : Int) (z : Int) => (Sk.halfF x y z)) s).counts).length c7.n]) rfl rfl rfl sz24 rfl rfl rfl rfl ?_
   refine o_as rfl rfl ?_
   refine o_nil (q_then (c_ret ?_))
   obtain ⟨c1, c2⟩ : _ ∧ _ := by first | exact Sk.hv1 (s := s) (by assumption) | exact Sk.hv2 (s := s) hckhok (by assumption) | exact Sk.hv3 (s := s) hckhok (by assumption)
   have hr0 : ((Sk.mapS (fun (x : Int) (y : Int) (z : Int) => (Sk.halfF x y z)) s).wide : Int) = (Sk.halve s).wide := by
    first | (rw [c1]; done) | (rw [c1]; rfl) | exact c2.symm
   have hr1 : ((Sk.mapS (fun (x : Int) (y : Int) (z : Int) => (Sk.halfF x y z)) s).counts : List (List Int)) = (Sk.halve s).counts := by
    first | (rw [c1]; done) | (rw [c1]; rfl) | exact c2.symm
   have hr2 : (0 : Int) = (Sk.halfErr s) := by
    first | (rw [c1]; done) | (rw [c1]; rfl) | exact c2.symm
   refine q_endM (p := (a6, c7)) S4 (rt2 rfl (r_cell (i := 2) rfl rfl sh24 rfl) (r_tmp rfl)) (i := 4) rfl ?_ ?_ ?_
   ·exact (by have hcc := congr (congr (congrArg (fun (y0 : Int) (y1 : List (List Int)) (y2 : Int) => (.tuple #[.agg #[.int .i64 y0, .slice a6 y1.length c7.n], .int .i64 y2] : Value)) hr0) hr1) hr2; exact hcc)
   ·exact fun w hw => hw.above (i := 4) (j := 1) (by decide) rfl rfl
   ·intro w hw; exact Eq.mp (congrArg (fun y => SlON tInt _ w a6 c7 y) hr1) ((hw.at (i := 1) rfl).here)

set_option maxHeartbeats 8000000 in
set_option maxRecDepth 100000 in
theorem stotal_ok (s : DSketch) (as_0 : Option Addr) (cs_0 : NC) : Fn0 Try.prog 17 [.agg #[Vi s.wide, .slice as_0 s.counts.length cs_0.n]] (fun w => RdN tInt w as_0 cs_0 s.counts) (.tuple #[Vi (Sk.total s), Vi (Sk.check s)]) := by
 refine fn0 (nt := 15) (F0 := [(0, .agg #[Vi s.wide, .slice as_0 s.counts.length cs_0.n])]) Try.func17 rfl Try.ntmps17 rfl rfl (fun w0 hpre => ?_)
 have hs_0 := hpre
 have hlhs_0 := hs_0.2.1
 refine c_seq (c_region ?_)
 refine o_box (v := .agg #[Vi s.wide, .slice as_0 s.counts.length cs_0.n]) rfl rfl (fun B1 => ?_)
 refine o_as rfl rfl ?_
 refine o_as rfl rfl ?_
 refine o_nil (q_then (c_seq (c_seq (c_region ?_))))
 refine o_p (p_load_agg (i := 0) (vs := [Vi s.wide, .slice as_0 s.counts.length cs_0.n]) rfl rfl sh24 rfl rfl) ?_
 refine o_call0 (v := Vi (Sk.check s)) rfl (scheck_ok s as_0 cs_0) hf26 (fun w hw => (rd_baseN (i := 1) rfl hs_0) w hw) rfl ?_
 refine o_as rfl rfl ?_
 refine o_nil (q_then (c_seq (c_region ?_)))
 refine o_mv rfl rfl ?_
 refine o_p (p_ne rfl rfl) ?_
 refine o_nil (q_then ?_)
 refine c_cond rfl (fun hc2 => ?_) (fun hc2 => ?_)
 ·simp only [bne_iff_ne, ne_eq] at hc2
  refine c_seq (c_region ?_)
  refine o_mv rfl rfl ?_
  refine o_as rfl rfl ?_
  refine o_as rfl rfl ?_
  refine o_nil (q_then (c_ret ?_))
  refine q_then_ret ?_
  have hr0 : (0 : Int) = (Sk.total s) := by
   first | exact (if_neg (by assumption)).symm | exact (if_pos (by assumption)).symm | (symm; assumption) | rfl
  refine q_end0 (v := .tuple #[Vi 0, Vi (Sk.check s)]) (rt2 rfl (r_tmp rfl) (r_tmp rfl)) (i := 1) rfl ?_
  exact (by have hcc := congrArg (fun (y0 : Int) => (.tuple #[.int .i64 y0, Vi (Sk.check s)] : Value)) hr0; exact hcc)
 ·simp only [bne_eq_false_iff_eq] at hc2
  have hckhok := hc2
  have hok := Sk.check_ok.1 hc2
  have hw1 := hok.w1
  have hw2 := hok.w2
  have hps := hok.pos
  have hfw := hok.few
  have hvals := hok.toForm.vals
  refine c_skip (q_then (c_seq (c_region ?_)))
  refine o_p (p_fieldAddr (j' := 1) rfl fo24_1 rfl) ?_
  refine o_p (p_load (i := 0) (v := .slice as_0 s.counts.length cs_0.n) rfl rfl sh22 rfl) ?_
  refine o_p (p_indexAddrN (T := tInt) (c := cs_0) (LL := s.counts) (i := 0) rfl rfl (rd_baseN (i := 1) rfl hs_0) Try.underlying22 sz37 (by first | omega | decide) (by first | omega | decide)) ?_
  refine o_p (p_loadN (T := tInt) (c := cs_0) (LL := s.counts) (i := 0) rfl (rd_baseN (i := 1) rfl hs_0) (by first | assumption | omega | decide) sh37) ?_
  refine o_call0 (v := Vi (Sk.sum (s.counts.getD 0 []))) rfl (ssum_ok (s.counts.getD 0 []) (cs_0.ra 0) (cs_0.rc 0) (by first | assumption | exact hy1.1.row (by omega) | exact hvals.row (by omega))) hf58 (fun w hw => (rd_rowN (i := 0) (rd_baseN (i := 1) rfl hs_0) (by first | assumption | omega)) w hw) rfl ?_
  refine o_as rfl rfl ?_
  refine o_as rfl rfl ?_
  refine o_nil (q_then (c_ret ?_))
  have hr0 : ((Sk.sum (s.counts.getD 0 [])) : Int) = (Sk.total s) := by
   first | exact (if_neg (by assumption)).symm | exact (if_pos (by assumption)).symm | (symm; assumption) | rfl
  have hr1 : (0 : Int) = (Sk.check s) := by
   first | exact (if_neg (by assumption)).symm | exact (if_pos (by assumption)).symm | (symm; assumption) | rfl
  refine q_end0 (v := .tuple #[Vi (Sk.sum (s.counts.getD 0 [])), Vi 0]) (rt2 rfl (r_tmp rfl) (r_tmp rfl)) (i := 1) rfl ?_
  exact (by have hcc := congr (congrArg (fun (y0 : Int) (y1 : Int) => (.tuple #[.int .i64 y0, .int .i64 y1] : Value)) hr0) hr1; exact hcc)
end Go.Proofs.Ytnmbkopnopaigaa
