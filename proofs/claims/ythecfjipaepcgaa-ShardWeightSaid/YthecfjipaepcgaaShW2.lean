/- The walks, printed by a program from the translation and a specification. -/
import Derived.Test.YthecfjipaepcgaaShF
import Derived.Test.YthecfjipaepcgaaShLaw
import Derived.Test.YthecfjipaepcgaaShW1
namespace Go.Proofs.Ythecfjipaepcgaa
open Go.Sx Go.RowKit
set_option maxHeartbeats 8000000 in
set_option maxRecDepth 100000 in
theorem ranked1_ok (a : Int) (b : Int) (Bq : Nat) (q : List DShard) (aq : Option Addr) (cq : Nat) (Bn : Nat) (nn : UInt64) (hy1 : Shd.Ok q ∧ (0 ≤ a ∧ a < (q.length : Int)) ∧ (0 ≤ b ∧ b < (q.length : Int))) : Fn0 Try.prog 96 [.int .i64 a, .int .i64 b, .pointer (some ⟨Bq, 0, none⟩), .pointer (some ⟨Bn, 0, none⟩)] (fun w => Rd tShard w aq cq q ∧ (box Bq [.slice aq q.length cq] 43).A w ∧ (box Bn [.int .u64 (nn.toNat : Int)] 59).A w) (.int .i64 (Shd.cmp q nn a b)) := by
  refine fn0 (nt := 20) (F0 := [(0, .int .i64 a), (1, .int .i64 b), (2, .pointer (some ⟨Bq, 0, none⟩)), (3, .pointer (some ⟨Bn, 0, none⟩))]) Try.func96 rfl Try.ntmps96 rfl rfl (fun w0 hpre => ?_)
  obtain ⟨hq, hBq, hBn⟩ := hpre
  have hlhq := hq.2.1
  refine c_seq ?_
  refine c_region ?_
  refine o_pure (p_assign (v := .int .i64 0) rfl) rfl rfl rfl ?_
  refine o_nil ?_
  refine q_then ?_
  refine c_seq ?_
  refine c_draw hmix (by kernel_rfl) ?_
  refine w_pure (p_loadR (v := .slice aq q.length cq) rfl (rbox_base (i := 0) rfl hBq) sh43 rfl) rfl rfl rfl ?_
  refine w_pure (p_move (v := .int .i64 b) rfl) rfl rfl rfl ?_
  refine w_pure (p_indexAddr (L := q) (T := tShard) (i := b) rfl rfl (rd_base (i := 0) rfl hq) Try.underlying43 sz50 (by omega) (by omega)) rfl rfl rfl ?_
  refine w_pure (p_loadEn (i := b.toNat) (T := tShard) (L := q) (vs := [.string ((q.getD b.toNat default).name), .int .i64 ((q.getD b.toNat default).weight)]) rfl (rd_base (i := 0) rfl hq) (by first | assumption | omega) sh50 (congrArg tShard.enc (getd_at (by first | assumption | omega) default))) rfl rfl rfl ?_
  refine w_pure (p_loadR (v := .int .u64 (nn.toNat : Int)) rfl (rbox_base (i := 0) rfl hBn) sh59 rfl) rfl rfl rfl ?_
  refine w_call0 (v := .int .u64 ((Shd.score (q.getD b.toNat default) nn).toNat : Int)) rfl (sscore_ok (q.getD b.toNat default) nn (by first | assumption | (have h9 := hy1.1.getd (i := a.toNat) (by omega); omega) | (have h9 := hy1.1.getd (i := b.toNat) (by omega); omega) | (have h9 := Shd.one_ok.1 (by assumption); omega) | (have h9 := Shd.one_ok.1 (And.left (by assumption)); omega))) hf71 (fun _ _ => trivial) rfl ?_
  refine w_pure (p_loadR (v := .slice aq q.length cq) rfl (rbox_base (i := 0) rfl hBq) sh43 rfl) rfl rfl rfl ?_
  refine w_pure (p_move (v := .int .i64 a) rfl) rfl rfl rfl ?_
  refine w_pure (p_indexAddr (L := q) (T := tShard) (i := a) rfl rfl (rd_base (i := 0) rfl hq) Try.underlying43 sz50 (by omega) (by omega)) rfl rfl rfl ?_
  refine w_pure (p_loadEn (i := a.toNat) (T := tShard) (L := q) (vs := [.string ((q.getD a.toNat default).name), .int .i64 ((q.getD a.toNat default).weight)]) rfl (rd_base (i := 0) rfl hq) (by first | assumption | omega) sh50 (congrArg tShard.enc (getd_at (by first | assumption | omega) default))) rfl rfl rfl ?_
  refine w_pure (p_loadR (v := .int .u64 (nn.toNat : Int)) rfl (rbox_base (i := 0) rfl hBn) sh59 rfl) rfl rfl rfl ?_
  refine w_call0 (v := .int .u64 ((Shd.score (q.getD a.toNat default) nn).toNat : Int)) rfl (sscore_ok (q.getD a.toNat default) nn (by first | assumption | (have h9 := hy1.1.getd (i := a.toNat) (by omega); omega) | (have h9 := hy1.1.getd (i := b.toNat) (by omega); omega) | (have h9 := Shd.one_ok.1 (by assumption); omega) | (have h9 := Shd.one_ok.1 (And.left (by assumption)); omega))) hf71 (fun _ _ => trivial) rfl ?_
  refine w_call0 (v := .int .i64 (cmpU (Shd.score (q.getD b.toNat default) nn) (Shd.score (q.getD a.toNat default) nn))) rfl (compareU_ok (Shd.score (q.getD b.toNat default) nn) (Shd.score (q.getD a.toNat default) nn)) hf97 (fun _ _ => trivial) rfl ?_
  refine w_pure (p_assign (v := .int .i64 (cmpU (Shd.score (q.getD b.toNat default) nn) (Shd.score (q.getD a.toNat default) nn))) rfl) rfl rfl rfl ?_
  refine w_nil ?_
  refine q_then ?_
  refine c_ret ?_
  have hr0 : ((cmpU (Shd.score (q.getD b.toNat default) nn) (Shd.score (q.getD a.toNat default) nn)) : Int) = (Shd.cmp q nn a b) := by
    rfl
  refine q_end0 (v := .int .i64 (cmpU (Shd.score (q.getD b.toNat default) nn) (Shd.score (q.getD a.toNat default) nn))) (rt1 rfl (r_tmp rfl)) (i := 0) rfl ?_
  exact (by have hcc := congrArg (fun (y0 : Int) => (.int .i64 y0 : Value)) hr0; exact hcc)

set_option maxHeartbeats 8000000 in
set_option maxRecDepth 100000 in
theorem insSort_ok (l : List Int) (al : Option Addr) (cl : Nat) (Sl : Nat → Prop) (a : Int) (b : Int) (Bq : Nat) (q : List DShard) (aq : Option Addr) (cq : Nat) (Bn : Nat) (nn : UInt64) (hy1 : (a = 0 ∨ a = (l.length : Int)) ∧ b = (l.length : Int) ∧ l.length ≤ 20) (hy2 : Shd.Ok q ∧ ∀ x ∈ l, 0 ≤ x ∧ x < (q.length : Int)) : FnX Try.prog 122 [.slice al l.length cl, .int .i64 a, .int .i64 b, .func (.func 96) #[] #[.pointer (some ⟨Bq, 0, none⟩), .pointer (some ⟨Bn, 0, none⟩)]] [own tInt Sl al cl l] (fun w => SlR tShard (outer w [own tInt Sl al cl l]).S w aq cq q ∧ ((box Bq [.slice aq q.length cq] 43).A w ∧ (outer w [own tInt Sl al cl l]).S Bq) ∧ ((box Bn [.int .u64 (nn.toNat : Int)] 59).A w ∧ (outer w [own tInt Sl al cl l]).S Bn)) (Unit) (fun p => .tuple #[]) (fun p => [own tInt Sl al cl (if a = 0 then St.isort (Shd.cmp q nn) l else l)]) := by
  refine fnX (nt := 53) (F0 := [(0, .slice al l.length cl), (1, .int .i64 a), (2, .int .i64 b), (3, .func (.func 96) #[] #[.pointer (some ⟨Bq, 0, none⟩), .pointer (some ⟨Bn, 0, none⟩)])]) Try.func122 rfl Try.ntmps122 rfl rfl (fun w0 hpre => ?_)
  obtain ⟨hq, hBq, hBn⟩ := hpre
  have hlhq := hq.2.1
  refine c_know (fun w hw => own_len (i := 1) (T := tInt) hw rfl) (fun hlown_l => ?_)
  obtain ⟨hcown_l, hlown_l⟩ := hlown_l
  refine c_seq ?_
  refine c_region ?_
  refine o_pure (p_move (v := .int .i64 a) rfl) rfl rfl rfl ?_
  refine o_pure (p_addb (p := a) (q := 1) rfl rfl (by omega)) rfl rfl rfl ?_
  refine o_pure (p_assign (v := .int .i64 (a + 1)) rfl) rfl rfl rfl ?_
  refine o_nil ?_
  refine q_then ?_
  refine c_block ?_
  refine c_loop (St := Int × List Int)
    (fun ⟨i, ls⟩ => [(0, .slice al ls.length cl), (1, .int .i64 a), (2, .int .i64 b), (3, .func (.func 96) #[] #[.pointer (some ⟨Bq, 0, none⟩), .pointer (some ⟨Bn, 0, none⟩)]), (8, .int .i64 i)])
    (fun ⟨i, ls⟩ => [outer w0 [own tInt Sl al cl l], own tInt Sl al cl ls])
    (fun ⟨i, ls⟩ => St.OI (Shd.cmp q nn) l a ls i)
    (fun ⟨i, ls⟩ => (b - i).toNat)
    ((a + 1), l) ?_ (Sub.cons rfl (Sub.cons rfl (Sub.cons rfl (Sub.cons rfl (Sub.cons rfl (Sub.nil _)))))) (fun _ hw => hw) ?_
  · exact St.OI.start (by omega)
  rintro ⟨i, ls⟩ hI K hK1
  have hO := hI
  have hOl := hI.len
  have hOlo := hI.lo
  show SC _ _ Try.prog 53 w0 _ _ [(0, .slice al ls.length cl), (1, .int .i64 a), (2, .int .i64 b), (3, .func (.func 96) #[] #[.pointer (some ⟨Bq, 0, none⟩), .pointer (some ⟨Bn, 0, none⟩)]), (8, .int .i64 i)] [outer w0 [own tInt Sl al cl l], own tInt Sl al cl ls]
  refine c_seq ?_
  refine c_seq ?_
  refine c_region ?_
  refine o_pure (p_move (v := .int .i64 i) rfl) rfl rfl rfl ?_
  refine o_pure (p_move (v := .int .i64 b) rfl) rfl rfl rfl ?_
  refine o_pure (p_lt (p := i) (q := b) rfl rfl) rfl rfl rfl ?_
  refine o_nil ?_
  refine q_then ?_
  refine c_cond (b := decide (i < b)) rfl (fun hc2 => ?_) (fun hc2 => ?_)
  · simp only [decide_eq_true_eq] at hc2
    refine c_skip ?_
    refine q_then ?_
    refine c_seq ?_
    refine c_block ?_
    refine c_seq ?_
    refine c_region ?_
    refine o_pure (p_move (v := .int .i64 i) rfl) rfl rfl rfl ?_
    refine o_pure (p_assign (v := .int .i64 i) rfl) rfl rfl rfl ?_
    refine o_nil ?_
    refine q_then ?_
    refine c_block ?_
    refine c_loop (St := Int × List Int)
      (fun ⟨j, lt⟩ => [(0, .slice al lt.length cl), (1, .int .i64 a), (2, .int .i64 b), (3, .func (.func 96) #[] #[.pointer (some ⟨Bq, 0, none⟩), .pointer (some ⟨Bn, 0, none⟩)]), (8, .int .i64 i), (9, .int .i64 j)])
      (fun ⟨j, lt⟩ => [outer w0 [own tInt Sl al cl l], own tInt Sl al cl lt])
      (fun ⟨j, lt⟩ => St.II (Shd.cmp q nn) l a lt i j)
      (fun ⟨j, lt⟩ => j.toNat)
      (i, ls) ?_ (Sub.cons rfl (Sub.cons rfl (Sub.cons rfl (Sub.cons rfl (Sub.cons rfl (Sub.cons rfl (Sub.nil _))))))) (fun _ hw => hw) ?_
    · exact St.II.start hO (by omega) (by omega)
    rintro ⟨j, lt⟩ hI K hK3
    have hIl := hI.len
    have hI0 := hI.a0
    have hI1 := hI.jlo
    have hI2 := hI.jhi
    have hI3 := hI.ilt
    show SC _ _ Try.prog 53 w0 _ _ [(0, .slice al lt.length cl), (1, .int .i64 a), (2, .int .i64 b), (3, .func (.func 96) #[] #[.pointer (some ⟨Bq, 0, none⟩), .pointer (some ⟨Bn, 0, none⟩)]), (8, .int .i64 i), (9, .int .i64 j)] [outer w0 [own tInt Sl al cl l], own tInt Sl al cl lt]
    refine c_seq ?_
    refine c_seq ?_
    refine c_draw hmix (by kernel_rfl) ?_
    refine w_pure (p_move (v := .int .i64 j) rfl) rfl rfl rfl ?_
    refine w_pure (p_move (v := .int .i64 a) rfl) rfl rfl rfl ?_
    refine w_pure (p_gt (p := j) (q := a) rfl rfl) rfl rfl rfl ?_
    refine w_pure (p_move (v := .bool (decide (a < j))) rfl) rfl rfl rfl ?_
    refine w_and (p := 34) 13 (decide ((Shd.cmp q nn (lt.getD j.toNat default) (lt.getD ((j - 1).toNat) default)) < 0)) ?_ ?_ ?_
    · intro hb4 hk
      simp only [decide_eq_true_eq] at hb4
      refine w_unguard 21 rfl rfl ?_
      refine w_pure (p_move (v := .func (.func 96) #[] #[.pointer (some ⟨Bq, 0, none⟩), .pointer (some ⟨Bn, 0, none⟩)]) rfl) rfl rfl rfl ?_
      refine w_unguard 21 rfl rfl ?_
      refine w_pure (p_move (v := .slice al lt.length cl) rfl) rfl rfl rfl ?_
      refine w_unguard 21 rfl rfl ?_
      refine w_pure (p_move (v := .int .i64 j) rfl) rfl rfl rfl ?_
      refine w_unguard 21 rfl rfl ?_
      refine w_pure (p_indexAddr (L := lt) (T := tInt) (i := j) rfl rfl (rd_own (i := 1) rfl) Try.underlying45 sz3 (by omega) (by omega)) rfl rfl rfl ?_
      refine w_unguard 21 rfl rfl ?_
      refine w_pure (p_loadE1 (i := j.toNat) (T := tInt) (L := lt) (v := .int .i64 (lt.getD j.toNat default)) rfl (rd_own (i := 1) rfl) (by first | assumption | omega) sh3 (congrArg tInt.enc (getd_at (by first | assumption | omega) default))) rfl rfl rfl ?_
      refine w_unguard 21 rfl rfl ?_
      refine w_pure (p_move (v := .slice al lt.length cl) rfl) rfl rfl rfl ?_
      refine w_unguard 21 rfl rfl ?_
      refine w_pure (p_move (v := .int .i64 j) rfl) rfl rfl rfl ?_
      refine w_unguard 21 rfl rfl ?_
      refine w_pure (p_subb (p := j) (q := 1) rfl rfl (by omega)) rfl rfl rfl ?_
      refine w_unguard 21 rfl rfl ?_
      refine w_pure (p_indexAddr (L := lt) (T := tInt) (i := (j - 1)) rfl rfl (rd_own (i := 1) rfl) Try.underlying45 sz3 (by omega) (by omega)) rfl rfl rfl ?_
      refine w_unguard 21 rfl rfl ?_
      refine w_pure (p_loadE1 (i := (j - 1).toNat) (T := tInt) (L := lt) (v := .int .i64 (lt.getD ((j - 1).toNat) default)) rfl (rd_own (i := 1) rfl) (by first | assumption | omega) sh3 (congrArg tInt.enc (getd_at (by first | assumption | omega) default))) rfl rfl rfl ?_
      refine w_unguard 21 rfl rfl ?_
      refine w_call0V (vs := [.int .i64 (lt.getD j.toNat default), .int .i64 (lt.getD ((j - 1).toNat) default)]) (caps := [.pointer (some ⟨Bq, 0, none⟩), .pointer (some ⟨Bn, 0, none⟩)]) (v := .int .i64 (Shd.cmp q nn (lt.getD j.toNat default) (lt.getD ((j - 1).toNat) default))) rfl rfl (ranked1_ok (lt.getD j.toNat default) (lt.getD ((j - 1).toNat) default) Bq q aq cq Bn nn (by first | assumption | exact ⟨hy2.1, hI.both hy2.2 (by omega)⟩)) hf96 (fun w hw => ⟨(rd_outer (i := 0) rfl hq) w hw, rbox_outer (i := 0) rfl hBq w hw, rbox_outer (i := 0) rfl hBn w hw⟩) rfl ?_
      refine w_unguard 21 rfl rfl ?_
      refine w_pure (p_lt (p := (Shd.cmp q nn (lt.getD j.toNat default) (lt.getD ((j - 1).toNat) default))) (q := 0) rfl rfl) rfl rfl rfl ?_
      refine w_pure (p_pick_true (u := .bool (decide ((Shd.cmp q nn (lt.getD j.toNat default) (lt.getD ((j - 1).toNat) default)) < 0))) rfl rfl) rfl rfl rfl ?_
      exact w_sub (Sub.cons rfl (Sub.skip rfl (Sub.skip rfl (Sub.skip rfl (Sub.skip rfl (Sub.skip rfl (Sub.skip rfl (Sub.skip rfl (Sub.skip rfl (Sub.skip rfl (Sub.skip rfl (Sub.skip rfl (Sub.skip rfl (Sub.skip rfl (Sub.skip rfl (Sub.refl _)))))))))))))))) hk
    · intro hb4 hk
      refine w_guard_no rfl 21 rfl rfl rfl rfl rfl ?_
      refine w_guard_no rfl 21 rfl rfl rfl rfl rfl ?_
      refine w_guard_no rfl 21 rfl rfl rfl rfl rfl ?_
      refine w_guard_no rfl 21 rfl rfl rfl rfl rfl ?_
      refine w_guard_no rfl 21 rfl rfl rfl rfl rfl ?_
      refine w_guard_no rfl 21 rfl rfl rfl rfl rfl ?_
      refine w_guard_no rfl 21 rfl rfl rfl rfl rfl ?_
      refine w_guard_no rfl 21 rfl rfl rfl rfl rfl ?_
      refine w_guard_no rfl 21 rfl rfl rfl rfl rfl ?_
      refine w_guard_no rfl 21 rfl rfl rfl rfl rfl ?_
      refine w_guard_no rfl 21 rfl rfl rfl rfl rfl ?_
      refine w_guard_no rfl 21 rfl rfl rfl rfl rfl ?_
      refine w_pure (p_pick_false (v := .bool false) rfl rfl) rfl rfl rfl ?_
      exact w_sub (Sub.cons rfl (Sub.skip rfl (Sub.skip rfl (Sub.skip rfl (Sub.skip rfl (Sub.skip rfl (Sub.skip rfl (Sub.skip rfl (Sub.skip rfl (Sub.skip rfl (Sub.skip rfl (Sub.skip rfl (Sub.skip rfl (Sub.skip rfl (Sub.skip rfl (Sub.refl _)))))))))))))))) hk
    refine w_nil ?_
    refine q_then ?_
    refine c_cond (b := (decide (a < j) && decide ((Shd.cmp q nn (lt.getD j.toNat default) (lt.getD ((j - 1).toNat) default)) < 0))) rfl (fun hc5 => ?_) (fun hc5 => ?_)
    · simp only [Bool.and_eq_true, decide_eq_true_eq] at hc5
      have hgo := hc5
      refine c_skip ?_
      refine q_then ?_
      refine c_seq ?_
      refine c_block ?_
      refine c_cut (G := Unit) (fun _ => [(0, .slice al lt.length cl), (1, .int .i64 a), (2, .int .i64 b), (3, .func (.func 96) #[] #[.pointer (some ⟨Bq, 0, none⟩), .pointer (some ⟨Bn, 0, none⟩)]), (8, .int .i64 i), (9, .int .i64 j)]) (fun _ => [outer w0 [own tInt Sl al cl l], own tInt Sl al cl ((lt.set j.toNat (lt.getD ((j - 1).toNat) default)).set ((j - 1).toNat) (lt.getD j.toNat default))]) (fun K hK7 => ?_) ?_
      · refine c_held hmix [outer w0 [own tInt Sl al cl l]] rfl rfl ?_
        refine h_take (i := 0) (ls := #[true, false, false, false, false, false, false, false, false, false, false, false, false, false, false, false, false, false]) rfl (by kernel_rfl) (by kernel_rfl) (by kernel_rfl) (fun _ _ _ h => h) (p_move (v := .slice al lt.length cl) rfl) rfl rfl rfl (fun _ hw => HeapIs.drop hw (List.Sublist.cons_cons _ (List.Sublist.cons _ (List.Sublist.slnil)))) rfl ?_
        refine h_take (i := 1) (ls := #[true, true, false, false, false, false, false, false, false, false, false, false, false, false, false, false, false, false]) rfl (by kernel_rfl) (by kernel_rfl) (by kernel_rfl) (fun _ _ _ h => h) (p_move (v := .int .i64 j) rfl) rfl rfl rfl (fun _ hw => HeapIs.drop hw (List.Sublist.cons_cons _ (List.Sublist.cons _ (List.Sublist.slnil)))) rfl ?_
        refine h_take (i := 2) (ls := #[true, true, true, false, false, false, false, false, false, false, false, false, false, false, false, false, false, false]) rfl (by kernel_rfl) (by kernel_rfl) (by kernel_rfl) (fun _ _ _ h => h) (p_move (v := .slice al lt.length cl) rfl) rfl rfl rfl (fun _ hw => HeapIs.drop hw (List.Sublist.cons_cons _ (List.Sublist.cons _ (List.Sublist.slnil)))) rfl ?_
        refine h_take (i := 3) (ls := #[true, true, true, true, false, false, false, false, false, false, false, false, false, false, false, false, false, false]) rfl (by kernel_rfl) (by kernel_rfl) (by kernel_rfl) (fun _ _ _ h => h) (p_move (v := .int .i64 j) rfl) rfl rfl rfl (fun _ hw => HeapIs.drop hw (List.Sublist.cons_cons _ (List.Sublist.cons _ (List.Sublist.slnil)))) rfl ?_
        refine h_take (i := 4) (ls := #[true, true, true, true, true, false, false, false, false, false, false, false, false, false, false, false, false, false]) rfl (by kernel_rfl) (by kernel_rfl) (by kernel_rfl) (fun _ _ _ h => h) (p_subb (p := j) (q := 1) rfl rfl (by omega)) rfl rfl rfl (fun _ hw => HeapIs.drop hw (List.Sublist.cons_cons _ (List.Sublist.cons _ (List.Sublist.slnil)))) rfl ?_
        refine h_take (i := 5) (ls := #[true, true, true, true, true, true, false, false, false, false, false, false, false, false, false, false, false, false]) rfl (by kernel_rfl) (by kernel_rfl) (by kernel_rfl) (fun _ _ _ h => h) (p_move (v := .slice al lt.length cl) rfl) rfl rfl rfl (fun _ hw => HeapIs.drop hw (List.Sublist.cons_cons _ (List.Sublist.cons _ (List.Sublist.slnil)))) rfl ?_
        refine h_take (i := 6) (ls := #[true, true, true, true, true, true, true, false, false, false, false, false, false, false, false, false, false, false]) rfl (by kernel_rfl) (by kernel_rfl) (by kernel_rfl) (fun _ _ _ h => h) (p_move (v := .int .i64 j) rfl) rfl rfl rfl (fun _ hw => HeapIs.drop hw (List.Sublist.cons_cons _ (List.Sublist.cons _ (List.Sublist.slnil)))) rfl ?_
        refine h_take (i := 7) (ls := #[true, true, true, true, true, true, true, true, false, false, false, false, false, false, false, false, false, false]) rfl (by kernel_rfl) (by kernel_rfl) (by kernel_rfl) (fun _ _ _ h => h) (p_subb (p := j) (q := 1) rfl rfl (by omega)) rfl rfl rfl (fun _ hw => HeapIs.drop hw (List.Sublist.cons_cons _ (List.Sublist.cons _ (List.Sublist.slnil)))) rfl ?_
        refine h_take (i := 10) (ls := #[true, true, true, true, true, true, true, true, false, false, true, false, false, false, false, false, false, false]) rfl (by kernel_rfl) (by kernel_rfl) (by kernel_rfl) (fun _ _ _ h => h) (p_move (v := .slice al lt.length cl) rfl) rfl rfl rfl (fun _ hw => HeapIs.drop hw (List.Sublist.cons_cons _ (List.Sublist.cons _ (List.Sublist.slnil)))) rfl ?_
        refine h_take (i := 11) (ls := #[true, true, true, true, true, true, true, true, false, false, true, true, false, false, false, false, false, false]) rfl (by kernel_rfl) (by kernel_rfl) (by kernel_rfl) (fun _ _ _ h => h) (p_move (v := .int .i64 j) rfl) rfl rfl rfl (fun _ hw => HeapIs.drop hw (List.Sublist.cons_cons _ (List.Sublist.cons _ (List.Sublist.slnil)))) rfl ?_
        refine h_two (i := 8) (j := 12) (ls := #[true, true, true, true, true, true, true, true, true, false, true, true, false, false, false, false, false, false]) (ls' := #[true, true, true, true, true, true, true, true, false, false, true, true, true, false, false, false, false, false]) (by kernel_rfl) rfl rfl rfl rfl ?_ ?_
        · refine o_pure (p_indexAddr (L := lt) (T := tInt) (i := (j - 1)) rfl rfl (rd_own (i := 1) rfl) Try.underlying45 sz3 (by omega) (by omega)) rfl rfl rfl ?_
          refine o_nil ?_
          refine h_next (fun _ hw => HeapIs.drop hw (List.Sublist.cons_cons _ (List.Sublist.cons _ (List.Sublist.slnil)))) ?_
          refine h_two (i := 9) (j := 12) (ls := #[true, true, true, true, true, true, true, true, true, true, true, true, false, false, false, false, false, false]) (ls' := #[true, true, true, true, true, true, true, true, true, false, true, true, true, false, false, false, false, false]) (by kernel_rfl) rfl rfl rfl rfl ?_ ?_
          · refine o_pure (p_loadE1 (i := (j - 1).toNat) (T := tInt) (L := lt) (v := .int .i64 (lt.getD ((j - 1).toNat) default)) rfl (rd_own (i := 1) rfl) (by first | assumption | omega) sh3 (congrArg tInt.enc (getd_at (by first | assumption | omega) default))) rfl rfl rfl ?_
            refine o_nil ?_
            refine h_next (fun _ hw => HeapIs.drop hw (List.Sublist.cons_cons _ (List.Sublist.cons _ (List.Sublist.slnil)))) ?_
            refine h_one (i := 12) (ls := #[true, true, true, true, true, true, true, true, true, true, true, true, true, false, false, false, false, false]) (by kernel_rfl) rfl rfl ?_
            refine o_pure (p_indexAddr (L := lt) (T := tInt) (i := j) rfl rfl (rd_own (i := 1) rfl) Try.underlying45 sz3 (by omega) (by omega)) rfl rfl rfl ?_
            refine o_nil ?_
            refine h_next (fun _ hw => HeapIs.drop hw (List.Sublist.cons_cons _ (List.Sublist.cons _ (List.Sublist.slnil)))) ?_
            refine h_one (i := 13) (ls := #[true, true, true, true, true, true, true, true, true, true, true, true, true, true, false, false, false, false]) (by kernel_rfl) rfl rfl ?_
            refine o_pure (p_loadE1 (i := j.toNat) (T := tInt) (L := lt) (v := .int .i64 (lt.getD j.toNat default)) rfl (rd_own (i := 1) rfl) (by first | assumption | omega) sh3 (congrArg tInt.enc (getd_at (by first | assumption | omega) default))) rfl rfl rfl ?_
            refine o_nil ?_
            refine h_next (fun _ hw => HeapIs.drop hw (List.Sublist.cons_cons _ (List.Sublist.cons _ (List.Sublist.slnil)))) ?_
            refine h_one (i := 14) (ls := #[true, true, true, true, true, true, true, true, true, true, true, true, true, true, true, false, false, false]) (by kernel_rfl) rfl rfl ?_
            refine o_pure (p_indexAddr (L := lt) (T := tInt) (i := j) rfl rfl (rd_own (i := 1) rfl) Try.underlying45 sz3 (by omega) (by omega)) rfl rfl rfl ?_
            refine o_nil ?_
            refine h_next (fun _ hw => HeapIs.drop hw (List.Sublist.cons_cons _ (List.Sublist.cons _ (List.Sublist.slnil)))) ?_
            refine h_one (i := 15) (ls := #[true, true, true, true, true, true, true, true, true, true, true, true, true, true, true, true, false, false]) (by kernel_rfl) rfl rfl ?_
            refine o_storeW (i := 1) (T := tInt) (idx := j.toNat) (v := .int .i64 (lt.getD ((j - 1).toNat) default)) (vs := [.int .i64 (lt.getD ((j - 1).toNat) default)]) (z := (lt.getD ((j - 1).toNat) default)) rfl rfl rfl rfl (by first | assumption | omega | (simp only [List.length_set]; omega)) sz3 rfl rfl rfl rfl (Sub.refl _) ?_
            refine o_nil ?_
            refine h_next (fun _ hw => HeapIs.drop hw (List.Sublist.cons_cons _ (List.Sublist.cons _ (List.Sublist.slnil)))) ?_
            refine h_one (i := 16) (ls := #[true, true, true, true, true, true, true, true, true, true, true, true, true, true, true, true, true, false]) (by kernel_rfl) rfl rfl ?_
            refine o_pure (p_indexAddrS (T := tInt) (i := (j - 1)) (j := 1) (m := lt.length) rfl rfl rfl (by simp only [List.length_set]) Try.underlying45 sz3 (by omega) (by omega)) rfl rfl rfl ?_
            refine o_nil ?_
            refine h_next (fun _ hw => HeapIs.drop hw (List.Sublist.cons_cons _ (List.Sublist.cons _ (List.Sublist.slnil)))) ?_
            refine h_one (i := 17) (ls := #[true, true, true, true, true, true, true, true, true, true, true, true, true, true, true, true, true, true]) (by kernel_rfl) rfl rfl ?_
            refine o_storeW (i := 1) (T := tInt) (idx := (j - 1).toNat) (v := .int .i64 (lt.getD j.toNat default)) (vs := [.int .i64 (lt.getD j.toNat default)]) (z := (lt.getD j.toNat default)) rfl rfl rfl rfl (by first | assumption | omega | (simp only [List.length_set]; omega)) sz3 rfl rfl rfl rfl (Sub.refl _) ?_
            refine o_nil ?_
            refine h_next (fun _ hw => HeapIs.drop hw (List.Sublist.cons_cons _ (List.Sublist.cons _ (List.Sublist.slnil)))) ?_
            refine h_done (by kernel_rfl) ?_
            refine q_kont hK7 () (Sub.cons rfl (Sub.cons rfl (Sub.cons rfl (Sub.cons rfl (Sub.cons rfl (Sub.cons rfl (Sub.nil _))))))) (fun _ hw => HeapIs.pick hw [0, 1] (by decide) rfl)
          · refine o_pure (p_indexAddr (L := lt) (T := tInt) (i := j) rfl rfl (rd_own (i := 1) rfl) Try.underlying45 sz3 (by omega) (by omega)) rfl rfl rfl ?_
            refine o_nil ?_
            refine h_next (fun _ hw => HeapIs.drop hw (List.Sublist.cons_cons _ (List.Sublist.cons _ (List.Sublist.slnil)))) ?_
            refine h_two (i := 9) (j := 13) (ls := #[true, true, true, true, true, true, true, true, true, true, true, true, true, false, false, false, false, false]) (ls' := #[true, true, true, true, true, true, true, true, true, false, true, true, true, true, false, false, false, false]) (by kernel_rfl) rfl rfl rfl rfl ?_ ?_
            · refine o_pure (p_loadE1 (i := (j - 1).toNat) (T := tInt) (L := lt) (v := .int .i64 (lt.getD ((j - 1).toNat) default)) rfl (rd_own (i := 1) rfl) (by first | assumption | omega) sh3 (congrArg tInt.enc (getd_at (by first | assumption | omega) default))) rfl rfl rfl ?_
              refine o_nil ?_
              refine h_next (fun _ hw => HeapIs.drop hw (List.Sublist.cons_cons _ (List.Sublist.cons _ (List.Sublist.slnil)))) ?_
              refine h_one (i := 13) (ls := #[true, true, true, true, true, true, true, true, true, true, true, true, true, true, false, false, false, false]) (by kernel_rfl) rfl rfl ?_
              refine o_pure (p_loadE1 (i := j.toNat) (T := tInt) (L := lt) (v := .int .i64 (lt.getD j.toNat default)) rfl (rd_own (i := 1) rfl) (by first | assumption | omega) sh3 (congrArg tInt.enc (getd_at (by first | assumption | omega) default))) rfl rfl rfl ?_
              refine o_nil ?_
              refine h_next (fun _ hw => HeapIs.drop hw (List.Sublist.cons_cons _ (List.Sublist.cons _ (List.Sublist.slnil)))) ?_
              refine h_one (i := 14) (ls := #[true, true, true, true, true, true, true, true, true, true, true, true, true, true, true, false, false, false]) (by kernel_rfl) rfl rfl ?_
              refine o_pure (p_indexAddr (L := lt) (T := tInt) (i := j) rfl rfl (rd_own (i := 1) rfl) Try.underlying45 sz3 (by omega) (by omega)) rfl rfl rfl ?_
              refine o_nil ?_
              refine h_next (fun _ hw => HeapIs.drop hw (List.Sublist.cons_cons _ (List.Sublist.cons _ (List.Sublist.slnil)))) ?_
              refine h_one (i := 15) (ls := #[true, true, true, true, true, true, true, true, true, true, true, true, true, true, true, true, false, false]) (by kernel_rfl) rfl rfl ?_
              refine o_storeW (i := 1) (T := tInt) (idx := j.toNat) (v := .int .i64 (lt.getD ((j - 1).toNat) default)) (vs := [.int .i64 (lt.getD ((j - 1).toNat) default)]) (z := (lt.getD ((j - 1).toNat) default)) rfl rfl rfl rfl (by first | assumption | omega | (simp only [List.length_set]; omega)) sz3 rfl rfl rfl rfl (Sub.refl _) ?_
              refine o_nil ?_
              refine h_next (fun _ hw => HeapIs.drop hw (List.Sublist.cons_cons _ (List.Sublist.cons _ (List.Sublist.slnil)))) ?_
              refine h_one (i := 16) (ls := #[true, true, true, true, true, true, true, true, true, true, true, true, true, true, true, true, true, false]) (by kernel_rfl) rfl rfl ?_
              refine o_pure (p_indexAddrS (T := tInt) (i := (j - 1)) (j := 1) (m := lt.length) rfl rfl rfl (by simp only [List.length_set]) Try.underlying45 sz3 (by omega) (by omega)) rfl rfl rfl ?_
              refine o_nil ?_
              refine h_next (fun _ hw => HeapIs.drop hw (List.Sublist.cons_cons _ (List.Sublist.cons _ (List.Sublist.slnil)))) ?_
              refine h_one (i := 17) (ls := #[true, true, true, true, true, true, true, true, true, true, true, true, true, true, true, true, true, true]) (by kernel_rfl) rfl rfl ?_
              refine o_storeW (i := 1) (T := tInt) (idx := (j - 1).toNat) (v := .int .i64 (lt.getD j.toNat default)) (vs := [.int .i64 (lt.getD j.toNat default)]) (z := (lt.getD j.toNat default)) rfl rfl rfl rfl (by first | assumption | omega | (simp only [List.length_set]; omega)) sz3 rfl rfl rfl rfl (Sub.refl _) ?_
              refine o_nil ?_
              refine h_next (fun _ hw => HeapIs.drop hw (List.Sublist.cons_cons _ (List.Sublist.cons _ (List.Sublist.slnil)))) ?_
              refine h_done (by kernel_rfl) ?_
              refine q_kont hK7 () (Sub.cons rfl (Sub.cons rfl (Sub.cons rfl (Sub.cons rfl (Sub.cons rfl (Sub.cons rfl (Sub.nil _))))))) (fun _ hw => HeapIs.pick hw [0, 1] (by decide) rfl)
            · refine o_pure (p_loadE1 (i := j.toNat) (T := tInt) (L := lt) (v := .int .i64 (lt.getD j.toNat default)) rfl (rd_own (i := 1) rfl) (by first | assumption | omega) sh3 (congrArg tInt.enc (getd_at (by first | assumption | omega) default))) rfl rfl rfl ?_
              refine o_nil ?_
              refine h_next (fun _ hw => HeapIs.drop hw (List.Sublist.cons_cons _ (List.Sublist.cons _ (List.Sublist.slnil)))) ?_
              refine h_one (i := 9) (ls := #[true, true, true, true, true, true, true, true, true, true, true, true, true, true, false, false, false, false]) (by kernel_rfl) rfl rfl ?_
              refine o_pure (p_loadE1 (i := (j - 1).toNat) (T := tInt) (L := lt) (v := .int .i64 (lt.getD ((j - 1).toNat) default)) rfl (rd_own (i := 1) rfl) (by first | assumption | omega) sh3 (congrArg tInt.enc (getd_at (by first | assumption | omega) default))) rfl rfl rfl ?_
              refine o_nil ?_
              refine h_next (fun _ hw => HeapIs.drop hw (List.Sublist.cons_cons _ (List.Sublist.cons _ (List.Sublist.slnil)))) ?_
              refine h_one (i := 14) (ls := #[true, true, true, true, true, true, true, true, true, true, true, true, true, true, true, false, false, false]) (by kernel_rfl) rfl rfl ?_
              refine o_pure (p_indexAddr (L := lt) (T := tInt) (i := j) rfl rfl (rd_own (i := 1) rfl) Try.underlying45 sz3 (by omega) (by omega)) rfl rfl rfl ?_
              refine o_nil ?_
              refine h_next (fun _ hw => HeapIs.drop hw (List.Sublist.cons_cons _ (List.Sublist.cons _ (List.Sublist.slnil)))) ?_
              refine h_one (i := 15) (ls := #[true, true, true, true, true, true, true, true, true, true, true, true, true, true, true, true, false, false]) (by kernel_rfl) rfl rfl ?_
              refine o_storeW (i := 1) (T := tInt) (idx := j.toNat) (v := .int .i64 (lt.getD ((j - 1).toNat) default)) (vs := [.int .i64 (lt.getD ((j - 1).toNat) default)]) (z := (lt.getD ((j - 1).toNat) default)) rfl rfl rfl rfl (by first | assumption | omega | (simp only [List.length_set]; omega)) sz3 rfl rfl rfl rfl (Sub.refl _) ?_
              refine o_nil ?_
              refine h_next (fun _ hw => HeapIs.drop hw (List.Sublist.cons_cons _ (List.Sublist.cons _ (List.Sublist.slnil)))) ?_
              refine h_one (i := 16) (ls := #[true, true, true, true, true, true, true, true, true, true, true, true, true, true, true, true, true, false]) (by kernel_rfl) rfl rfl ?_
              refine o_pure (p_indexAddrS (T := tInt) (i := (j - 1)) (j := 1) (m := lt.length) rfl rfl rfl (by simp only [List.length_set]) Try.underlying45 sz3 (by omega) (by omega)) rfl rfl rfl ?_
              refine o_nil ?_
              refine h_next (fun _ hw => HeapIs.drop hw (List.Sublist.cons_cons _ (List.Sublist.cons _ (List.Sublist.slnil)))) ?_
              refine h_one (i := 17) (ls := #[true, true, true, true, true, true, true, true, true, true, true, true, true, true, true, true, true, true]) (by kernel_rfl) rfl rfl ?_
              refine o_storeW (i := 1) (T := tInt) (idx := (j - 1).toNat) (v := .int .i64 (lt.getD j.toNat default)) (vs := [.int .i64 (lt.getD j.toNat default)]) (z := (lt.getD j.toNat default)) rfl rfl rfl rfl (by first | assumption | omega | (simp only [List.length_set]; omega)) sz3 rfl rfl rfl rfl (Sub.refl _) ?_
              refine o_nil ?_
              refine h_next (fun _ hw => HeapIs.drop hw (List.Sublist.cons_cons _ (List.Sublist.cons _ (List.Sublist.slnil)))) ?_
              refine h_done (by kernel_rfl) ?_
              refine q_kont hK7 () (Sub.cons rfl (Sub.cons rfl (Sub.cons rfl (Sub.cons rfl (Sub.cons rfl (Sub.cons rfl (Sub.nil _))))))) (fun _ hw => HeapIs.pick hw [0, 1] (by decide) rfl)
        · refine o_pure (p_indexAddr (L := lt) (T := tInt) (i := j) rfl rfl (rd_own (i := 1) rfl) Try.underlying45 sz3 (by omega) (by omega)) rfl rfl rfl ?_
          refine o_nil ?_
          refine h_next (fun _ hw => HeapIs.drop hw (List.Sublist.cons_cons _ (List.Sublist.cons _ (List.Sublist.slnil)))) ?_
          refine h_two (i := 8) (j := 13) (ls := #[true, true, true, true, true, true, true, true, true, false, true, true, true, false, false, false, false, false]) (ls' := #[true, true, true, true, true, true, true, true, false, false, true, true, true, true, false, false, false, false]) (by kernel_rfl) rfl rfl rfl rfl ?_ ?_
          · refine o_pure (p_indexAddr (L := lt) (T := tInt) (i := (j - 1)) rfl rfl (rd_own (i := 1) rfl) Try.underlying45 sz3 (by omega) (by omega)) rfl rfl rfl ?_
            refine o_nil ?_
            refine h_next (fun _ hw => HeapIs.drop hw (List.Sublist.cons_cons _ (List.Sublist.cons _ (List.Sublist.slnil)))) ?_
            refine h_two (i := 9) (j := 13) (ls := #[true, true, true, true, true, true, true, true, true, true, true, true, true, false, false, false, false, false]) (ls' := #[true, true, true, true, true, true, true, true, true, false, true, true, true, true, false, false, false, false]) (by kernel_rfl) rfl rfl rfl rfl ?_ ?_
            · refine o_pure (p_loadE1 (i := (j - 1).toNat) (T := tInt) (L := lt) (v := .int .i64 (lt.getD ((j - 1).toNat) default)) rfl (rd_own (i := 1) rfl) (by first | assumption | omega) sh3 (congrArg tInt.enc (getd_at (by first | assumption | omega) default))) rfl rfl rfl ?_
              refine o_nil ?_
              refine h_next (fun _ hw => HeapIs.drop hw (List.Sublist.cons_cons _ (List.Sublist.cons _ (List.Sublist.slnil)))) ?_
              refine h_one (i := 13) (ls := #[true, true, true, true, true, true, true, true, true, true, true, true, true, true, false, false, false, false]) (by kernel_rfl) rfl rfl ?_
              refine o_pure (p_loadE1 (i := j.toNat) (T := tInt) (L := lt) (v := .int .i64 (lt.getD j.toNat default)) rfl (rd_own (i := 1) rfl) (by first | assumption | omega) sh3 (congrArg tInt.enc (getd_at (by first | assumption | omega) default))) rfl rfl rfl ?_
              refine o_nil ?_
              refine h_next (fun _ hw => HeapIs.drop hw (List.Sublist.cons_cons _ (List.Sublist.cons _ (List.Sublist.slnil)))) ?_
              refine h_one (i := 14) (ls := #[true, true, true, true, true, true, true, true, true, true, true, true, true, true, true, false, false, false]) (by kernel_rfl) rfl rfl ?_
              refine o_pure (p_indexAddr (L := lt) (T := tInt) (i := j) rfl rfl (rd_own (i := 1) rfl) Try.underlying45 sz3 (by omega) (by omega)) rfl rfl rfl ?_
              refine o_nil ?_
              refine h_next (fun _ hw => HeapIs.drop hw (List.Sublist.cons_cons _ (List.Sublist.cons _ (List.Sublist.slnil)))) ?_
              refine h_one (i := 15) (ls := #[true, true, true, true, true, true, true, true, true, true, true, true, true, true, true, true, false, false]) (by kernel_rfl) rfl rfl ?_
              refine o_storeW (i := 1) (T := tInt) (idx := j.toNat) (v := .int .i64 (lt.getD ((j - 1).toNat) default)) (vs := [.int .i64 (lt.getD ((j - 1).toNat) default)]) (z := (lt.getD ((j - 1).toNat) default)) rfl rfl rfl rfl (by first | assumption | omega | (simp only [List.length_set]; omega)) sz3 rfl rfl rfl rfl (Sub.refl _) ?_
              refine o_nil ?_
              refine h_next (fun _ hw => HeapIs.drop hw (List.Sublist.cons_cons _ (List.Sublist.cons _ (List.Sublist.slnil)))) ?_
              refine h_one (i := 16) (ls := #[true, true, true, true, true, true, true, true, true, true, true, true, true, true, true, true, true, false]) (by kernel_rfl) rfl rfl ?_
              refine o_pure (p_indexAddrS (T := tInt) (i := (j - 1)) (j := 1) (m := lt.length) rfl rfl rfl (by simp only [List.length_set]) Try.underlying45 sz3 (by omega) (by omega)) rfl rfl rfl ?_
              refine o_nil ?_
              refine h_next (fun _ hw => HeapIs.drop hw (List.Sublist.cons_cons _ (List.Sublist.cons _ (List.Sublist.slnil)))) ?_
              refine h_one (i := 17) (ls := #[true, true, true, true, true, true, true, true, true, true, true, true, true, true, true, true, true, true]) (by kernel_rfl) rfl rfl ?_
              refine o_storeW (i := 1) (T := tInt) (idx := (j - 1).toNat) (v := .int .i64 (lt.getD j.toNat default)) (vs := [.int .i64 (lt.getD j.toNat default)]) (z := (lt.getD j.toNat default)) rfl rfl rfl rfl (by first | assumption | omega | (simp only [List.length_set]; omega)) sz3 rfl rfl rfl rfl (Sub.refl _) ?_
              refine o_nil ?_
              refine h_next (fun _ hw => HeapIs.drop hw (List.Sublist.cons_cons _ (List.Sublist.cons _ (List.Sublist.slnil)))) ?_
              refine h_done (by kernel_rfl) ?_
              refine q_kont hK7 () (Sub.cons rfl (Sub.cons rfl (Sub.cons rfl (Sub.cons rfl (Sub.cons rfl (Sub.cons rfl (Sub.nil _))))))) (fun _ hw => HeapIs.pick hw [0, 1] (by decide) rfl)
            · refine o_pure (p_loadE1 (i := j.toNat) (T := tInt) (L := lt) (v := .int .i64 (lt.getD j.toNat default)) rfl (rd_own (i := 1) rfl) (by first | assumption | omega) sh3 (congrArg tInt.enc (getd_at (by first | assumption | omega) default))) rfl rfl rfl ?_
              refine o_nil ?_
              refine h_next (fun _ hw => HeapIs.drop hw (List.Sublist.cons_cons _ (List.Sublist.cons _ (List.Sublist.slnil)))) ?_
              refine h_one (i := 9) (ls := #[true, true, true, true, true, true, true, true, true, true, true, true, true, true, false, false, false, false]) (by kernel_rfl) rfl rfl ?_
              refine o_pure (p_loadE1 (i := (j - 1).toNat) (T := tInt) (L := lt) (v := .int .i64 (lt.getD ((j - 1).toNat) default)) rfl (rd_own (i := 1) rfl) (by first | assumption | omega) sh3 (congrArg tInt.enc (getd_at (by first | assumption | omega) default))) rfl rfl rfl ?_
              refine o_nil ?_
              refine h_next (fun _ hw => HeapIs.drop hw (List.Sublist.cons_cons _ (List.Sublist.cons _ (List.Sublist.slnil)))) ?_
              refine h_one (i := 14) (ls := #[true, true, true, true, true, true, true, true, true, true, true, true, true, true, true, false, false, false]) (by kernel_rfl) rfl rfl ?_
              refine o_pure (p_indexAddr (L := lt) (T := tInt) (i := j) rfl rfl (rd_own (i := 1) rfl) Try.underlying45 sz3 (by omega) (by omega)) rfl rfl rfl ?_
              refine o_nil ?_
              refine h_next (fun _ hw => HeapIs.drop hw (List.Sublist.cons_cons _ (List.Sublist.cons _ (List.Sublist.slnil)))) ?_
              refine h_one (i := 15) (ls := #[true, true, true, true, true, true, true, true, true, true, true, true, true, true, true, true, false, false]) (by kernel_rfl) rfl rfl ?_
              refine o_storeW (i := 1) (T := tInt) (idx := j.toNat) (v := .int .i64 (lt.getD ((j - 1).toNat) default)) (vs := [.int .i64 (lt.getD ((j - 1).toNat) default)]) (z := (lt.getD ((j - 1).toNat) default)) rfl rfl rfl rfl (by first | assumption | omega | (simp only [List.length_set]; omega)) sz3 rfl rfl rfl rfl (Sub.refl _) ?_
              refine o_nil ?_
              refine h_next (fun _ hw => HeapIs.drop hw (List.Sublist.cons_cons _ (List.Sublist.cons _ (List.Sublist.slnil)))) ?_
              refine h_one (i := 16) (ls := #[true, true, true, true, true, true, true, true, true, true, true, true, true, true, true, true, true, false]) (by kernel_rfl) rfl rfl ?_
              refine o_pure (p_indexAddrS (T := tInt) (i := (j - 1)) (j := 1) (m := lt.length) rfl rfl rfl (by simp only [List.length_set]) Try.underlying45 sz3 (by omega) (by omega)) rfl rfl rfl ?_
              refine o_nil ?_
              refine h_next (fun _ hw => HeapIs.drop hw (List.Sublist.cons_cons _ (List.Sublist.cons _ (List.Sublist.slnil)))) ?_
              refine h_one (i := 17) (ls := #[true, true, true, true, true, true, true, true, true, true, true, true, true, true, true, true, true, true]) (by kernel_rfl) rfl rfl ?_
              refine o_storeW (i := 1) (T := tInt) (idx := (j - 1).toNat) (v := .int .i64 (lt.getD j.toNat default)) (vs := [.int .i64 (lt.getD j.toNat default)]) (z := (lt.getD j.toNat default)) rfl rfl rfl rfl (by first | assumption | omega | (simp only [List.length_set]; omega)) sz3 rfl rfl rfl rfl (Sub.refl _) ?_
              refine o_nil ?_
              refine h_next (fun _ hw => HeapIs.drop hw (List.Sublist.cons_cons _ (List.Sublist.cons _ (List.Sublist.slnil)))) ?_
              refine h_done (by kernel_rfl) ?_
              refine q_kont hK7 () (Sub.cons rfl (Sub.cons rfl (Sub.cons rfl (Sub.cons rfl (Sub.cons rfl (Sub.cons rfl (Sub.nil _))))))) (fun _ hw => HeapIs.pick hw [0, 1] (by decide) rfl)
          · refine o_pure (p_loadE1 (i := j.toNat) (T := tInt) (L := lt) (v := .int .i64 (lt.getD j.toNat default)) rfl (rd_own (i := 1) rfl) (by first | assumption | omega) sh3 (congrArg tInt.enc (getd_at (by first | assumption | omega) default))) rfl rfl rfl ?_
            refine o_nil ?_
            refine h_next (fun _ hw => HeapIs.drop hw (List.Sublist.cons_cons _ (List.Sublist.cons _ (List.Sublist.slnil)))) ?_
            refine h_one (i := 8) (ls := #[true, true, true, true, true, true, true, true, true, false, true, true, true, true, false, false, false, false]) (by kernel_rfl) rfl rfl ?_
            refine o_pure (p_indexAddr (L := lt) (T := tInt) (i := (j - 1)) rfl rfl (rd_own (i := 1) rfl) Try.underlying45 sz3 (by omega) (by omega)) rfl rfl rfl ?_
            refine o_nil ?_
            refine h_next (fun _ hw => HeapIs.drop hw (List.Sublist.cons_cons _ (List.Sublist.cons _ (List.Sublist.slnil)))) ?_
            refine h_one (i := 9) (ls := #[true, true, true, true, true, true, true, true, true, true, true, true, true, true, false, false, false, false]) (by kernel_rfl) rfl rfl ?_
            refine o_pure (p_loadE1 (i := (j - 1).toNat) (T := tInt) (L := lt) (v := .int .i64 (lt.getD ((j - 1).toNat) default)) rfl (rd_own (i := 1) rfl) (by first | assumption | omega) sh3 (congrArg tInt.enc (getd_at (by first | assumption | omega) default))) rfl rfl rfl ?_
            refine o_nil ?_
            refine h_next (fun _ hw => HeapIs.drop hw (List.Sublist.cons_cons _ (List.Sublist.cons _ (List.Sublist.slnil)))) ?_
            refine h_one (i := 14) (ls := #[true, true, true, true, true, true, true, true, true, true, true, true, true, true, true, false, false, false]) (by kernel_rfl) rfl rfl ?_
            refine o_pure (p_indexAddr (L := lt) (T := tInt) (i := j) rfl rfl (rd_own (i := 1) rfl) Try.underlying45 sz3 (by omega) (by omega)) rfl rfl rfl ?_
            refine o_nil ?_
            refine h_next (fun _ hw => HeapIs.drop hw (List.Sublist.cons_cons _ (List.Sublist.cons _ (List.Sublist.slnil)))) ?_
            refine h_one (i := 15) (ls := #[true, true, true, true, true, true, true, true, true, true, true, true, true, true, true, true, false, false]) (by kernel_rfl) rfl rfl ?_
            refine o_storeW (i := 1) (T := tInt) (idx := j.toNat) (v := .int .i64 (lt.getD ((j - 1).toNat) default)) (vs := [.int .i64 (lt.getD ((j - 1).toNat) default)]) (z := (lt.getD ((j - 1).toNat) default)) rfl rfl rfl rfl (by first | assumption | omega | (simp only [List.length_set]; omega)) sz3 rfl rfl rfl rfl (Sub.refl _) ?_
            refine o_nil ?_
            refine h_next (fun _ hw => HeapIs.drop hw (List.Sublist.cons_cons _ (List.Sublist.cons _ (List.Sublist.slnil)))) ?_
            refine h_one (i := 16) (ls := #[true, true, true, true, true, true, true, true, true, true, true, true, true, true, true, true, true, false]) (by kernel_rfl) rfl rfl ?_
            refine o_pure (p_indexAddrS (T := tInt) (i := (j - 1)) (j := 1) (m := lt.length) rfl rfl rfl (by simp only [List.length_set]) Try.underlying45 sz3 (by omega) (by omega)) rfl rfl rfl ?_
            refine o_nil ?_
            refine h_next (fun _ hw => HeapIs.drop hw (List.Sublist.cons_cons _ (List.Sublist.cons _ (List.Sublist.slnil)))) ?_
            refine h_one (i := 17) (ls := #[true, true, true, true, true, true, true, true, true, true, true, true, true, true, true, true, true, true]) (by kernel_rfl) rfl rfl ?_
            refine o_storeW (i := 1) (T := tInt) (idx := (j - 1).toNat) (v := .int .i64 (lt.getD j.toNat default)) (vs := [.int .i64 (lt.getD j.toNat default)]) (z := (lt.getD j.toNat default)) rfl rfl rfl rfl (by first | assumption | omega | (simp only [List.length_set]; omega)) sz3 rfl rfl rfl rfl (Sub.refl _) ?_
            refine o_nil ?_
            refine h_next (fun _ hw => HeapIs.drop hw (List.Sublist.cons_cons _ (List.Sublist.cons _ (List.Sublist.slnil)))) ?_
            refine h_done (by kernel_rfl) ?_
            refine q_kont hK7 () (Sub.cons rfl (Sub.cons rfl (Sub.cons rfl (Sub.cons rfl (Sub.cons rfl (Sub.cons rfl (Sub.nil _))))))) (fun _ hw => HeapIs.pick hw [0, 1] (by decide) rfl)
      rintro _
      show SQ _ 53 w0 _ _ [(0, .slice al lt.length cl), (1, .int .i64 a), (2, .int .i64 b), (3, .func (.func 96) #[] #[.pointer (some ⟨Bq, 0, none⟩), .pointer (some ⟨Bn, 0, none⟩)]), (8, .int .i64 i), (9, .int .i64 j)] [outer w0 [own tInt Sl al cl l], own tInt Sl al cl ((lt.set j.toNat (lt.getD ((j - 1).toNat) default)).set ((j - 1).toNat) (lt.getD j.toNat default))]
      refine q_cast (F' := [(0, .slice al ((lt.set j.toNat (lt.getD ((j - 1).toNat) default)).set ((j - 1).toNat) (lt.getD j.toNat default)).length cl), (1, .int .i64 a), (2, .int .i64 b), (3, .func (.func 96) #[] #[.pointer (some ⟨Bq, 0, none⟩), .pointer (some ⟨Bn, 0, none⟩)]), (8, .int .i64 i), (9, .int .i64 j)]) (H := [outer w0 [own tInt Sl al cl l], own tInt Sl al cl ((lt.set j.toNat (lt.getD ((j - 1).toNat) default)).set ((j - 1).toNat) (lt.getD j.toNat default))]) (H' := [outer w0 [own tInt Sl al cl l], own tInt Sl al cl ((lt.set j.toNat (lt.getD ((j - 1).toNat) default)).set ((j - 1).toNat) (lt.getD j.toNat default))]) (Sub.cons (by simp only [List.length_set, List.length_reverse]; rfl) (Sub.cons rfl (Sub.cons rfl (Sub.cons rfl (Sub.cons rfl (Sub.cons rfl (Sub.nil _))))))) (by rfl) ?_
      refine q_block_normal (q_then ?_)
      refine c_region ?_
      refine o_pure (p_move (v := .int .i64 j) rfl) rfl rfl rfl ?_
      refine o_pure (p_subb (p := j) (q := 1) rfl rfl (by omega)) rfl rfl rfl ?_
      refine o_pure (p_assign (v := .int .i64 (j - 1)) rfl) rfl rfl rfl ?_
      refine o_nil ?_
      refine q_round hK3 ((j - 1), ((lt.set j.toNat (lt.getD ((j - 1).toNat) default)).set ((j - 1).toNat) (lt.getD j.toNat default))) ?_ ?_ ?_ ?_
      · clear hK3
        exact hI.next (by omega) (by omega)
      · (try dsimp only); omega
      · exact Sub.cons rfl (Sub.cons rfl (Sub.cons rfl (Sub.cons rfl (Sub.cons rfl (Sub.cons rfl (Sub.nil _))))))
      · exact fun _ hw => HeapIs.pick hw [0, 1] (by decide) rfl
    · simp only [Bool.and_eq_false_iff, decide_eq_false_iff_not, Int.not_lt] at hc5
      have hst := hc5
      refine c_exit ?_
      refine q_then_exit (q_then_exit (q_block_exit (q_block_normal (q_then ?_))))
      refine c_region ?_
      refine o_pure (p_move (v := .int .i64 i) rfl) rfl rfl rfl ?_
      refine o_pure (p_addb (p := i) (q := 1) rfl rfl (by omega)) rfl rfl rfl ?_
      refine o_pure (p_assign (v := .int .i64 (i + 1)) rfl) rfl rfl rfl ?_
      refine o_nil ?_
      refine q_round hK1 ((i + 1), lt) ?_ ?_ ?_ ?_
      · clear hK1
        exact hI.fin (by have h9 := hI.a0; omega)
      · (try dsimp only); omega
      · exact Sub.cons rfl (Sub.cons rfl (Sub.cons rfl (Sub.cons rfl (Sub.cons rfl (Sub.nil _)))))
      · exact fun _ hw => HeapIs.pick hw [0, 1] (by decide) rfl
  · simp only [decide_eq_false_iff_not, Int.not_lt] at hc2
    refine c_exit ?_
    refine q_then_exit (q_then_exit (q_block_exit ?_))
    have hr0 : (ls : List Int) = (if a = 0 then St.isort (Shd.cmp q nn) l else l) := by
      exact hI.done (by omega)
    refine q_endX (p := ()) (rt0 rfl) ?_ (fun w hw => ?_)
    · exact rfl
    · have h2 := hw.pick (H' := [outer w0 [own tInt Sl al cl l], own tInt Sl al cl ls]) [0, 1] (by decide) rfl
      exact Eq.mp (congrArg (fun z => HeapIs w0 ((outer w0 [own tInt Sl al cl l]) :: z) w) ((by have hcc := congrArg (fun (y0 : List Int) => ([own tInt Sl al cl y0] : List Ent)) hr0; exact hcc))) h2

set_option maxHeartbeats 8000000 in
set_option maxRecDepth 100000 in
theorem stableCmp_ok (l : List Int) (al : Option Addr) (cl : Nat) (Sl : Nat → Prop) (n : Int) (Bq : Nat) (q : List DShard) (aq : Option Addr) (cq : Nat) (Bn : Nat) (nn : UInt64) (hy1 : n = (l.length : Int) ∧ l.length ≤ 20) (hy2 : Shd.Ok q ∧ ∀ x ∈ l, 0 ≤ x ∧ x < (q.length : Int)) : FnX Try.prog 113 [.slice al l.length cl, .int .i64 n, .func (.func 96) #[] #[.pointer (some ⟨Bq, 0, none⟩), .pointer (some ⟨Bn, 0, none⟩)]] [own tInt Sl al cl l] (fun w => SlR tShard (outer w [own tInt Sl al cl l]).S w aq cq q ∧ ((box Bq [.slice aq q.length cq] 43).A w ∧ (outer w [own tInt Sl al cl l]).S Bq) ∧ ((box Bn [.int .u64 (nn.toNat : Int)] 59).A w ∧ (outer w [own tInt Sl al cl l]).S Bn)) (Unit) (fun p => .tuple #[]) (fun p => [own tInt Sl al cl (St.isort (Shd.cmp q nn) l)]) := by
  refine fnX (nt := 63) (F0 := [(0, .slice al l.length cl), (1, .int .i64 n), (2, .func (.func 96) #[] #[.pointer (some ⟨Bq, 0, none⟩), .pointer (some ⟨Bn, 0, none⟩)])]) Try.func113 rfl Try.ntmps113 rfl rfl (fun w0 hpre => ?_)
  obtain ⟨hq, hBq, hBn⟩ := hpre
  have hlhq := hq.2.1
  refine c_know (fun w hw => own_len (i := 1) (T := tInt) hw rfl) (fun hlown_l => ?_)
  obtain ⟨hcown_l, hlown_l⟩ := hlown_l
  refine c_seq ?_
  refine c_region ?_
  refine o_pure (p_assign (v := .int .i64 20) rfl) rfl rfl rfl ?_
  refine o_nil ?_
  refine q_then ?_
  refine c_seq ?_
  refine c_region ?_
  refine o_pure (p_move (v := .int .i64 20) rfl) rfl rfl rfl ?_
  refine o_pure (p_assign (v := .int .i64 0) rfl) rfl rfl rfl ?_
  refine o_pure (p_assign (v := .int .i64 20) rfl) rfl rfl rfl ?_
  refine o_nil ?_
  refine q_then ?_
  refine c_seq ?_
  refine c_block ?_
  refine c_loop (St := Int × Int × List Int)
    (fun ⟨a2, b2, ls⟩ => [(0, .slice al ls.length cl), (1, .int .i64 n), (2, .func (.func 96) #[] #[.pointer (some ⟨Bq, 0, none⟩), .pointer (some ⟨Bn, 0, none⟩)]), (6, .int .i64 20), (7, .int .i64 a2), (8, .int .i64 b2)])
    (fun ⟨a2, b2, ls⟩ => [outer w0 [own tInt Sl al cl l], own tInt Sl al cl ls])
    (fun ⟨a2, b2, ls⟩ => St.BI (Shd.cmp q nn) l ls a2 b2)
    (fun ⟨a2, b2, ls⟩ => (60 - b2).toNat)
    (0, 20, l) ?_ (Sub.cons rfl (Sub.cons rfl (Sub.cons rfl (Sub.cons rfl (Sub.cons rfl (Sub.cons rfl (Sub.nil _))))))) (fun _ hw => hw) ?_
  · exact St.BI.start
  rintro ⟨a2, b2, ls⟩ hI K hK1
  have hBl := hI.len
  have hBa := hI.cases
  show SC _ _ Try.prog 63 w0 _ _ [(0, .slice al ls.length cl), (1, .int .i64 n), (2, .func (.func 96) #[] #[.pointer (some ⟨Bq, 0, none⟩), .pointer (some ⟨Bn, 0, none⟩)]), (6, .int .i64 20), (7, .int .i64 a2), (8, .int .i64 b2)] [outer w0 [own tInt Sl al cl l], own tInt Sl al cl ls]
  refine c_seq ?_
  refine c_seq ?_
  refine c_region ?_
  refine o_pure (p_move (v := .int .i64 b2) rfl) rfl rfl rfl ?_
  refine o_pure (p_move (v := .int .i64 n) rfl) rfl rfl rfl ?_
  refine o_pure (p_le (p := b2) (q := n) rfl rfl) rfl rfl rfl ?_
  refine o_nil ?_
  refine q_then ?_
  refine c_cond (b := decide (b2 ≤ n)) rfl (fun hc2 => ?_) (fun hc2 => ?_)
  · simp only [decide_eq_true_eq] at hc2
    have hgo := hc2
    have hside := (show Shd.Ok q ∧ ∀ x ∈ ls, 0 ≤ x ∧ x < (q.length : Int) from ⟨hy2.1, fun x hx => hy2.2 x (hI.mem.1 hx)⟩)
    refine c_skip ?_
    refine q_then ?_
    refine c_block ?_
    refine c_seq ?_
    refine c_region ?_
    refine o_pure (p_move (v := .slice al ls.length cl) rfl) rfl rfl rfl ?_
    refine o_pure (p_move (v := .int .i64 a2) rfl) rfl rfl rfl ?_
    refine o_pure (p_move (v := .int .i64 b2) rfl) rfl rfl rfl ?_
    refine o_pure (p_move (v := .func (.func 96) #[] #[.pointer (some ⟨Bq, 0, none⟩), .pointer (some ⟨Bn, 0, none⟩)]) rfl) rfl rfl rfl ?_
    refine o_pick (H' := [own tInt Sl al cl ls, outer w0 [own tInt Sl al cl l]]) [1, 0] (by decide) rfl ?_
    refine o_callX (pre := [own tInt Sl al cl ls]) (R := [outer w0 [own tInt Sl al cl l]]) rfl (insSort_ok ls al cl Sl a2 b2 Bq q aq cq Bn nn (by first | assumption | omega) (by first | assumption | exact hside)) hf122 rfl (fun w hw => ⟨(rdX (i := 1) (js := [0]) rfl (by decide) rfl (fun _ hA => slR_outer hq hA)) w hw, boxX_outer (i := 1) (js := [0]) rfl (by decide) rfl hBq w hw, boxX_outer (i := 1) (js := [0]) rfl (by decide) rfl hBn w hw⟩) rfl ?_
    rintro ⟨⟩
    refine o_asH (H' := [own tInt Sl al cl (if a2 = 0 then St.isort (Shd.cmp q nn) ls else ls), outer w0 [own tInt Sl al cl l]]) rfl ?_
    refine o_cast (F' := [(0, .slice al (if a2 = 0 then St.isort (Shd.cmp q nn) ls else ls).length cl), (1, .int .i64 n), (2, .func (.func 96) #[] #[.pointer (some ⟨Bq, 0, none⟩), .pointer (some ⟨Bn, 0, none⟩)]), (6, .int .i64 20), (8, .int .i64 b2)]) (H := [own tInt Sl al cl (if a2 = 0 then St.isort (Shd.cmp q nn) ls else ls), outer w0 [own tInt Sl al cl l]]) (H' := [own tInt Sl al cl (if a2 = 0 then St.isort (Shd.cmp q nn) ls else ls), outer w0 [own tInt Sl al cl l]]) (Sub.cons (by simp only [List.length_set, List.length_reverse, St.ite_len]; rfl) (Sub.cons rfl (Sub.cons rfl (Sub.cons rfl (Sub.cons rfl (Sub.nil _)))))) (by rfl) ?_
    refine o_nil ?_
    refine q_then ?_
    refine c_seq ?_
    refine c_region ?_
    refine o_pure (p_move (v := .int .i64 b2) rfl) rfl rfl rfl ?_
    refine o_pure (p_assign (v := .int .i64 b2) rfl) rfl rfl rfl ?_
    refine o_nil ?_
    refine q_then ?_
    refine c_region ?_
    refine o_pure (p_move (v := .int .i64 b2) rfl) rfl rfl rfl ?_
    refine o_pure (p_move (v := .int .i64 20) rfl) rfl rfl rfl ?_
    refine o_pure (p_addb (p := b2) (q := 20) rfl rfl (by omega)) rfl rfl rfl ?_
    refine o_pure (p_assign (v := .int .i64 (b2 + 20)) rfl) rfl rfl rfl ?_
    refine o_nil ?_
    refine q_block_normal ?_
    refine q_round hK1 (b2, (b2 + 20), (if a2 = 0 then St.isort (Shd.cmp q nn) ls else ls)) ?_ ?_ ?_ ?_
    · clear hK1
      exact hI.next (by omega)
    · (try dsimp only); omega
    · exact Sub.cons rfl (Sub.cons rfl (Sub.cons rfl (Sub.cons rfl (Sub.cons rfl (Sub.cons rfl (Sub.nil _))))))
    · exact fun _ hw => HeapIs.pick hw [1, 0] (by decide) rfl
  · simp only [decide_eq_false_iff_not, Int.not_le] at hc2
    have hst := hc2
    have hS := hI
    have hside := (show Shd.Ok q ∧ ∀ x ∈ ls, 0 ≤ x ∧ x < (q.length : Int) from ⟨hy2.1, fun x hx => hy2.2 x (hI.mem.1 hx)⟩)
    refine c_exit ?_
    refine q_then_exit (q_then_exit (q_block_exit (q_then ?_)))
    refine c_seq ?_
    refine c_region ?_
    refine o_pure (p_move (v := .slice al ls.length cl) rfl) rfl rfl rfl ?_
    refine o_pure (p_move (v := .int .i64 a2) rfl) rfl rfl rfl ?_
    refine o_pure (p_move (v := .int .i64 n) rfl) rfl rfl rfl ?_
    refine o_pure (p_move (v := .func (.func 96) #[] #[.pointer (some ⟨Bq, 0, none⟩), .pointer (some ⟨Bn, 0, none⟩)]) rfl) rfl rfl rfl ?_
    refine o_pick (H' := [own tInt Sl al cl ls, outer w0 [own tInt Sl al cl l]]) [1, 0] (by decide) rfl ?_
    refine o_callX (pre := [own tInt Sl al cl ls]) (R := [outer w0 [own tInt Sl al cl l]]) rfl (insSort_ok ls al cl Sl a2 n Bq q aq cq Bn nn (by first | assumption | omega) (by first | assumption | exact hside)) hf122 rfl (fun w hw => ⟨(rdX (i := 1) (js := [0]) rfl (by decide) rfl (fun _ hA => slR_outer hq hA)) w hw, boxX_outer (i := 1) (js := [0]) rfl (by decide) rfl hBq w hw, boxX_outer (i := 1) (js := [0]) rfl (by decide) rfl hBn w hw⟩) rfl ?_
    rintro ⟨⟩
    refine o_asH (H' := [own tInt Sl al cl (if a2 = 0 then St.isort (Shd.cmp q nn) ls else ls), outer w0 [own tInt Sl al cl l]]) rfl ?_
    refine o_cast (F' := [(0, .slice al (if a2 = 0 then St.isort (Shd.cmp q nn) ls else ls).length cl), (1, .int .i64 n), (2, .func (.func 96) #[] #[.pointer (some ⟨Bq, 0, none⟩), .pointer (some ⟨Bn, 0, none⟩)]), (6, .int .i64 20)]) (H := [own tInt Sl al cl (if a2 = 0 then St.isort (Shd.cmp q nn) ls else ls), outer w0 [own tInt Sl al cl l]]) (H' := [own tInt Sl al cl (if a2 = 0 then St.isort (Shd.cmp q nn) ls else ls), outer w0 [own tInt Sl al cl l]]) (Sub.cons (by simp only [List.length_set, List.length_reverse, St.ite_len]; rfl) (Sub.cons rfl (Sub.cons rfl (Sub.cons rfl (Sub.nil _))))) (by rfl) ?_
    refine o_nil ?_
    refine q_then ?_
    refine c_block ?_
    refine c_loop (St := Int × List Int)
      (fun ⟨bs, lt⟩ => [(0, .slice al lt.length cl), (1, .int .i64 n), (2, .func (.func 96) #[] #[.pointer (some ⟨Bq, 0, none⟩), .pointer (some ⟨Bn, 0, none⟩)]), (6, .int .i64 bs)])
      (fun ⟨bs, lt⟩ => [own tInt Sl al cl lt, outer w0 [own tInt Sl al cl l]])
      (fun ⟨bs, lt⟩ => bs = 20 ∧ lt = St.isort (Shd.cmp q nn) l)
      (fun ⟨bs, lt⟩ => 0)
      (20, (if a2 = 0 then St.isort (Shd.cmp q nn) ls else ls)) ?_ (Sub.cons rfl (Sub.cons rfl (Sub.cons rfl (Sub.cons rfl (Sub.nil _))))) (fun _ hw => hw) ?_
    · exact ⟨rfl, hS.done⟩
    rintro ⟨bs, lt⟩ hI K hK3
    obtain ⟨hI1, hI2⟩ := id hI
    show SC _ _ Try.prog 63 w0 _ _ [(0, .slice al lt.length cl), (1, .int .i64 n), (2, .func (.func 96) #[] #[.pointer (some ⟨Bq, 0, none⟩), .pointer (some ⟨Bn, 0, none⟩)]), (6, .int .i64 bs)] [own tInt Sl al cl lt, outer w0 [own tInt Sl al cl l]]
    refine c_seq ?_
    refine c_seq ?_
    refine c_region ?_
    refine o_pure (p_move (v := .int .i64 bs) rfl) rfl rfl rfl ?_
    refine o_pure (p_move (v := .int .i64 n) rfl) rfl rfl rfl ?_
    refine o_pure (p_lt (p := bs) (q := n) rfl rfl) rfl rfl rfl ?_
    refine o_nil ?_
    refine q_then ?_
    refine c_cond (b := decide (bs < n)) rfl (fun hc4 => ?_) (fun hc4 => ?_)
    · simp only [decide_eq_true_eq] at hc4
      exfalso; omega
    · simp only [decide_eq_false_iff_not, Int.not_lt] at hc4
      refine c_exit ?_
      refine q_then_exit (q_then_exit (q_block_exit ?_))
      have hr0 : (lt : List Int) = (St.isort (Shd.cmp q nn) l) := by
        exact hI.2
      refine q_endX (p := ()) (rt0 rfl) ?_ (fun w hw => ?_)
      · exact rfl
      · have h2 := hw.pick (H' := [outer w0 [own tInt Sl al cl l], own tInt Sl al cl lt]) [1, 0] (by decide) rfl
        exact Eq.mp (congrArg (fun z => HeapIs w0 ((outer w0 [own tInt Sl al cl l]) :: z) w) ((by have hcc := congrArg (fun (y0 : List Int) => ([own tInt Sl al cl y0] : List Ent)) hr0; exact hcc))) h2

set_option maxHeartbeats 8000000 in
set_option maxRecDepth 100000 in
theorem sortStable_ok (l : List Int) (al : Option Addr) (cl : Nat) (Sl : Nat → Prop) (Bq : Nat) (q : List DShard) (aq : Option Addr) (cq : Nat) (Bn : Nat) (nn : UInt64) (hy1 : l.length ≤ 20) (hy2 : Shd.Ok q ∧ ∀ x ∈ l, 0 ≤ x ∧ x < (q.length : Int)) : FnX Try.prog 95 [.slice al l.length cl, .func (.func 96) #[] #[.pointer (some ⟨Bq, 0, none⟩), .pointer (some ⟨Bn, 0, none⟩)]] [own tInt Sl al cl l] (fun w => SlR tShard (outer w [own tInt Sl al cl l]).S w aq cq q ∧ ((box Bq [.slice aq q.length cq] 43).A w ∧ (outer w [own tInt Sl al cl l]).S Bq) ∧ ((box Bn [.int .u64 (nn.toNat : Int)] 59).A w ∧ (outer w [own tInt Sl al cl l]).S Bn)) (Unit) (fun p => .tuple #[]) (fun p => [own tInt Sl al cl (St.isort (Shd.cmp q nn) l)]) := by
  refine fnX (nt := 9) (F0 := [(0, .slice al l.length cl), (1, .func (.func 96) #[] #[.pointer (some ⟨Bq, 0, none⟩), .pointer (some ⟨Bn, 0, none⟩)])]) Try.func95 rfl Try.ntmps95 rfl rfl (fun w0 hpre => ?_)
  obtain ⟨hq, hBq, hBn⟩ := hpre
  have hlhq := hq.2.1
  refine c_know (fun w hw => own_len (i := 1) (T := tInt) hw rfl) (fun hlown_l => ?_)
  obtain ⟨hcown_l, hlown_l⟩ := hlown_l
  refine c_region ?_
  refine o_pure (p_move (v := .slice al l.length cl) rfl) rfl rfl rfl ?_
  refine o_pure (p_move (v := .slice al l.length cl) rfl) rfl rfl rfl ?_
  refine o_pure (p_len_slice (len := l.length) rfl rfl Try.underlying45) rfl rfl rfl ?_
  refine o_pure (p_move (v := .func (.func 96) #[] #[.pointer (some ⟨Bq, 0, none⟩), .pointer (some ⟨Bn, 0, none⟩)]) rfl) rfl rfl rfl ?_
  refine o_pick (H' := [own tInt Sl al cl l, outer w0 [own tInt Sl al cl l]]) [1, 0] (by decide) rfl ?_
  refine o_callX (pre := [own tInt Sl al cl l]) (R := [outer w0 [own tInt Sl al cl l]]) rfl (stableCmp_ok l al cl Sl (l.length : Int) Bq q aq cq Bn nn (by first | assumption | omega) (by first | assumption | exact hside)) hf113 rfl (fun w hw => ⟨(rdX (i := 1) (js := [0]) rfl (by decide) rfl (fun _ hA => slR_outer hq hA)) w hw, boxX_outer (i := 1) (js := [0]) rfl (by decide) rfl hBq w hw, boxX_outer (i := 1) (js := [0]) rfl (by decide) rfl hBn w hw⟩) rfl ?_
  rintro ⟨⟩
  refine o_asH (H' := [own tInt Sl al cl (St.isort (Shd.cmp q nn) l), outer w0 [own tInt Sl al cl l]]) rfl ?_
  refine o_cast (F' := []) (H := [own tInt Sl al cl (St.isort (Shd.cmp q nn) l), outer w0 [own tInt Sl al cl l]]) (H' := [own tInt Sl al cl (St.isort (Shd.cmp q nn) l), outer w0 [own tInt Sl al cl l]]) (Sub.nil _) (by rfl) ?_
  refine o_nil ?_
  refine q_endX (p := ()) (rt0 rfl) ?_ (fun w hw => ?_)
  · exact rfl
  · have h2 := hw.pick (H' := [outer w0 [own tInt Sl al cl l], own tInt Sl al cl (St.isort (Shd.cmp q nn) l)]) [1, 0] (by decide) rfl
    exact Eq.mp (congrArg (fun z => HeapIs w0 ((outer w0 [own tInt Sl al cl l]) :: z) w) (rfl)) h2

set_option maxHeartbeats 8000000 in
set_option maxRecDepth 100000 in
theorem sranked_ok (l : List DShard) (al : Option Addr) (cl : Nat) (key : ByteArray) (hy1 : Shd.Ok l ∧ key.size ≤ 40) : FnM Try.prog 69 [.slice al l.length cl, .string key] (fun w => Rd tShard w al cl l) (Option Addr × Nat) (fun p => .slice p.1 (Shd.ranked l key).length p.2) (fun p S w => SlO tInt S w p.1 p.2 (Shd.ranked l key)) := by
  refine fnM (nt := 24) (F0 := [(0, .slice al l.length cl), (1, .string key)]) Try.func69 rfl Try.ntmps69 rfl rfl (fun w0 hpre => ?_)
  have hl := hpre
  have hlhl := hl.2.1
  have hlen := hy1.1.len
  refine c_seq ?_
  refine c_region ?_
  refine o_box (v := .slice al l.length cl) rfl rfl (fun B1 => ?_)
  refine o_pure (p_assign (v := .slice none 0 0) rfl) rfl rfl rfl ?_
  refine o_nil ?_
  refine q_then ?_
  refine c_seq ?_
  refine c_region ?_
  refine o_pure (p_move (v := .string key) rfl) rfl rfl rfl ?_
  refine o_call0 (v := .int .u64 ((Hash.raw key).toNat : Int)) rfl (raw_ok key) hf72 (fun w hw => (by first | assumption | omega | decide | (rw [ByteArray.size_append]; omega) | simp)) rfl ?_
  refine o_alloc ze59 rfl (fun B2 => ?_)
  refine o_store (i := 0) (v := .int .u64 ((Hash.raw key).toNat : Int)) (cs' := [.int .u64 ((Hash.raw key).toNat : Int)]) rfl rfl rfl sz59 rfl rfl rfl ?_
  refine o_nil ?_
  refine q_then ?_
  refine c_seq ?_
  refine c_region ?_
  refine o_pure (p_assign (v := .slice none 0 0) rfl) rfl rfl rfl ?_
  refine o_nil ?_
  refine q_then ?_
  refine c_seq ?_
  refine c_seq ?_
  refine c_region ?_
  refine o_pure (p_load (i := 1) (v := .slice al l.length cl) rfl rfl sh43 rfl) rfl rfl rfl ?_
  refine o_pure (p_len_slice (len := l.length) rfl rfl Try.underlying43) rfl rfl rfl ?_
  refine o_pure (p_move (v := .int .i64 0) rfl) rfl rfl rfl ?_
  refine o_nil ?_
  refine q_then ?_
  refine c_block ?_
  refine c_ownNil tInt ?_
  refine c_loop (St := List Int × Option Addr × Nat × (Nat → Prop) × Nat)
    (fun ⟨out, aout, cout, Sout, k⟩ => [(2, .pointer (some ⟨B1, 0, none⟩)), (5, .pointer (some ⟨B2, 0, none⟩)), (6, .slice aout out.length cout), (11, .int .i64 (l.length : Int)), (12, .int .i64 (k : Int))])
    (fun ⟨out, aout, cout, Sout, k⟩ => [own tInt Sout aout cout out, box B2 [.int .u64 ((Hash.raw key).toNat : Int)] 59, box B1 [.slice al l.length cl] 43, base w0])
    (fun ⟨out, aout, cout, Sout, k⟩ => k ≤ l.length ∧ out = (List.range k).map Int.ofNat)
    (fun ⟨out, aout, cout, Sout, k⟩ => l.length - k)
    ([], none, 0, (fun _ => False), 0) ?_ (Sub.cons rfl (Sub.cons rfl (Sub.cons rfl (Sub.cons rfl (Sub.cons rfl (Sub.nil _)))))) (fun _ hw => hw) ?_
  · exact ⟨Nat.zero_le _, rfl⟩
  rintro ⟨out, aout, cout, Sout, k⟩ hI K hK4
  have hol : out.length = k := by rw [hI.2]; simp
  show SC _ _ Try.prog 24 w0 _ _ [(2, .pointer (some ⟨B1, 0, none⟩)), (5, .pointer (some ⟨B2, 0, none⟩)), (6, .slice aout out.length cout), (11, .int .i64 (l.length : Int)), (12, .int .i64 (k : Int))] [own tInt Sout aout cout out, box B2 [.int .u64 ((Hash.raw key).toNat : Int)] 59, box B1 [.slice al l.length cl] 43, base w0]
  refine c_seq ?_
  refine c_region ?_
  refine o_pure (p_lt (p := (k : Int)) (q := (l.length : Int)) rfl rfl) rfl rfl rfl ?_
  refine o_nil ?_
  refine q_then ?_
  refine c_seq ?_
  refine c_cond (b := decide ((k : Int) < (l.length : Int))) rfl (fun hc5 => ?_) (fun hc5 => ?_)
  · simp only [decide_eq_true_eq] at hc5
    refine c_skip ?_
    refine q_then ?_
    refine c_seq ?_
    refine c_block ?_
    refine c_seq ?_
    refine c_region ?_
    refine o_pure (p_move (v := .int .i64 (k : Int)) rfl) rfl rfl rfl ?_
    refine o_pure (p_assign (v := .int .i64 (k : Int)) rfl) rfl rfl rfl ?_
    refine o_nil ?_
    refine q_then ?_
    refine c_region ?_
    refine o_pure (p_move (v := .slice aout out.length cout) rfl) rfl rfl rfl ?_
    refine o_pure (p_move (v := .int .i64 (k : Int)) rfl) rfl rfl rfl ?_
    refine o_buildSlice (m := 1) (T := tInt) (L := [(k : Int)]) (vs := [.int .i64 (k : Int)]) rfl rfl rfl rfl Try.underlying45 sz3 (by decide) ze3 rfl (by decide) rfl (fun S6 a7 => ?_)
    refine o_append (i := 1) (L := out) (M := [(k : Int)]) (T := tInt) rfl rfl rfl (rd_own (i := 0) rfl) Try.underlying45 Try.underlying45 (by intro k h; cases h) el3 (by intro z; simp [tInt, one1]) (by decide) (by first | omega | (simp only [List.length_cons, List.length_nil]; omega) | (simp only [List.length_append, List.length_cons, List.length_nil, List.length_take, List.length_drop]; omega)) rfl (fun a9 c10 S11 => ?_)
    refine o_pure (p_assign (v := .slice a9 (out ++ [(k : Int)]).length c10) rfl) rfl rfl rfl ?_
    refine o_nil ?_
    refine q_block_normal (q_then ?_)
    refine c_region ?_
    refine o_pure (p_addb (p := (k : Int)) (q := 1) rfl rfl (by omega)) rfl rfl rfl ?_
    refine o_pure (p_move (v := .int .i64 ((k : Int) + 1)) rfl) rfl rfl rfl ?_
    refine o_nil ?_
    refine q_round hK4 ((out ++ [(k : Int)]), a9, c10, S11, k + 1) ?_ ?_ ?_ ?_
    · clear hK4
      exact ⟨by omega, by rw [hI.2, List.range_succ, List.map_append]; rfl⟩
    · (try dsimp only); omega
    · exact Sub.cons rfl (Sub.cons rfl (Sub.cons rfl (Sub.cons rfl (Sub.cons rfl (Sub.nil _)))))
    · exact fun _ hw => HeapIs.pick hw [1, 2, 3, 4] (by decide) rfl
  · simp only [decide_eq_false_iff_not, Int.not_lt] at hc5
    have hside := Shd.side hy1.1 hI.2 hI.1
    refine c_exit ?_
    refine q_then_exit (q_then_exit (q_block_exit (q_then ?_)))
    refine c_seq ?_
    refine c_region ?_
    refine o_pure (p_move (v := .slice aout out.length cout) rfl) rfl rfl rfl ?_
    refine o_pure (p_makeFunc (vs := [.pointer (some ⟨B1, 0, none⟩), .pointer (some ⟨B2, 0, none⟩)]) rfl) rfl rfl rfl ?_
    refine o_callX (pre := [own tInt Sout aout cout out]) (R := [box B2 [.int .u64 ((Hash.raw key).toNat : Int)] 59, box B1 [.slice al l.length cl] 43, base w0]) rfl (sortStable_ok out aout cout Sout B1 l al cl B2 (Hash.raw key) (by first | assumption | omega) (by first | assumption | exact hside)) hf95 rfl (fun w hw => ⟨(rdX (i := 3) (js := [0]) rfl (by decide) rfl (fun _ hA => slR_base hl hA)) w hw, boxX (i := 2) (js := [0]) rfl (by decide) rfl w hw, boxX (i := 1) (js := [0]) rfl (by decide) rfl w hw⟩) rfl ?_
    rintro ⟨⟩
    refine o_asH (H' := [own tInt Sout aout cout (St.isort (Shd.cmp l (Hash.raw key)) out), box B2 [.int .u64 ((Hash.raw key).toNat : Int)] 59, box B1 [.slice al l.length cl] 43, base w0]) rfl ?_
    refine o_cast (F' := [(6, .slice aout (St.isort (Shd.cmp l (Hash.raw key)) out).length cout)]) (H := [own tInt Sout aout cout (St.isort (Shd.cmp l (Hash.raw key)) out), box B2 [.int .u64 ((Hash.raw key).toNat : Int)] 59, box B1 [.slice al l.length cl] 43, base w0]) (H' := [own tInt Sout aout cout (St.isort (Shd.cmp l (Hash.raw key)) out), box B2 [.int .u64 ((Hash.raw key).toNat : Int)] 59, box B1 [.slice al l.length cl] 43, base w0]) (Sub.cons (by simp only [List.length_set, List.length_reverse, St.isort_len]; rfl) (Sub.nil _)) (by rfl) ?_
    refine o_nil ?_
    refine q_then ?_
    refine c_seq ?_
    refine c_region ?_
    refine o_pure (p_move (v := .slice aout (St.isort (Shd.cmp l (Hash.raw key)) out).length cout) rfl) rfl rfl rfl ?_
    refine o_pure (p_assign (v := .slice aout (St.isort (Shd.cmp l (Hash.raw key)) out).length cout) rfl) rfl rfl rfl ?_
    refine o_nil ?_
    refine q_then ?_
    refine c_ret ?_
    have hr0 : ((St.isort (Shd.cmp l (Hash.raw key)) out) : List Int) = (Shd.ranked l key) := by
      (rw [hI.2, show k = l.length by omega]; rfl)
    refine q_endM (p := (aout, cout)) Sout (rt1 rfl (r_tmp rfl)) (i := 3) rfl ?_ ?_ ?_
    · exact (by have hcc := congrArg (fun (y0 : List Int) => (.slice aout y0.length cout : Value)) hr0; exact hcc)
    · exact fun w hw => hw.above (i := 3) (j := 0) (by decide) rfl rfl
    · intro w hw; exact Eq.mp (congrArg (fun y => SlO tInt _ w aout cout y) hr0) ((hw.at (i := 0) rfl).here)
end Go.Proofs.Ythecfjipaepcgaa
