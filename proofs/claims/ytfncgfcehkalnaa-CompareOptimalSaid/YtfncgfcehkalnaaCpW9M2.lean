/- The walks, printed by a program from the translation and a specification. -/
import Derived.Test.YtfncgfcehkalnaaCpF
import Derived.Test.YtfncgfcehkalnaaCpPureM3
import Derived.Test.YtfncgfcehkalnaaCpW6M5
import Derived.Test.YtfncgfcehkalnaaProg
import Derived.Test.YtfncgfcehkalnaaSx12M16
namespace Go.Proofs.Ytfncgfcehkalnaa
open Go.Sx Go.RowKit
set_option maxHeartbeats 8000000 in
set_option maxRecDepth 100000 in
theorem hasInt_ok (l : List Int) (al : Option Addr) (cl : Nat) (n : Int) : Fn0 Try.prog 26 [.slice al l.length cl, .int .i64 n] (fun w => Rd tInt w al cl l) (.bool (Ref.hasInt l n)) := by
 refine fn0 (nt := 18) (F0 := [(0, .slice al l.length cl), (1, .int .i64 n)]) Try.func26 rfl Try.ntmps26 rfl rfl (fun w0 hpre => ?_)
 have hl := hpre
 have hlhl := hl.2.1
 refine c_seq (c_region ?_)
 refine o_as rfl rfl ?_
 refine o_nil (q_then (c_seq (c_seq (c_region ?_))))
 refine o_as rfl rfl ?_
 refine o_nil (q_then (c_block ?_))
 refine c_loop (St := Nat)
  (fun i => [(0, .slice al l.length cl), (1, .int .i64 n), (5, .int .i64 (i : Int))])
  (fun i => [base w0])
  (fun i => i ≤ l.length ∧ ∀ j (h1 : j < l.length), j < i → l[j] ≠ n)
  (fun i => l.length - i)
  0 ?_ (Sub.cons rfl (Sub.cons rfl (Sub.cons rfl (Sub.nil _)))) (fun _ hw => hw) ?_
 ·exact ⟨Nat.zero_le _, fun j _ h => absurd h (by omega)⟩
 rintro i hI K hK1
 obtain ⟨hi, hinv⟩ := hI
 show SC _ _ Try.prog 18 w0 _ _ [(0, .slice al l.length cl), (1, .int .i64 n), (5, .int .i64 (i : Int))] [base w0]
 refine c_seq (c_seq (c_region ?_))
 refine o_mv rfl rfl ?_
 refine o_mv rfl rfl ?_
 refine o_pure (p_len_slice (len := l.length) rfl rfl Try.underlying22) rfl rfl rfl ?_
 refine o_pure (p_lt (p := (i : Int)) (q := (l.length : Int)) rfl rfl) rfl rfl rfl ?_
 refine o_nil (q_then ?_)
 refine c_cond (b := decide ((i : Int) < (l.length : Int))) rfl (fun hc2 => ?_) (fun hc2 => ?_)
 ·simp only [decide_eq_true_eq] at hc2
  refine c_skip (q_then (c_seq (c_block (c_seq (c_region ?_)))))
  refine o_mv rfl rfl ?_
  refine o_mv rfl rfl ?_
  refine o_pure (p_indexAddr (L := l) (T := tInt) (i := (i : Int)) rfl rfl (rd_base (i := 0) rfl hl) Try.underlying22 sz3 (by omega) (by omega)) rfl rfl rfl ?_
  refine o_pure (p_loadE1 (i := i) (T := tInt) (L := l) (v := .int .i64 (l[i])) rfl (rd_base (i := 0) rfl hl) (by first | assumption | omega) sh3 rfl) rfl rfl rfl ?_
  refine o_mv rfl rfl ?_
  refine o_pure (p_eq (p := l[i]) (q := n) rfl rfl) rfl rfl rfl ?_
  refine o_nil (q_then ?_)
  refine c_cond (b := (l[i] == n)) rfl (fun hc3 => ?_) (fun hc3 => ?_)
  ·simp only [beq_iff_eq] at hc3
   refine c_seq (c_region ?_)
   refine o_as rfl rfl ?_
   refine o_nil (q_then (c_ret ?_))
   refine q_block_ret (q_then_ret (q_then_ret (q_block_ret (q_then_ret ?_))))
   have hr0 : (true : Bool) = (Ref.hasInt l n) := by
    simp only [Ref.hasInt]
    grind [List.mem_iff_getElem]
   refine q_end0 (v := .bool true) (rt1 rfl (r_tmp rfl)) (i := 0) rfl ?_
   exact (by have hcc := congrArg (fun (y0 : Bool) => (.bool y0 : Value)) hr0; exact hcc)
  ·simp only [beq_eq_false_iff_ne, ne_eq] at hc3
   refine c_skip ?_
   refine q_block_normal (q_then ?_)
   refine c_region ?_
   refine o_mv rfl rfl ?_
   refine o_pure (p_addb (p := (i : Int)) (q := 1) rfl rfl (by omega)) rfl rfl rfl ?_
   refine o_as rfl rfl ?_
   refine o_nil ?_
   refine q_round hK1 (i + 1) ?_ ?_ ?_ ?_
   ·clear hK1
    refine ⟨by omega, ?_⟩
    grind
   ·(try dsimp only); omega
   ·exact Sub.cons rfl (Sub.cons rfl (Sub.cons rfl (Sub.nil _)))
   ·exact fun _ hw => HeapIs.pick hw [0] (by decide) rfl
 ·simp only [decide_eq_false_iff_not, Int.not_lt] at hc2
  refine c_exit ?_
  refine q_then_exit (q_then_exit (q_block_exit (q_then ?_)))
  refine c_seq (c_region ?_)
  refine o_as rfl rfl ?_
  refine o_nil (q_then (c_ret ?_))
  have hr0 : (false : Bool) = (Ref.hasInt l n) := by
   simp only [Ref.hasInt]
   grind [List.mem_iff_getElem]
  refine q_end0 (v := .bool false) (rt1 rfl (r_tmp rfl)) (i := 0) rfl ?_
  exact (by have hcc := congrArg (fun (y0 : Bool) => (.bool y0 : Value)) hr0; exact hcc)

set_option maxHeartbeats 8000000 in
set_option maxRecDepth 100000 in
theorem compareOptimal_ok (l : List Int) (al : Option Addr) (cl : Nat) (room : Int) : Fn0 Try.prog 7 [.slice al l.length cl, .int .i64 room] (fun w => Rd tInt w al cl l) (.bool true) := by
 refine fn0 (nt := 188) (F0 := [(0, .slice al l.length cl), (1, .int .i64 room)]) Try.func7 rfl Try.ntmps7 rfl rfl (fun w0 hpre => ?_)
 have hl := hpre
 have hlhl := hl.2.1
 refine c_seq (c_region ?_)
 refine o_as rfl rfl ?_
 refine o_nil (q_then (c_seq (c_region ?_)))
 refine o_mv rfl rfl ?_
 refine o_mv rfl rfl ?_
 refine o_callM rfl (cphits_ok l al cl room) hf23 (fun w hw => (rd_base (i := 0) rfl hl) w hw) rfl (fun _ _ _ _ ha hA => SlO.agree ha hA) ?_
 rintro ⟨a3, c4⟩ S1
 refine o_know (fun w hw => own_len (i := 0) (T := tInt) hw rfl) (fun hlr5 => ?_)
 refine o_mv rfl rfl ?_
 refine o_ex rfl rfl rfl ?_
 refine o_ex rfl rfl rfl ?_
 refine o_as rfl rfl ?_
 refine o_as rfl rfl ?_
 refine o_nil (q_then (c_seq (c_region ?_)))
 refine o_mv rfl rfl ?_
 refine o_mv rfl rfl ?_
 refine o_callM rfl (cprank_ok l al cl room) hf24 (fun w hw => (rd_base (i := 1) rfl hl) w hw) rfl (fun _ _ _ _ ha hA => SlO.agree ha hA) ?_
 rintro ⟨a8, c9⟩ S6
 refine o_know (fun w hw => own_len (i := 0) (T := tInt) hw rfl) (fun hlr10 => ?_)
 refine o_mv rfl rfl ?_
 refine o_ex rfl rfl rfl ?_
 refine o_ex rfl rfl rfl ?_
 refine o_as rfl rfl ?_
 refine o_as rfl rfl ?_
 refine o_nil (q_then (c_seq (c_seq (c_region ?_))))
 refine o_call0 (v := .bool true) rfl (contestBegun_ok ) hf25 (fun _ _ => trivial) rfl ?_
 refine o_pure (p_not (b := true) rfl) rfl rfl rfl ?_
 refine o_nil (q_then ?_)
 refine c_false rfl ?_
 refine c_skip (q_then (c_seq (c_seq (c_region ?_))))
 refine o_mv rfl rfl ?_
 refine o_pure (p_ne (p := (Cmp.check l room)) (q := 0) rfl rfl) rfl rfl rfl ?_
 refine o_nil (q_then ?_)
 refine c_cond (b := ((Cmp.check l room) != 0)) rfl (fun hc11 => ?_) (fun hc11 => ?_)
 ·simp only [bne_iff_ne, ne_eq] at hc11
  have hbad := hc11
  refine c_seq (c_region ?_)
  refine o_mv rfl rfl ?_
  refine o_pure (p_len_slice (len := (Cmp.hits l room).length) rfl rfl Try.underlying22) rfl rfl rfl ?_
  refine o_mv rfl rfl ?_
  refine o_pure (p_len_slice (len := (Cmp.rank l room).length) rfl rfl Try.underlying22) rfl rfl rfl ?_
  refine o_pure (p_addb (p := ((Cmp.hits l room).length : Int)) (q := ((Cmp.rank l room).length : Int)) rfl rfl (by omega)) rfl rfl rfl ?_
  refine o_pure (p_eq (p := (((Cmp.hits l room).length : Int) + ((Cmp.rank l room).length : Int))) (q := 0) rfl rfl) rfl rfl rfl ?_
  refine o_mv rfl rfl ?_
  refine o_and (p := 39) 4 ((Cmp.check l room) == (Cmp.check l room)) ?_ ?_ ?_
  ·intro hb12 hk
   simp only [beq_iff_eq] at hb12
   refine o_unguard 35 rfl rfl ?_
   refine o_mv rfl rfl ?_
   refine o_unguard 35 rfl rfl ?_
   refine o_mv rfl rfl ?_
   refine o_unguard 35 rfl rfl ?_
   refine o_pure (p_eq (p := (Cmp.check l room)) (q := (Cmp.check l room)) rfl rfl) rfl rfl rfl ?_
   refine o_pt rfl rfl rfl ?_
   exact o_sub (Sub.cons rfl (Sub.skip rfl (Sub.skip rfl (Sub.skip rfl (Sub.skip rfl (Sub.skip rfl (Sub.refl _))))))) hk
  ·intro hb12 hk
   refine o_guard_no rfl 35 rfl rfl rfl rfl rfl ?_
   refine o_guard_no rfl 35 rfl rfl rfl rfl rfl ?_
   refine o_guard_no rfl 35 rfl rfl rfl rfl rfl ?_
   refine o_pf rfl rfl rfl ?_
   exact o_sub (Sub.cons rfl (Sub.skip rfl (Sub.skip rfl (Sub.skip rfl (Sub.skip rfl (Sub.skip rfl (Sub.refl _))))))) hk
  refine o_as rfl rfl ?_
  refine o_nil (q_then (c_ret ?_))
  refine q_then_ret ?_
  have hr0 : ((((((Cmp.hits l room).length : Int) + ((Cmp.rank l room).length : Int)) == 0) && ((Cmp.check l room) == (Cmp.check l room))) : Bool) = true := by
   first | rfl | exact Cmp.hits_bad2 hbad
  refine q_end0 (v := .bool (((((Cmp.hits l room).length : Int) + ((Cmp.rank l room).length : Int)) == 0) && ((Cmp.check l room) == (Cmp.check l room)))) (rt1 rfl (r_tmp rfl)) (i := 2) rfl ?_
  exact (by have hcc := congrArg (fun (y0 : Bool) => (.bool y0 : Value)) hr0; exact hcc)
 ·simp only [bne_eq_false_iff_eq] at hc11
  have hck := hc11
  have hok := Cmp.chk_ok.1 hc11
  have h200 := (Lru.trace_ok.1 hok.1).1
  have hl5 := Cmp.hits_len hc11
  have hr5 := Cmp.rank_len hc11
  refine c_skip (q_then (c_seq (c_region ?_)))
  refine o_as rfl rfl ?_
  refine o_nil (q_then (c_seq (c_seq (c_region ?_))))
  refine o_as rfl rfl ?_
  refine o_nil (q_then (c_block ?_))
  refine c_ownNil tInt ?_
  refine c_loop (St := List Int × Option Addr × Nat × (Nat → Prop) × Nat)
   (fun ⟨unlike, aunlike, cunlike, Sunlike, i⟩ => [(0, .slice al l.length cl), (1, .int .i64 room), (5, .slice a3 (Cmp.hits l room).length c4), (7, .slice a8 (Cmp.rank l room).length c9), (9, .slice aunlike unlike.length cunlike), (10, .int .i64 (i : Int))])
   (fun ⟨unlike, aunlike, cunlike, Sunlike, i⟩ => [own tInt Sunlike aunlike cunlike unlike, own tInt S6 a8 c9 (Cmp.rank l room), own tInt S1 a3 c4 (Cmp.hits l room), base w0])
   (fun ⟨unlike, aunlike, cunlike, Sunlike, i⟩ => Cmp.UL l unlike i)
   (fun ⟨unlike, aunlike, cunlike, Sunlike, i⟩ => l.length - i)
   ([], none, 0, (fun _ => False), 0) ?_ (Sub.cons rfl (Sub.cons rfl (Sub.cons rfl (Sub.cons rfl (Sub.cons rfl (Sub.cons rfl (Sub.nil _))))))) (fun _ hw => hw) ?_
  ·exact Cmp.UL.start l
  rintro ⟨unlike, aunlike, cunlike, Sunlike, i⟩ hI K hK14
  have hle := hI.le
  have hul0 := hI.len
  show SC _ _ Try.prog 188 w0 _ _ [(0, .slice al l.length cl), (1, .int .i64 room), (5, .slice a3 (Cmp.hits l room).length c4), (7, .slice a8 (Cmp.rank l room).length c9), (9, .slice aunlike unlike.length cunlike), (10, .int .i64 (i : Int))] [own tInt Sunlike aunlike cunlike unlike, own tInt S6 a8 c9 (Cmp.rank l room), own tInt S1 a3 c4 (Cmp.hits l room), base w0]
  refine c_seq (c_seq (c_region ?_))
  refine o_mv rfl rfl ?_
  refine o_mv rfl rfl ?_
  refine o_pure (p_len_slice (len := l.length) rfl rfl Try.underlying22) rfl rfl rfl ?_
  refine o_pure (p_lt (p := (i : Int)) (q := (l.length : Int)) rfl rfl) rfl rfl rfl ?_
  refine o_nil (q_then ?_)
  refine c_cond (b := decide ((i : Int) < (l.length : Int))) rfl (fun hc15 => ?_) (fun hc15 => ?_)
  ·simp only [decide_eq_true_eq] at hc15
   refine c_skip (q_then (c_seq (c_block (c_seq (c_region ?_)))))
   refine o_mv rfl rfl ?_
   refine o_mv rfl rfl ?_
   refine o_mv rfl rfl ?_
   refine o_pure (p_indexAddr (L := l) (T := tInt) (i := (i : Int)) rfl rfl (rd_base (i := 3) rfl hl) Try.underlying22 sz3 (by omega) (by omega)) rfl rfl rfl ?_
   refine o_pure (p_loadE1 (i := i) (T := tInt) (L := l) (v := .int .i64 (l.getD i default)) rfl (rd_base (i := 3) rfl hl) (by first | assumption | omega) sh3 (congrArg tInt.enc (getd_at (by first | assumption | omega) default))) rfl rfl rfl ?_
   refine o_call0 (v := .bool (Ref.hasInt unlike (l.getD i default))) rfl (hasInt_ok unlike aunlike cunlike (l.getD i default)) hf26 (fun w hw => (rd_own (i := 0) rfl) w hw) rfl ?_
   refine o_pure (p_not (b := (Ref.hasInt unlike (l.getD i default))) rfl) rfl rfl rfl ?_
   refine o_nil (q_then ?_)
   refine c_cond (b := (!(Ref.hasInt unlike (l.getD i default)))) rfl (fun hc16 => ?_) (fun hc16 => ?_)
   ·simp only [Bool.not_eq_true'] at hc16
    refine c_region ?_
    refine o_mv rfl rfl ?_
    refine o_mv rfl rfl ?_
    refine o_mv rfl rfl ?_
    refine o_pure (p_indexAddr (L := l) (T := tInt) (i := (i : Int)) rfl rfl (rd_base (i := 3) rfl hl) Try.underlying22 sz3 (by omega) (by omega)) rfl rfl rfl ?_
    refine o_pure (p_loadE1 (i := i) (T := tInt) (L := l) (v := .int .i64 (l.getD i default)) rfl (rd_base (i := 3) rfl hl) (by first | assumption | omega) sh3 (congrArg tInt.enc (getd_at (by first | assumption | omega) default))) rfl rfl rfl ?_
    refine o_buildSlice (m := 1) (T := tInt) (L := [(l.getD i default)]) (vs := [.int .i64 (l.getD i default)]) rfl rfl rfl rfl Try.underlying22 sz3 (by decide) ze3 rfl (by decide) rfl (fun S17 a18 => ?_)
    refine o_append (i := 1) (L := unlike) (M := [(l.getD i default)]) (T := tInt) rfl rfl rfl (rd_own (i := 0) rfl) Try.underlying22 Try.underlying22 (by intro k h; cases h) el3 (by intro z; simp [tInt, one1]) (by decide) (by first | omega | (simp only [List.length_cons, List.length_nil]; omega) | (simp only [List.length_append, List.length_cons, List.length_nil, List.length_take, List.length_drop]; omega)) rfl (fun a20 c21 S22 => ?_)
    refine o_as rfl rfl ?_
    refine o_nil ?_
    refine q_block_normal (q_then ?_)
    refine c_region ?_
    refine o_mv rfl rfl ?_
    refine o_pure (p_addb (p := (i : Int)) (q := 1) rfl rfl (by omega)) rfl rfl rfl ?_
    refine o_as rfl rfl ?_
    refine o_nil ?_
    refine q_round hK14 ((unlike ++ [(l.getD i default)]), a20, c21, S22, i + 1) ?_ ?_ ?_ ?_
    ·clear hK14
     first | exact hI.add (by omega) (by simpa using (by assumption : _ = _)) | exact hI.skip (by omega) (by simpa using (by assumption : _ = _))
    ·(try dsimp only); omega
    ·exact Sub.cons rfl (Sub.cons rfl (Sub.cons rfl (Sub.cons rfl (Sub.cons rfl (Sub.cons rfl (Sub.nil _))))))
    ·exact fun _ hw => HeapIs.pick hw [1, 2, 3, 4] (by decide) rfl
   ·simp only [Bool.not_eq_false'] at hc16
    refine c_skip ?_
    refine q_block_normal (q_then ?_)
    refine c_region ?_
    refine o_mv rfl rfl ?_
    refine o_pure (p_addb (p := (i : Int)) (q := 1) rfl rfl (by omega)) rfl rfl rfl ?_
    refine o_as rfl rfl ?_
    refine o_nil ?_
    refine q_round hK14 (unlike, aunlike, cunlike, Sunlike, i + 1) ?_ ?_ ?_ ?_
    ·clear hK14
     first | exact hI.add (by omega) (by simpa using (by assumption : _ = _)) | exact hI.skip (by omega) (by simpa using (by assumption : _ = _))
    ·(try dsimp only); omega
    ·exact Sub.cons rfl (Sub.cons rfl (Sub.cons rfl (Sub.cons rfl (Sub.cons rfl (Sub.cons rfl (Sub.nil _))))))
    ·exact fun _ hw => HeapIs.pick hw [0, 1, 2, 3] (by decide) rfl
  ·simp only [decide_eq_false_iff_not, Int.not_lt] at hc15
   have hU := hI.all (by omega)
   have hul := hI.len
   refine c_exit ?_
   refine q_then_exit (q_then_exit (q_block_exit (q_then ?_)))
   refine c_seq (c_seq (c_region ?_))
   refine o_mv rfl rfl ?_
   refine o_pure (p_len_slice (len := (Cmp.hits l room).length) rfl rfl Try.underlying22) rfl rfl rfl ?_
   refine o_pure (p_ne (p := ((Cmp.hits l room).length : Int)) (q := 5) rfl rfl) rfl rfl rfl ?_
   refine o_mv rfl rfl ?_
   refine o_or (p := 67) 4 (((Cmp.rank l room).length : Int) != 5) ?_ ?_ ?_
   ·intro hb23 hk
    simp only [bne_eq_false_iff_eq] at hb23
    refine o_unguard 63 rfl rfl ?_
    refine o_mv rfl rfl ?_
    refine o_unguard 63 rfl rfl ?_
    refine o_pure (p_len_slice (len := (Cmp.rank l room).length) rfl rfl Try.underlying22) rfl rfl rfl ?_
    refine o_unguard 63 rfl rfl ?_
    refine o_pure (p_ne (p := ((Cmp.rank l room).length : Int)) (q := 5) rfl rfl) rfl rfl rfl ?_
    refine o_pf rfl rfl rfl ?_
    exact o_sub (Sub.cons rfl (Sub.skip rfl (Sub.skip rfl (Sub.skip rfl (Sub.skip rfl (Sub.skip rfl (Sub.refl _))))))) hk
   ·intro hb23 hk
    refine o_guard_no rfl 63 rfl rfl rfl rfl rfl ?_
    refine o_guard_no rfl 63 rfl rfl rfl rfl rfl ?_
    refine o_guard_no rfl 63 rfl rfl rfl rfl rfl ?_
    refine o_pt rfl rfl rfl ?_
    exact o_sub (Sub.cons rfl (Sub.skip rfl (Sub.skip rfl (Sub.skip rfl (Sub.skip rfl (Sub.skip rfl (Sub.refl _))))))) hk
   refine o_nil (q_then ?_)
   refine c_cond (b := ((((Cmp.hits l room).length : Int) != 5) || (((Cmp.rank l room).length : Int) != 5))) rfl (fun hc24 => ?_) (fun hc24 => ?_)
   ·simp only [Bool.or_eq_true, bne_iff_ne, ne_eq] at hc24
    exfalso; omega
   ·simp only [Bool.or_eq_false_iff, bne_eq_false_iff_eq] at hc24
    refine c_skip (q_then (c_seq (c_seq (c_region ?_))))
    refine o_as rfl rfl ?_
    refine o_nil (q_then (c_block ?_))
    refine c_loop (St := Nat)
     (fun i2 => [(0, .slice al l.length cl), (1, .int .i64 room), (5, .slice a3 (Cmp.hits l room).length c4), (7, .slice a8 (Cmp.rank l room).length c9), (9, .slice aunlike unlike.length cunlike), (11, .int .i64 (i2 : Int))])
     (fun i2 => [own tInt Sunlike aunlike cunlike unlike, own tInt S6 a8 c9 (Cmp.rank l room), own tInt S1 a3 c4 (Cmp.hits l room), base w0])
     (fun i2 => i2 ≤ 5)
     (fun i2 => 5 - i2)
     0 ?_ (Sub.cons rfl (Sub.cons rfl (Sub.cons rfl (Sub.cons rfl (Sub.cons rfl (Sub.cons rfl (Sub.nil _))))))) (fun _ hw => hw) ?_
    ·exact Nat.zero_le _
    rintro i2 hI K hK25
    show SC _ _ Try.prog 188 w0 _ _ [(0, .slice al l.length cl), (1, .int .i64 room), (5, .slice a3 (Cmp.hits l room).length c4), (7, .slice a8 (Cmp.rank l room).length c9), (9, .slice aunlike unlike.length cunlike), (11, .int .i64 (i2 : Int))] [own tInt Sunlike aunlike cunlike unlike, own tInt S6 a8 c9 (Cmp.rank l room), own tInt S1 a3 c4 (Cmp.hits l room), base w0]
    refine c_seq (c_seq (c_region ?_))
    refine o_mv rfl rfl ?_
    refine o_mv rfl rfl ?_
    refine o_pure (p_len_slice (len := (Cmp.rank l room).length) rfl rfl Try.underlying22) rfl rfl rfl ?_
    refine o_pure (p_lt (p := (i2 : Int)) (q := ((Cmp.rank l room).length : Int)) rfl rfl) rfl rfl rfl ?_
    refine o_nil (q_then ?_)
    refine c_cond (b := decide ((i2 : Int) < ((Cmp.rank l room).length : Int))) rfl (fun hc26 => ?_) (fun hc26 => ?_)
    ·simp only [decide_eq_true_eq] at hc26
     refine c_skip (q_then (c_seq (c_block (c_seq (c_region ?_)))))
     refine o_mv rfl rfl ?_
     refine o_mv rfl rfl ?_
     refine o_pure (p_indexAddr (L := (Cmp.rank l room)) (T := tInt) (i := (i2 : Int)) rfl rfl (rd_own (i := 1) rfl) Try.underlying22 sz3 (by omega) (by omega)) rfl rfl rfl ?_
     refine o_pure (p_loadE1 (i := i2) (T := tInt) (L := (Cmp.rank l room)) (v := .int .i64 ((Cmp.rank l room).getD i2 default)) rfl (rd_own (i := 1) rfl) (by first | assumption | omega) sh3 (congrArg tInt.enc (getd_at (by first | assumption | omega) default))) rfl rfl rfl ?_
     refine o_pure (p_lt (p := ((Cmp.rank l room).getD i2 default)) (q := 1) rfl rfl) rfl rfl rfl ?_
     refine o_mv rfl rfl ?_
     refine o_or (p := 85) 6 (decide (5 < ((Cmp.rank l room).getD i2 default))) ?_ ?_ ?_
     ·intro hb27 hk
      simp only [decide_eq_false_iff_not, Int.not_lt] at hb27
      refine o_unguard 79 rfl rfl ?_
      refine o_mv rfl rfl ?_
      refine o_unguard 79 rfl rfl ?_
      refine o_mv rfl rfl ?_
      refine o_unguard 79 rfl rfl ?_
      refine o_pure (p_indexAddr (L := (Cmp.rank l room)) (T := tInt) (i := (i2 : Int)) rfl rfl (rd_own (i := 1) rfl) Try.underlying22 sz3 (by omega) (by omega)) rfl rfl rfl ?_
      refine o_unguard 79 rfl rfl ?_
      refine o_pure (p_loadE1 (i := i2) (T := tInt) (L := (Cmp.rank l room)) (v := .int .i64 ((Cmp.rank l room).getD i2 default)) rfl (rd_own (i := 1) rfl) (by first | assumption | omega) sh3 (congrArg tInt.enc (getd_at (by first | assumption | omega) default))) rfl rfl rfl ?_
      refine o_unguard 79 rfl rfl ?_
      refine o_pure (p_gt (p := ((Cmp.rank l room).getD i2 default)) (q := 5) rfl rfl) rfl rfl rfl ?_
      refine o_pf rfl rfl rfl ?_
      exact o_sub (Sub.cons rfl (Sub.skip rfl (Sub.skip rfl (Sub.skip rfl (Sub.skip rfl (Sub.skip rfl (Sub.skip rfl (Sub.skip rfl (Sub.refl _))))))))) hk
     ·intro hb27 hk
      refine o_guard_no rfl 79 rfl rfl rfl rfl rfl ?_
      refine o_guard_no rfl 79 rfl rfl rfl rfl rfl ?_
      refine o_guard_no rfl 79 rfl rfl rfl rfl rfl ?_
      refine o_guard_no rfl 79 rfl rfl rfl rfl rfl ?_
      refine o_guard_no rfl 79 rfl rfl rfl rfl rfl ?_
      refine o_pt rfl rfl rfl ?_
      exact o_sub (Sub.cons rfl (Sub.skip rfl (Sub.skip rfl (Sub.skip rfl (Sub.skip rfl (Sub.skip rfl (Sub.skip rfl (Sub.skip rfl (Sub.refl _))))))))) hk
     refine o_nil (q_then ?_)
     refine c_cond (b := (decide (((Cmp.rank l room).getD i2 default) < 1) || decide (5 < ((Cmp.rank l room).getD i2 default)))) rfl (fun hc28 => ?_) (fun hc28 => ?_)
     ·simp only [Bool.or_eq_true, decide_eq_true_eq] at hc28
      exfalso; have h9 := Cmp.rank_at hck (i := i2) (by omega); omega
     ·simp only [Bool.or_eq_false_iff, decide_eq_false_iff_not, Int.not_lt] at hc28
      refine c_skip ?_
      refine q_block_normal (q_then ?_)
      refine c_region ?_
      refine o_mv rfl rfl ?_
      refine o_pure (p_addb (p := (i2 : Int)) (q := 1) rfl rfl (by omega)) rfl rfl rfl ?_
      refine o_as rfl rfl ?_
      refine o_nil ?_
      refine q_round hK25 (i2 + 1) ?_ ?_ ?_ ?_
      ·clear hK25
       (try dsimp only); omega
      ·(try dsimp only); omega
      ·exact Sub.cons rfl (Sub.cons rfl (Sub.cons rfl (Sub.cons rfl (Sub.cons rfl (Sub.cons rfl (Sub.nil _))))))
      ·exact fun _ hw => HeapIs.pick hw [0, 1, 2, 3] (by decide) rfl
    ·simp only [decide_eq_false_iff_not, Int.not_lt] at hc26
     refine c_exit ?_
     refine q_then_exit (q_then_exit (q_block_exit (q_then ?_)))
     refine c_seq (c_seq (c_region ?_))
     refine o_as rfl rfl ?_
     refine o_nil (q_then (c_block ?_))
     refine c_loop (St := Nat)
      (fun i3 => [(0, .slice al l.length cl), (1, .int .i64 room), (5, .slice a3 (Cmp.hits l room).length c4), (7, .slice a8 (Cmp.rank l room).length c9), (9, .slice aunlike unlike.length cunlike), (12, .int .i64 (i3 : Int))])
      (fun i3 => [own tInt Sunlike aunlike cunlike unlike, own tInt S6 a8 c9 (Cmp.rank l room), own tInt S1 a3 c4 (Cmp.hits l room), base w0])
      (fun i3 => i3 ≤ 5)
      (fun i3 => 5 - i3)
      0 ?_ (Sub.cons rfl (Sub.cons rfl (Sub.cons rfl (Sub.cons rfl (Sub.cons rfl (Sub.cons rfl (Sub.nil _))))))) (fun _ hw => hw) ?_
     ·exact Nat.zero_le _
     rintro i3 hI K hK29
     show SC _ _ Try.prog 188 w0 _ _ [(0, .slice al l.length cl), (1, .int .i64 room), (5, .slice a3 (Cmp.hits l room).length c4), (7, .slice a8 (Cmp.rank l room).length c9), (9, .slice aunlike unlike.length cunlike), (12, .int .i64 (i3 : Int))] [own tInt Sunlike aunlike cunlike unlike, own tInt S6 a8 c9 (Cmp.rank l room), own tInt S1 a3 c4 (Cmp.hits l room), base w0]
     refine c_seq (c_seq (c_region ?_))
     refine o_mv rfl rfl ?_
     refine o_mv rfl rfl ?_
     refine o_pure (p_len_slice (len := (Cmp.hits l room).length) rfl rfl Try.underlying22) rfl rfl rfl ?_
     refine o_pure (p_lt (p := (i3 : Int)) (q := ((Cmp.hits l room).length : Int)) rfl rfl) rfl rfl rfl ?_
     refine o_nil (q_then ?_)
     refine c_cond (b := decide ((i3 : Int) < ((Cmp.hits l room).length : Int))) rfl (fun hc30 => ?_) (fun hc30 => ?_)
     ·simp only [decide_eq_true_eq] at hc30
      have q0 := Cmp.rank_at hck (i := i3) (by omega)
      have qp := Cmp.rank_at hck (i := ((i3 : Int) - 1).toNat) (by omega)
      refine c_skip (q_then (c_seq (c_block (c_seq (c_seq ?_)))))
      refine c_draw hmix (by kernel_rfl) ?_
      refine w_mv rfl rfl ?_
      refine w_mv rfl rfl ?_
      refine w_pure (p_indexAddr (L := (Cmp.hits l room)) (T := tInt) (i := (i3 : Int)) rfl rfl (rd_own (i := 2) rfl) Try.underlying22 sz3 (by omega) (by omega)) rfl rfl rfl ?_
      refine w_pure (p_loadE1 (i := i3) (T := tInt) (L := (Cmp.hits l room)) (v := .int .i64 ((Cmp.hits l room).getD i3 default)) rfl (rd_own (i := 2) rfl) (by first | assumption | omega) sh3 (congrArg tInt.enc (getd_at (by first | assumption | omega) default))) rfl rfl rfl ?_
      refine w_mv rfl rfl ?_
      refine w_pure (p_indexAddr (L := (Cmp.hits l room)) (T := tInt) (i := 4) rfl rfl (rd_own (i := 2) rfl) Try.underlying22 sz3 (by omega) (by omega)) rfl rfl rfl ?_
      refine w_pure (p_loadE1 (i := 4) (T := tInt) (L := (Cmp.hits l room)) (v := .int .i64 ((Cmp.hits l room).getD 4 default)) rfl (rd_own (i := 2) rfl) (by first | assumption | omega) sh3 (congrArg tInt.enc (getd_at (by first | assumption | omega) default))) rfl rfl rfl ?_
      refine w_pure (p_gt (p := ((Cmp.hits l room).getD i3 default)) (q := ((Cmp.hits l room).getD 4 default)) rfl rfl) rfl rfl rfl ?_
      refine w_mv rfl rfl ?_
      refine w_or (p := 111) 11 (decide (((l.length : Int) - (unlike.length : Int)) < ((Cmp.hits l room).getD i3 default))) ?_ ?_ ?_
      ·intro hb31 hk
       simp only [decide_eq_false_iff_not, Int.not_lt] at hb31
       refine w_unguard 100 rfl rfl ?_
       refine w_mv rfl rfl ?_
       refine w_unguard 100 rfl rfl ?_
       refine w_mv rfl rfl ?_
       refine w_unguard 100 rfl rfl ?_
       refine w_pure (p_indexAddr (L := (Cmp.hits l room)) (T := tInt) (i := (i3 : Int)) rfl rfl (rd_own (i := 2) rfl) Try.underlying22 sz3 (by omega) (by omega)) rfl rfl rfl ?_
       refine w_unguard 100 rfl rfl ?_
       refine w_pure (p_loadE1 (i := i3) (T := tInt) (L := (Cmp.hits l room)) (v := .int .i64 ((Cmp.hits l room).getD i3 default)) rfl (rd_own (i := 2) rfl) (by first | assumption | omega) sh3 (congrArg tInt.enc (getd_at (by first | assumption | omega) default))) rfl rfl rfl ?_
       refine w_unguard 100 rfl rfl ?_
       refine w_mv rfl rfl ?_
       refine w_unguard 100 rfl rfl ?_
       refine w_pure (p_len_slice (len := l.length) rfl rfl Try.underlying22) rfl rfl rfl ?_
       refine w_unguard 100 rfl rfl ?_
       refine w_mv rfl rfl ?_
       refine w_unguard 100 rfl rfl ?_
       refine w_pure (p_len_slice (len := unlike.length) rfl rfl Try.underlying22) rfl rfl rfl ?_
       refine w_unguard 100 rfl rfl ?_
       refine w_pure (p_subb (p := (l.length : Int)) (q := (unlike.length : Int)) rfl rfl (by omega)) rfl rfl rfl ?_
       refine w_unguard 100 rfl rfl ?_
       refine w_pure (p_gt (p := ((Cmp.hits l room).getD i3 default)) (q := ((l.length : Int) - (unlike.length : Int))) rfl rfl) rfl rfl rfl ?_
       refine w_pf rfl rfl rfl ?_
       exact w_sub (Sub.cons rfl (Sub.skip rfl (Sub.skip rfl (Sub.skip rfl (Sub.skip rfl (Sub.skip rfl (Sub.skip rfl (Sub.skip rfl (Sub.skip rfl (Sub.skip rfl (Sub.skip rfl (Sub.skip rfl (Sub.skip rfl (Sub.refl _)))))))))))))) hk
      ·intro hb31 hk
       refine w_guard_no rfl 100 rfl rfl rfl rfl rfl ?_
       refine w_guard_no rfl 100 rfl rfl rfl rfl rfl ?_
       refine w_guard_no rfl 100 rfl rfl rfl rfl rfl ?_
       refine w_guard_no rfl 100 rfl rfl rfl rfl rfl ?_
       refine w_guard_no rfl 100 rfl rfl rfl rfl rfl ?_
       refine w_guard_no rfl 100 rfl rfl rfl rfl rfl ?_
       refine w_guard_no rfl 100 rfl rfl rfl rfl rfl ?_
       refine w_guard_no rfl 100 rfl rfl rfl rfl rfl ?_
       refine w_guard_no rfl 100 rfl rfl rfl rfl rfl ?_
       refine w_guard_no rfl 100 rfl rfl rfl rfl rfl ?_
       refine w_pt rfl rfl rfl ?_
       exact w_sub (Sub.cons rfl (Sub.skip rfl (Sub.skip rfl (Sub.skip rfl (Sub.skip rfl (Sub.skip rfl (Sub.skip rfl (Sub.skip rfl (Sub.skip rfl (Sub.skip rfl (Sub.skip rfl (Sub.skip rfl (Sub.skip rfl (Sub.refl _)))))))))))))) hk
      refine w_mv rfl rfl ?_
      refine w_or (p := 133) 21 ((decide ((unlike.length : Int) ≤ room) && ((i3 : Int) != 3)) && (((Cmp.hits l room).getD i3 default) != ((l.length : Int) - (unlike.length : Int)))) ?_ ?_ ?_
      ·intro hb32 hk
       simp only [Bool.or_eq_false_iff, decide_eq_false_iff_not, Int.not_lt] at hb32
       refine w_unguard 112 rfl rfl ?_
       refine w_mv rfl rfl ?_
       refine w_unguard 112 rfl rfl ?_
       refine w_pure (p_len_slice (len := unlike.length) rfl rfl Try.underlying22) rfl rfl rfl ?_
       refine w_unguard 112 rfl rfl ?_
       refine w_mv rfl rfl ?_
       refine w_unguard 112 rfl rfl ?_
       refine w_pure (p_le (p := (unlike.length : Int)) (q := room) rfl rfl) rfl rfl rfl ?_
       refine w_unguard 112 rfl rfl ?_
       refine w_mv rfl rfl ?_
       refine w_and (p := 120) 3 ((i3 : Int) != 3) ?_ ?_ ?_
       ·intro hb33 hk
        simp only [decide_eq_true_eq] at hb33
        refine w_unguard 117 rfl rfl ?_
        refine w_mv rfl rfl ?_
        refine w_unguard 117 rfl rfl ?_
        refine w_pure (p_ne (p := (i3 : Int)) (q := 3) rfl rfl) rfl rfl rfl ?_
        refine w_unguard 112 rfl rfl ?_
        refine w_pt rfl rfl rfl ?_
        exact w_sub (Sub.cons rfl (Sub.skip rfl (Sub.skip rfl (Sub.skip rfl (Sub.skip rfl (Sub.refl _)))))) hk
       ·intro hb33 hk
        refine w_guard_no rfl 117 rfl rfl rfl rfl rfl ?_
        refine w_guard_no rfl 117 rfl rfl rfl rfl rfl ?_
        refine w_unguard 112 rfl rfl ?_
        refine w_pf rfl rfl rfl ?_
        exact w_sub (Sub.cons rfl (Sub.skip rfl (Sub.skip rfl (Sub.skip rfl (Sub.skip rfl (Sub.refl _)))))) hk
       refine w_unguard 112 rfl rfl ?_
       refine w_mv rfl rfl ?_
       refine w_and (p := 132) 11 (((Cmp.hits l room).getD i3 default) != ((l.length : Int) - (unlike.length : Int))) ?_ ?_ ?_
       ·intro hb34 hk
        simp only [Bool.and_eq_true, decide_eq_true_eq, bne_iff_ne, ne_eq] at hb34
        refine w_unguard 121 rfl rfl ?_
        refine w_mv rfl rfl ?_
        refine w_unguard 121 rfl rfl ?_
        refine w_mv rfl rfl ?_
        refine w_unguard 121 rfl rfl ?_
        refine w_pure (p_indexAddr (L := (Cmp.hits l room)) (T := tInt) (i := (i3 : Int)) rfl rfl (rd_own (i := 2) rfl) Try.underlying22 sz3 (by omega) (by omega)) rfl rfl rfl ?_
        refine w_unguard 121 rfl rfl ?_
        refine w_pure (p_loadE1 (i := i3) (T := tInt) (L := (Cmp.hits l room)) (v := .int .i64 ((Cmp.hits l room).getD i3 default)) rfl (rd_own (i := 2) rfl) (by first | assumption | omega) sh3 (congrArg tInt.enc (getd_at (by first | assumption | omega) default))) rfl rfl rfl ?_
        refine w_unguard 121 rfl rfl ?_
        refine w_mv rfl rfl ?_
        refine w_unguard 121 rfl rfl ?_
        refine w_pure (p_len_slice (len := l.length) rfl rfl Try.underlying22) rfl rfl rfl ?_
        refine w_unguard 121 rfl rfl ?_
        refine w_mv rfl rfl ?_
        refine w_unguard 121 rfl rfl ?_
        refine w_pure (p_len_slice (len := unlike.length) rfl rfl Try.underlying22) rfl rfl rfl ?_
        refine w_unguard 121 rfl rfl ?_
        refine w_pure (p_subb (p := (l.length : Int)) (q := (unlike.length : Int)) rfl rfl (by omega)) rfl rfl rfl ?_
        refine w_unguard 121 rfl rfl ?_
        refine w_pure (p_ne (p := ((Cmp.hits l room).getD i3 default)) (q := ((l.length : Int) - (unlike.length : Int))) rfl rfl) rfl rfl rfl ?_
        refine w_unguard 112 rfl rfl ?_
        refine w_pt rfl rfl rfl ?_
        exact w_sub (Sub.cons rfl (Sub.skip rfl (Sub.skip rfl (Sub.skip rfl (Sub.skip rfl (Sub.skip rfl (Sub.skip rfl (Sub.skip rfl (Sub.skip rfl (Sub.skip rfl (Sub.skip rfl (Sub.skip rfl (Sub.skip rfl (Sub.refl _)))))))))))))) hk
       ·intro hb34 hk
        refine w_guard_no rfl 121 rfl rfl rfl rfl rfl ?_
        refine w_guard_no rfl 121 rfl rfl rfl rfl rfl ?_
        refine w_guard_no rfl 121 rfl rfl rfl rfl rfl ?_
        refine w_guard_no rfl 121 rfl rfl rfl rfl rfl ?_
        refine w_guard_no rfl 121 rfl rfl rfl rfl rfl ?_
        refine w_guard_no rfl 121 rfl rfl rfl rfl rfl ?_
        refine w_guard_no rfl 121 rfl rfl rfl rfl rfl ?_
        refine w_guard_no rfl 121 rfl rfl rfl rfl rfl ?_
        refine w_guard_no rfl 121 rfl rfl rfl rfl rfl ?_
        refine w_guard_no rfl 121 rfl rfl rfl rfl rfl ?_
        refine w_unguard 112 rfl rfl ?_
        refine w_pf rfl rfl rfl ?_
        exact w_sub (Sub.cons rfl (Sub.skip rfl (Sub.skip rfl (Sub.skip rfl (Sub.skip rfl (Sub.skip rfl (Sub.skip rfl (Sub.skip rfl (Sub.skip rfl (Sub.skip rfl (Sub.skip rfl (Sub.skip rfl (Sub.skip rfl (Sub.refl _)))))))))))))) hk
       refine w_pf rfl rfl rfl ?_
       exact w_sub (Sub.cons rfl (Sub.skip rfl (Sub.skip rfl (Sub.skip rfl (Sub.skip rfl (Sub.skip rfl (Sub.skip rfl (Sub.skip rfl (Sub.skip rfl (Sub.refl _)))))))))) hk
      ·intro hb32 hk
       refine w_guard_no rfl 112 rfl rfl rfl rfl rfl ?_
       refine w_guard_no rfl 112 rfl rfl rfl rfl rfl ?_
       refine w_guard_no rfl 112 rfl rfl rfl rfl rfl ?_
       refine w_guard_no rfl 112 rfl rfl rfl rfl rfl ?_
       refine w_guard_no rfl 112 rfl rfl rfl rfl rfl ?_
       refine w_guard_no rfl 117 rfl rfl rfl rfl rfl ?_
       refine w_guard_no rfl 117 rfl rfl rfl rfl rfl ?_
       refine w_guard_no rfl 112 rfl rfl rfl rfl rfl ?_
       refine w_guard_no rfl 112 rfl rfl rfl rfl rfl ?_
       refine w_guard_no rfl 121 rfl rfl rfl rfl rfl ?_
       refine w_guard_no rfl 121 rfl rfl rfl rfl rfl ?_
       refine w_guard_no rfl 121 rfl rfl rfl rfl rfl ?_
       refine w_guard_no rfl 121 rfl rfl rfl rfl rfl ?_
       refine w_guard_no rfl 121 rfl rfl rfl rfl rfl ?_
       refine w_guard_no rfl 121 rfl rfl rfl rfl rfl ?_
       refine w_guard_no rfl 121 rfl rfl rfl rfl rfl ?_
       refine w_guard_no rfl 121 rfl rfl rfl rfl rfl ?_
       refine w_guard_no rfl 121 rfl rfl rfl rfl rfl ?_
       refine w_guard_no rfl 121 rfl rfl rfl rfl rfl ?_
       refine w_guard_no rfl 112 rfl rfl rfl rfl rfl ?_
       refine w_pt rfl rfl rfl ?_
       exact w_sub (Sub.cons rfl (Sub.skip rfl (Sub.skip rfl (Sub.skip rfl (Sub.skip rfl (Sub.skip rfl (Sub.skip rfl (Sub.skip rfl (Sub.skip rfl (Sub.skip rfl (Sub.skip rfl (Sub.skip rfl (Sub.skip rfl (Sub.skip rfl (Sub.skip rfl (Sub.skip rfl (Sub.skip rfl (Sub.skip rfl (Sub.skip rfl (Sub.skip rfl (Sub.skip rfl (Sub.skip rfl (Sub.skip rfl (Sub.refl _)))))))))))))))))))))))) hk
      refine w_nil (q_then ?_)
      refine c_cond (b := ((decide (((Cmp.hits l room).getD 4 default) < ((Cmp.hits l room).getD i3 default)) || decide (((l.length : Int) - (unlike.length : Int)) < ((Cmp.hits l room).getD i3 default))) || ((decide ((unlike.length : Int) ≤ room) && ((i3 : Int) != 3)) && (((Cmp.hits l room).getD i3 default) != ((l.length : Int) - (unlike.length : Int)))))) rfl (fun hc35 => ?_) (fun hc35 => ?_)
      ·simp only [Bool.or_eq_true, decide_eq_true_eq, Bool.and_eq_true, bne_iff_ne, ne_eq] at hc35
       exfalso; have hb := Cmp.best hck hU (i := i3) (by omega); have q1 := hb.top; have q2 := hb.most; have q3 := hb.all; have q4 := hc35; omega
      ·simp only [Bool.or_eq_false_iff, decide_eq_false_iff_not, Int.not_lt, Bool.and_eq_false_iff, Int.not_le, bne_eq_false_iff_eq] at hc35
       refine c_skip (q_then (c_seq ?_))
       refine c_draw hmix (by kernel_rfl) ?_
       refine w_mv rfl rfl ?_
       refine w_pure (p_gt (p := (i3 : Int)) (q := 0) rfl rfl) rfl rfl rfl ?_
       refine w_mv rfl rfl ?_
       refine w_and (p := 187) 51 (decide (((Cmp.hits l room).getD ((((Cmp.rank l room).getD (((i3 : Int) - 1).toNat) default) - 1).toNat) default) < ((Cmp.hits l room).getD ((((Cmp.rank l room).getD i3 default) - 1).toNat) default)) || ((((Cmp.hits l room).getD ((((Cmp.rank l room).getD i3 default) - 1).toNat) default) == ((Cmp.hits l room).getD ((((Cmp.rank l room).getD (((i3 : Int) - 1).toNat) default) - 1).toNat) default)) && decide (((Cmp.rank l room).getD i3 default) < ((Cmp.rank l room).getD (((i3 : Int) - 1).toNat) default)))) ?_ ?_ ?_
       ·intro hb36 hk
        simp only [decide_eq_true_eq] at hb36
        refine w_unguard 136 rfl rfl ?_
        refine w_mv rfl rfl ?_
        refine w_unguard 136 rfl rfl ?_
        refine w_mv rfl rfl ?_
        refine w_unguard 136 rfl rfl ?_
        refine w_mv rfl rfl ?_
        refine w_unguard 136 rfl rfl ?_
        refine w_pure (p_indexAddr (L := (Cmp.rank l room)) (T := tInt) (i := (i3 : Int)) rfl rfl (rd_own (i := 1) rfl) Try.underlying22 sz3 (by omega) (by omega)) rfl rfl rfl ?_
        refine w_unguard 136 rfl rfl ?_
        refine w_pure (p_loadE1 (i := i3) (T := tInt) (L := (Cmp.rank l room)) (v := .int .i64 ((Cmp.rank l room).getD i3 default)) rfl (rd_own (i := 1) rfl) (by first | assumption | omega) sh3 (congrArg tInt.enc (getd_at (by first | assumption | omega) default))) rfl rfl rfl ?_
        refine w_unguard 136 rfl rfl ?_
        refine w_pure (p_subb (p := ((Cmp.rank l room).getD i3 default)) (q := 1) rfl rfl (by omega)) rfl rfl rfl ?_
        refine w_unguard 136 rfl rfl ?_
        refine w_pure (p_indexAddr (L := (Cmp.hits l room)) (T := tInt) (i := (((Cmp.rank l room).getD i3 default) - 1)) rfl rfl (rd_own (i := 2) rfl) Try.underlying22 sz3 (by omega) (by omega)) rfl rfl rfl ?_
        refine w_unguard 136 rfl rfl ?_
        refine w_pure (p_loadE1 (i := (((Cmp.rank l room).getD i3 default) - 1).toNat) (T := tInt) (L := (Cmp.hits l room)) (v := .int .i64 ((Cmp.hits l room).getD ((((Cmp.rank l room).getD i3 default) - 1).toNat) default)) rfl (rd_own (i := 2) rfl) (by first | assumption | omega) sh3 (congrArg tInt.enc (getd_at (by first | assumption | omega) default))) rfl rfl rfl ?_
        refine w_unguard 136 rfl rfl ?_
        refine w_mv rfl rfl ?_
        refine w_unguard 136 rfl rfl ?_
        refine w_mv rfl rfl ?_
        refine w_unguard 136 rfl rfl ?_
        refine w_mv rfl rfl ?_
        refine w_unguard 136 rfl rfl ?_
        refine w_pure (p_subb (p := (i3 : Int)) (q := 1) rfl rfl (by omega)) rfl rfl rfl ?_
        refine w_unguard 136 rfl rfl ?_
        refine w_pure (p_indexAddr (L := (Cmp.rank l room)) (T := tInt) (i := ((i3 : Int) - 1)) rfl rfl (rd_own (i := 1) rfl) Try.underlying22 sz3 (by omega) (by omega)) rfl rfl rfl ?_
        refine w_unguard 136 rfl rfl ?_
        refine w_pure (p_loadE1 (i := ((i3 : Int) - 1).toNat) (T := tInt) (L := (Cmp.rank l room)) (v := .int .i64 ((Cmp.rank l room).getD (((i3 : Int) - 1).toNat) default)) rfl (rd_own (i := 1) rfl) (by first | assumption | omega) sh3 (congrArg tInt.enc (getd_at (by first | assumption | omega) default))) rfl rfl rfl ?_
        refine w_unguard 136 rfl rfl ?_
        refine w_pure (p_subb (p := ((Cmp.rank l room).getD (((i3 : Int) - 1).toNat) default)) (q := 1) rfl rfl (by omega)) rfl rfl rfl ?_
        refine w_unguard 136 rfl rfl ?_
        refine w_pure (p_indexAddr (L := (Cmp.hits l room)) (T := tInt) (i := (((Cmp.rank l room).getD (((i3 : Int) - 1).toNat) default) - 1)) rfl rfl (rd_own (i := 2) rfl) Try.underlying22 sz3 (by omega) (by omega)) rfl rfl rfl ?_
        refine w_unguard 136 rfl rfl ?_
        refine w_pure (p_loadE1 (i := (((Cmp.rank l room).getD (((i3 : Int) - 1).toNat) default) - 1).toNat) (T := tInt) (L := (Cmp.hits l room)) (v := .int .i64 ((Cmp.hits l room).getD ((((Cmp.rank l room).getD (((i3 : Int) - 1).toNat) default) - 1).toNat) default)) rfl (rd_own (i := 2) rfl) (by first | assumption | omega) sh3 (congrArg tInt.enc (getd_at (by first | assumption | omega) default))) rfl rfl rfl ?_
        refine w_unguard 136 rfl rfl ?_
        refine w_pure (p_gt (p := ((Cmp.hits l room).getD ((((Cmp.rank l room).getD i3 default) - 1).toNat) default)) (q := ((Cmp.hits l room).getD ((((Cmp.rank l room).getD (((i3 : Int) - 1).toNat) default) - 1).toNat) default)) rfl rfl) rfl rfl rfl ?_
        refine w_unguard 136 rfl rfl ?_
        refine w_mv rfl rfl ?_
        refine w_or (p := 186) 31 ((((Cmp.hits l room).getD ((((Cmp.rank l room).getD i3 default) - 1).toNat) default) == ((Cmp.hits l room).getD ((((Cmp.rank l room).getD (((i3 : Int) - 1).toNat) default) - 1).toNat) default)) && decide (((Cmp.rank l room).getD i3 default) < ((Cmp.rank l room).getD (((i3 : Int) - 1).toNat) default))) ?_ ?_ ?_
        ·intro hb37 hk
         simp only [decide_eq_false_iff_not, Int.not_lt] at hb37
         refine w_unguard 155 rfl rfl ?_
         refine w_mv rfl rfl ?_
         refine w_unguard 155 rfl rfl ?_
         refine w_mv rfl rfl ?_
         refine w_unguard 155 rfl rfl ?_
         refine w_mv rfl rfl ?_
         refine w_unguard 155 rfl rfl ?_
         refine w_pure (p_indexAddr (L := (Cmp.rank l room)) (T := tInt) (i := (i3 : Int)) rfl rfl (rd_own (i := 1) rfl) Try.underlying22 sz3 (by omega) (by omega)) rfl rfl rfl ?_
         refine w_unguard 155 rfl rfl ?_
         refine w_pure (p_loadE1 (i := i3) (T := tInt) (L := (Cmp.rank l room)) (v := .int .i64 ((Cmp.rank l room).getD i3 default)) rfl (rd_own (i := 1) rfl) (by first | assumption | omega) sh3 (congrArg tInt.enc (getd_at (by first | assumption | omega) default))) rfl rfl rfl ?_
         refine w_unguard 155 rfl rfl ?_
         refine w_pure (p_subb (p := ((Cmp.rank l room).getD i3 default)) (q := 1) rfl rfl (by omega)) rfl rfl rfl ?_
         refine w_unguard 155 rfl rfl ?_
         refine w_pure (p_indexAddr (L := (Cmp.hits l room)) (T := tInt) (i := (((Cmp.rank l room).getD i3 default) - 1)) rfl rfl (rd_own (i := 2) rfl) Try.underlying22 sz3 (by omega) (by omega)) rfl rfl rfl ?_
         refine w_unguard 155 rfl rfl ?_
         refine w_pure (p_loadE1 (i := (((Cmp.rank l room).getD i3 default) - 1).toNat) (T := tInt) (L := (Cmp.hits l room)) (v := .int .i64 ((Cmp.hits l room).getD ((((Cmp.rank l room).getD i3 default) - 1).toNat) default)) rfl (rd_own (i := 2) rfl) (by first | assumption | omega) sh3 (congrArg tInt.enc (getd_at (by first | assumption | omega) default))) rfl rfl rfl ?_
         refine w_unguard 155 rfl rfl ?_
         refine w_mv rfl rfl ?_
         refine w_unguard 155 rfl rfl ?_
         refine w_mv rfl rfl ?_
         refine w_unguard 155 rfl rfl ?_
         refine w_mv rfl rfl ?_
         refine w_unguard 155 rfl rfl ?_
         refine w_pure (p_subb (p := (i3 : Int)) (q := 1) rfl rfl (by omega)) rfl rfl rfl ?_
         refine w_unguard 155 rfl rfl ?_
         refine w_pure (p_indexAddr (L := (Cmp.rank l room)) (T := tInt) (i := ((i3 : Int) - 1)) rfl rfl (rd_own (i := 1) rfl) Try.underlying22 sz3 (by omega) (by omega)) rfl rfl rfl ?_
         refine w_unguard 155 rfl rfl ?_
         refine w_pure (p_loadE1 (i := ((i3 : Int) - 1).toNat) (T := tInt) (L := (Cmp.rank l room)) (v := .int .i64 ((Cmp.rank l room).getD (((i3 : Int) - 1).toNat) default)) rfl (rd_own (i := 1) rfl) (by first | assumption | omega) sh3 (congrArg tInt.enc (getd_at (by first | assumption | omega) default))) rfl rfl rfl ?_
         refine w_unguard 155 rfl rfl ?_
         refine w_pure (p_subb (p := ((Cmp.rank l room).getD (((i3 : Int) - 1).toNat) default)) (q := 1) rfl rfl (by omega)) rfl rfl rfl ?_
         refine w_unguard 155 rfl rfl ?_
         refine w_pure (p_indexAddr (L := (Cmp.hits l room)) (T := tInt) (i := (((Cmp.rank l room).getD (((i3 : Int) - 1).toNat) default) - 1)) rfl rfl (rd_own (i := 2) rfl) Try.underlying22 sz3 (by omega) (by omega)) rfl rfl rfl ?_
         refine w_unguard 155 rfl rfl ?_
         refine w_pure (p_loadE1 (i := (((Cmp.rank l room).getD (((i3 : Int) - 1).toNat) default) - 1).toNat) (T := tInt) (L := (Cmp.hits l room)) (v := .int .i64 ((Cmp.hits l room).getD ((((Cmp.rank l room).getD (((i3 : Int) - 1).toNat) default) - 1).toNat) default)) rfl (rd_own (i := 2) rfl) (by first | assumption | omega) sh3 (congrArg tInt.enc (getd_at (by first | assumption | omega) default))) rfl rfl rfl ?_
         refine w_unguard 155 rfl rfl ?_
         refine w_pure (p_eq (p := ((Cmp.hits l room).getD ((((Cmp.rank l room).getD i3 default) - 1).toNat) default)) (q := ((Cmp.hits l room).getD ((((Cmp.rank l room).getD (((i3 : Int) - 1).toNat) default) - 1).toNat) default)) rfl rfl) rfl rfl rfl ?_
         refine w_unguard 155 rfl rfl ?_
         refine w_mv rfl rfl ?_
         refine w_and (p := 185) 11 (decide (((Cmp.rank l room).getD i3 default) < ((Cmp.rank l room).getD (((i3 : Int) - 1).toNat) default))) ?_ ?_ ?_
         ·intro hb38 hk
          simp only [beq_iff_eq] at hb38
          refine w_unguard 174 rfl rfl ?_
          refine w_mv rfl rfl ?_
          refine w_unguard 174 rfl rfl ?_
          refine w_mv rfl rfl ?_
          refine w_unguard 174 rfl rfl ?_
          refine w_pure (p_indexAddr (L := (Cmp.rank l room)) (T := tInt) (i := (i3 : Int)) rfl rfl (rd_own (i := 1) rfl) Try.underlying22 sz3 (by omega) (by omega)) rfl rfl rfl ?_
          refine w_unguard 174 rfl rfl ?_
          refine w_pure (p_loadE1 (i := i3) (T := tInt) (L := (Cmp.rank l room)) (v := .int .i64 ((Cmp.rank l room).getD i3 default)) rfl (rd_own (i := 1) rfl) (by first | assumption | omega) sh3 (congrArg tInt.enc (getd_at (by first | assumption | omega) default))) rfl rfl rfl ?_
          refine w_unguard 174 rfl rfl ?_
          refine w_mv rfl rfl ?_
          refine w_unguard 174 rfl rfl ?_
          refine w_mv rfl rfl ?_
          refine w_unguard 174 rfl rfl ?_
          refine w_pure (p_subb (p := (i3 : Int)) (q := 1) rfl rfl (by omega)) rfl rfl rfl ?_
          refine w_unguard 174 rfl rfl ?_
          refine w_pure (p_indexAddr (L := (Cmp.rank l room)) (T := tInt) (i := ((i3 : Int) - 1)) rfl rfl (rd_own (i := 1) rfl) Try.underlying22 sz3 (by omega) (by omega)) rfl rfl rfl ?_
          refine w_unguard 174 rfl rfl ?_
          refine w_pure (p_loadE1 (i := ((i3 : Int) - 1).toNat) (T := tInt) (L := (Cmp.rank l room)) (v := .int .i64 ((Cmp.rank l room).getD (((i3 : Int) - 1).toNat) default)) rfl (rd_own (i := 1) rfl) (by first | assumption | omega) sh3 (congrArg tInt.enc (getd_at (by first | assumption | omega) default))) rfl rfl rfl ?_
          refine w_unguard 174 rfl rfl ?_
          refine w_pure (p_lt (p := ((Cmp.rank l room).getD i3 default)) (q := ((Cmp.rank l room).getD (((i3 : Int) - 1).toNat) default)) rfl rfl) rfl rfl rfl ?_
          refine w_unguard 155 rfl rfl ?_
          refine w_pt rfl rfl rfl ?_
          exact w_sub (Sub.cons rfl (Sub.skip rfl (Sub.skip rfl (Sub.skip rfl (Sub.skip rfl (Sub.skip rfl (Sub.skip rfl (Sub.skip rfl (Sub.skip rfl (Sub.skip rfl (Sub.skip rfl (Sub.skip rfl (Sub.skip rfl (Sub.refl _)))))))))))))) hk
         ·intro hb38 hk
          refine w_guard_no rfl 174 rfl rfl rfl rfl rfl ?_
          refine w_guard_no rfl 174 rfl rfl rfl rfl rfl ?_
          refine w_guard_no rfl 174 rfl rfl rfl rfl rfl ?_
          refine w_guard_no rfl 174 rfl rfl rfl rfl rfl ?_
          refine w_guard_no rfl 174 rfl rfl rfl rfl rfl ?_
          refine w_guard_no rfl 174 rfl rfl rfl rfl rfl ?_
          refine w_guard_no rfl 174 rfl rfl rfl rfl rfl ?_
          refine w_guard_no rfl 174 rfl rfl rfl rfl rfl ?_
          refine w_guard_no rfl 174 rfl rfl rfl rfl rfl ?_
          refine w_guard_no rfl 174 rfl rfl rfl rfl rfl ?_
          refine w_unguard 155 rfl rfl ?_
          refine w_pf rfl rfl rfl ?_
          exact w_sub (Sub.cons rfl (Sub.skip rfl (Sub.skip rfl (Sub.skip rfl (Sub.skip rfl (Sub.skip rfl (Sub.skip rfl (Sub.skip rfl (Sub.skip rfl (Sub.skip rfl (Sub.skip rfl (Sub.skip rfl (Sub.skip rfl (Sub.refl _)))))))))))))) hk
         refine w_unguard 136 rfl rfl ?_
         refine w_pf rfl rfl rfl ?_
         exact w_sub (Sub.cons rfl (Sub.skip rfl (Sub.skip rfl (Sub.skip rfl (Sub.skip rfl (Sub.skip rfl (Sub.skip rfl (Sub.skip rfl (Sub.skip rfl (Sub.skip rfl (Sub.skip rfl (Sub.skip rfl (Sub.skip rfl (Sub.skip rfl (Sub.skip rfl (Sub.skip rfl (Sub.skip rfl (Sub.skip rfl (Sub.skip rfl (Sub.skip rfl (Sub.skip rfl (Sub.skip rfl (Sub.refl _))))))))))))))))))))))) hk
        ·intro hb37 hk
         refine w_guard_no rfl 155 rfl rfl rfl rfl rfl ?_
         refine w_guard_no rfl 155 rfl rfl rfl rfl rfl ?_
         refine w_guard_no rfl 155 rfl rfl rfl rfl rfl ?_
         refine w_guard_no rfl 155 rfl rfl rfl rfl rfl ?_
         refine w_guard_no rfl 155 rfl rfl rfl rfl rfl ?_
         refine w_guard_no rfl 155 rfl rfl rfl rfl rfl ?_
         refine w_guard_no rfl 155 rfl rfl rfl rfl rfl ?_
         refine w_guard_no rfl 155 rfl rfl rfl rfl rfl ?_
         refine w_guard_no rfl 155 rfl rfl rfl rfl rfl ?_
         refine w_guard_no rfl 155 rfl rfl rfl rfl rfl ?_
         refine w_guard_no rfl 155 rfl rfl rfl rfl rfl ?_
         refine w_guard_no rfl 155 rfl rfl rfl rfl rfl ?_
         refine w_guard_no rfl 155 rfl rfl rfl rfl rfl ?_
         refine w_guard_no rfl 155 rfl rfl rfl rfl rfl ?_
         refine w_guard_no rfl 155 rfl rfl rfl rfl rfl ?_
         refine w_guard_no rfl 155 rfl rfl rfl rfl rfl ?_
         refine w_guard_no rfl 155 rfl rfl rfl rfl rfl ?_
         refine w_guard_no rfl 155 rfl rfl rfl rfl rfl ?_
         refine w_guard_no rfl 155 rfl rfl rfl rfl rfl ?_
         refine w_guard_no rfl 174 rfl rfl rfl rfl rfl ?_
         refine w_guard_no rfl 174 rfl rfl rfl rfl rfl ?_
         refine w_guard_no rfl 174 rfl rfl rfl rfl rfl ?_
         refine w_guard_no rfl 174 rfl rfl rfl rfl rfl ?_
         refine w_guard_no rfl 174 rfl rfl rfl rfl rfl ?_
         refine w_guard_no rfl 174 rfl rfl rfl rfl rfl ?_
         refine w_guard_no rfl 174 rfl rfl rfl rfl rfl ?_
         refine w_guard_no rfl 174 rfl rfl rfl rfl rfl ?_
         refine w_guard_no rfl 174 rfl rfl rfl rfl rfl ?_
         refine w_guard_no rfl 174 rfl rfl rfl rfl rfl ?_
         refine w_guard_no rfl 155 rfl rfl rfl rfl rfl ?_
         refine w_unguard 136 rfl rfl ?_
         refine w_pt rfl rfl rfl ?_
         exact w_sub (Sub.cons rfl (Sub.skip rfl (Sub.skip rfl (Sub.skip rfl (Sub.skip rfl (Sub.skip rfl (Sub.skip rfl (Sub.skip rfl (Sub.skip rfl (Sub.skip rfl (Sub.skip rfl (Sub.skip rfl (Sub.skip rfl (Sub.skip rfl (Sub.skip rfl (Sub.skip rfl (Sub.skip rfl (Sub.skip rfl (Sub.skip rfl (Sub.skip rfl (Sub.skip rfl (Sub.skip rfl (Sub.skip rfl (Sub.skip rfl (Sub.skip rfl (Sub.skip rfl (Sub.skip rfl (Sub.skip rfl (Sub.skip rfl (Sub.skip rfl (Sub.skip rfl (Sub.skip rfl (Sub.skip rfl (Sub.refl _)))))))))))))))))))))))))))))))))) hk
        refine w_pt rfl rfl rfl ?_
        exact w_sub (Sub.cons rfl (Sub.skip rfl (Sub.skip rfl (Sub.skip rfl (Sub.skip rfl (Sub.skip rfl (Sub.skip rfl (Sub.skip rfl (Sub.skip rfl (Sub.skip rfl (Sub.skip rfl (Sub.skip rfl (Sub.skip rfl (Sub.skip rfl (Sub.skip rfl (Sub.skip rfl (Sub.skip rfl (Sub.skip rfl (Sub.skip rfl (Sub.skip rfl (Sub.skip rfl (Sub.skip rfl (Sub.refl _))))))))))))))))))))))) hk
       ·intro hb36 hk
        refine w_guard_no rfl 136 rfl rfl rfl rfl rfl ?_
        refine w_guard_no rfl 136 rfl rfl rfl rfl rfl ?_
        refine w_guard_no rfl 136 rfl rfl rfl rfl rfl ?_
        refine w_guard_no rfl 136 rfl rfl rfl rfl rfl ?_
        refine w_guard_no rfl 136 rfl rfl rfl rfl rfl ?_
        refine w_guard_no rfl 136 rfl rfl rfl rfl rfl ?_
        refine w_guard_no rfl 136 rfl rfl rfl rfl rfl ?_
        refine w_guard_no rfl 136 rfl rfl rfl rfl rfl ?_
        refine w_guard_no rfl 136 rfl rfl rfl rfl rfl ?_
        refine w_guard_no rfl 136 rfl rfl rfl rfl rfl ?_
        refine w_guard_no rfl 136 rfl rfl rfl rfl rfl ?_
        refine w_guard_no rfl 136 rfl rfl rfl rfl rfl ?_
        refine w_guard_no rfl 136 rfl rfl rfl rfl rfl ?_
        refine w_guard_no rfl 136 rfl rfl rfl rfl rfl ?_
        refine w_guard_no rfl 136 rfl rfl rfl rfl rfl ?_
        refine w_guard_no rfl 136 rfl rfl rfl rfl rfl ?_
        refine w_guard_no rfl 136 rfl rfl rfl rfl rfl ?_
        refine w_guard_no rfl 136 rfl rfl rfl rfl rfl ?_
        refine w_guard_no rfl 136 rfl rfl rfl rfl rfl ?_
        refine w_guard_no rfl 155 rfl rfl rfl rfl rfl ?_
        refine w_guard_no rfl 155 rfl rfl rfl rfl rfl ?_
        refine w_guard_no rfl 155 rfl rfl rfl rfl rfl ?_
        refine w_guard_no rfl 155 rfl rfl rfl rfl rfl ?_
        refine w_guard_no rfl 155 rfl rfl rfl rfl rfl ?_
        refine w_guard_no rfl 155 rfl rfl rfl rfl rfl ?_
        refine w_guard_no rfl 155 rfl rfl rfl rfl rfl ?_
        refine w_guard_no rfl 155 rfl rfl rfl rfl rfl ?_
        refine w_guard_no rfl 155 rfl rfl rfl rfl rfl ?_
        refine w_guard_no rfl 155 rfl rfl rfl rfl rfl ?_
        refine w_guard_no rfl 155 rfl rfl rfl rfl rfl ?_
        refine w_guard_no rfl 155 rfl rfl rfl rfl rfl ?_
        refine w_guard_no rfl 155 rfl rfl rfl rfl rfl ?_
        refine w_guard_no rfl 155 rfl rfl rfl rfl rfl ?_
        refine w_guard_no rfl 155 rfl rfl rfl rfl rfl ?_
        refine w_guard_no rfl 155 rfl rfl rfl rfl rfl ?_
        refine w_guard_no rfl 155 rfl rfl rfl rfl rfl ?_
        refine w_guard_no rfl 155 rfl rfl rfl rfl rfl ?_
        refine w_guard_no rfl 155 rfl rfl rfl rfl rfl ?_
        refine w_guard_no rfl 174 rfl rfl rfl rfl rfl ?_
        refine w_guard_no rfl 174 rfl rfl rfl rfl rfl ?_
        refine w_guard_no rfl 174 rfl rfl rfl rfl rfl ?_
        refine w_guard_no rfl 174 rfl rfl rfl rfl rfl ?_
        refine w_guard_no rfl 174 rfl rfl rfl rfl rfl ?_
        refine w_guard_no rfl 174 rfl rfl rfl rfl rfl ?_
        refine w_guard_no rfl 174 rfl rfl rfl rfl rfl ?_
        refine w_guard_no rfl 174 rfl rfl rfl rfl rfl ?_
        refine w_guard_no rfl 174 rfl rfl rfl rfl rfl ?_
        refine w_guard_no rfl 174 rfl rfl rfl rfl rfl ?_
        refine w_guard_no rfl 155 rfl rfl rfl rfl rfl ?_
        refine w_guard_no rfl 136 rfl rfl rfl rfl rfl ?_
        refine w_pf rfl rfl rfl ?_
        exact w_sub (Sub.cons rfl (Sub.skip rfl (Sub.skip rfl (Sub.skip rfl (Sub.skip rfl (Sub.skip rfl (Sub.skip rfl (Sub.skip rfl (Sub.skip rfl (Sub.skip rfl (Sub.skip rfl (Sub.skip rfl (Sub.skip rfl (Sub.skip rfl (Sub.skip rfl (Sub.skip rfl (Sub.skip rfl (Sub.skip rfl (Sub.skip rfl (Sub.skip rfl (Sub.skip rfl (Sub.skip rfl (Sub.skip rfl (Sub.skip rfl (Sub.skip rfl (Sub.skip rfl (Sub.skip rfl (Sub.skip rfl (Sub.skip rfl (Sub.skip rfl (Sub.skip rfl (Sub.skip rfl (Sub.skip rfl (Sub.skip rfl (Sub.skip rfl (Sub.skip rfl (Sub.skip rfl (Sub.skip rfl (Sub.skip rfl (Sub.skip rfl (Sub.skip rfl (Sub.skip rfl (Sub.skip rfl (Sub.skip rfl (Sub.skip rfl (Sub.skip rfl (Sub.skip rfl (Sub.skip rfl (Sub.skip rfl (Sub.skip rfl (Sub.skip rfl (Sub.skip rfl (Sub.skip rfl (Sub.refl _)))))))))))))))))))))))))))))))))))))))))))))))))))))) hk
       refine w_nil (q_then ?_)
       refine c_cond (b := (decide (0 < (i3 : Int)) && (decide (((Cmp.hits l room).getD ((((Cmp.rank l room).getD (((i3 : Int) - 1).toNat) default) - 1).toNat) default) < ((Cmp.hits l room).getD ((((Cmp.rank l room).getD i3 default) - 1).toNat) default)) || ((((Cmp.hits l room).getD ((((Cmp.rank l room).getD i3 default) - 1).toNat) default) == ((Cmp.hits l room).getD ((((Cmp.rank l room).getD (((i3 : Int) - 1).toNat) default) - 1).toNat) default)) && decide (((Cmp.rank l room).getD i3 default) < ((Cmp.rank l room).getD (((i3 : Int) - 1).toNat) default)))))) rfl (fun hc39 => ?_) (fun hc39 => ?_)
       ·simp only [Bool.and_eq_true, decide_eq_true_eq, Bool.or_eq_true, beq_iff_eq] at hc39
        exfalso; have hq := hc39; have hr := Cmp.rank_lt hck (i := i3) (by omega) (by omega); unfold Cmp.R at hr; omega
       ·simp only [Bool.and_eq_false_iff, decide_eq_false_iff_not, Int.not_lt, Bool.or_eq_false_iff, beq_eq_false_iff_ne, ne_eq] at hc39
        refine c_skip ?_
        refine q_block_normal (q_then ?_)
        refine c_region ?_
        refine o_mv rfl rfl ?_
        refine o_pure (p_addb (p := (i3 : Int)) (q := 1) rfl rfl (by omega)) rfl rfl rfl ?_
        refine o_as rfl rfl ?_
        refine o_nil ?_
        refine q_round hK29 (i3 + 1) ?_ ?_ ?_ ?_
        ·clear hK29
         (try dsimp only); omega
        ·(try dsimp only); omega
        ·exact Sub.cons rfl (Sub.cons rfl (Sub.cons rfl (Sub.cons rfl (Sub.cons rfl (Sub.cons rfl (Sub.nil _))))))
        ·exact fun _ hw => HeapIs.pick hw [0, 1, 2, 3] (by decide) rfl
     ·simp only [decide_eq_false_iff_not, Int.not_lt] at hc30
      refine c_exit ?_
      refine q_then_exit (q_then_exit (q_block_exit (q_then ?_)))
      refine c_seq (c_region ?_)
      refine o_as rfl rfl ?_
      refine o_nil (q_then (c_ret ?_))
      refine q_end0 (v := .bool true) (rt1 rfl (r_tmp rfl)) (i := 3) rfl ?_
      exact rfl
end Go.Proofs.Ytfncgfcehkalnaa

/- How the arguments read. -/
namespace Go.Proofs.Ytfncgfcehkalnaa
open Go.ChangeShapes Go.WideShapes Go.ChangeAt Go.RowKit Go.Sx

end Go.Proofs.Ytfncgfcehkalnaa
