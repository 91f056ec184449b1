/- The walks, printed by a program from the translation and a specification. -/
import Derived.Test.YtkndekkacimekaaTsF
import Derived.Test.YtkndekkacimekaaOpLaw2
import Derived.Test.YtkndekkacimekaaWsPure
import Derived.Test.YtkndekkacimekaaTsW1
import Derived.Test.YtkndekkacimekaaTsW3
import Derived.Test.YtkndekkacimekaaTsW4
namespace Go.Proofs.Ytkndekkacimekaa
open Go.Sx Go.RowKit
set_option maxHeartbeats 8000000 in
set_option maxRecDepth 100000 in
theorem oevict_ok (l : List Int) (al : Option Addr) (cl : Nat) (room : Int) : FnM Try.prog 46 [.slice al l.length cl, .int .i64 room] (fun w => Rd tInt w al cl l) (Option Addr × Nat) (fun p => .tuple #[.slice p.1 ((Opt.ev l room).1).length p.2, .int .i64 ((Opt.ev l room).2), .int .i64 (Opt.evErr l room)]) (fun p S w => SlO tInt S w p.1 p.2 ((Opt.ev l room).1)) := by
  refine fnM (nt := 70) (F0 := [(0, .slice al l.length cl), (1, .int .i64 room)]) Try.func46 rfl Try.ntmps46 rfl rfl (fun w0 hpre => ?_)
  have hl := hpre
  have hlhl := hl.2.1
  refine c_seq ?_
  refine c_region ?_
  refine o_pure (p_assign (v := .slice none 0 0) rfl) rfl rfl rfl ?_
  refine o_pure (p_assign (v := .int .i64 0) rfl) rfl rfl rfl ?_
  refine o_pure (p_assign (v := .int .i64 0) rfl) rfl rfl rfl ?_
  refine o_nil ?_
  refine q_then ?_
  refine c_seq ?_
  refine c_region ?_
  refine o_pure (p_move (v := .slice al l.length cl) rfl) rfl rfl rfl ?_
  refine o_call0 (v := .int .i64 (Lru.trace l)) rfl (checkTrace_ok l al cl) hf57 (fun w hw => (rd_base (i := 0) rfl hl) w hw) rfl ?_
  refine o_pure (p_assign (v := .int .i64 (Lru.trace l)) rfl) rfl rfl rfl ?_
  refine o_nil ?_
  refine q_then ?_
  refine c_seq ?_
  refine c_seq ?_
  refine c_region ?_
  refine o_pure (p_move (v := .int .i64 (Lru.trace l)) rfl) rfl rfl rfl ?_
  refine o_pure (p_eq (p := (Lru.trace l)) (q := 0) rfl rfl) rfl rfl rfl ?_
  refine o_pure (p_move (v := .bool ((Lru.trace l) == 0)) rfl) rfl rfl rfl ?_
  refine o_and (p := 25) 4 (!(Lru.okRoom room)) ?_ ?_ ?_
  · intro hb1 hk
    simp only [beq_iff_eq] at hb1
    refine o_unguard 21 rfl rfl ?_
    refine o_pure (p_move (v := .int .i64 room) rfl) rfl rfl rfl ?_
    refine o_unguard 21 rfl rfl ?_
    refine o_call0 (v := .bool (Lru.okRoom room)) rfl (room_ok room) hf70 (fun _ _ => trivial) rfl ?_
    refine o_unguard 21 rfl rfl ?_
    refine o_pure (p_not (b := (Lru.okRoom room)) rfl) rfl rfl rfl ?_
    refine o_pure (p_pick_true (u := .bool (!(Lru.okRoom room))) rfl rfl) rfl rfl rfl ?_
    exact o_sub (Sub.cons rfl (Sub.skip rfl (Sub.skip rfl (Sub.skip rfl (Sub.skip rfl (Sub.skip rfl (Sub.refl _))))))) hk
  · intro hb1 hk
    refine o_guard_no rfl 21 rfl rfl rfl rfl rfl ?_
    refine o_guard_no rfl 21 rfl rfl rfl rfl rfl ?_
    refine o_guard_no rfl 21 rfl rfl rfl rfl rfl ?_
    refine o_pure (p_pick_false (v := .bool false) rfl rfl) rfl rfl rfl ?_
    exact o_sub (Sub.cons rfl (Sub.skip rfl (Sub.skip rfl (Sub.skip rfl (Sub.skip rfl (Sub.skip rfl (Sub.refl _))))))) hk
  refine o_nil ?_
  refine q_then ?_
  refine c_cond (b := (((Lru.trace l) == 0) && (!(Lru.okRoom room)))) rfl (fun hc2 => ?_) (fun hc2 => ?_)
  · simp only [Bool.and_eq_true, beq_iff_eq, Bool.not_eq_true'] at hc2
    have hbad := hc2
    refine c_region ?_
    refine o_pure (p_assign (v := .int .i64 3) rfl) rfl rfl rfl ?_
    refine o_nil ?_
    refine q_then ?_
    refine c_seq ?_
    refine c_seq ?_
    refine c_region ?_
    refine o_pure (p_move (v := .int .i64 3) rfl) rfl rfl rfl ?_
    refine o_pure (p_ne (p := 3) (q := 0) rfl rfl) rfl rfl rfl ?_
    refine o_nil ?_
    refine q_then ?_
    refine c_true rfl ?_
    refine c_seq ?_
    refine c_region ?_
    refine o_pure (p_move (v := .int .i64 3) rfl) rfl rfl rfl ?_
    refine o_pure (p_assign (v := .slice none 0 0) rfl) rfl rfl rfl ?_
    refine o_pure (p_assign (v := .int .i64 0) rfl) rfl rfl rfl ?_
    refine o_pure (p_assign (v := .int .i64 3) rfl) rfl rfl rfl ?_
    refine o_nil ?_
    refine q_then ?_
    refine c_ret ?_
    refine q_then_ret ?_
    obtain ⟨hv1, hv2⟩ : _ ∧ _ := by first | exact Opt.ev2 (room := room) hbad.1 hbad.2 | exact Opt.ev3 (room := room) htr hrk | exact Opt.ev1 (room := room) (by assumption)
    have hr0 : ([] : List Int) = ((Opt.ev l room).1) := by
      first | (rw [hv1]; done) | exact hv2.symm | (rw [hv1, ← hdn]; done)
    have hr1 : (0 : Int) = ((Opt.ev l room).2) := by
      first | (rw [hv1]; done) | exact hv2.symm | (rw [hv1, ← hdn]; done)
    have hr2 : (3 : Int) = (Opt.evErr l room) := by
      first | (rw [hv1]; done) | exact hv2.symm | (rw [hv1, ← hdn]; done)
    refine q_endM (p := (none, 0)) (fun _ => False) (rt3 rfl (r_tmp rfl) (r_tmp rfl) (r_tmp rfl)) (i := 0) rfl ?_ ?_ ?_
    · exact (by have hcc := congr (congr (congrArg (fun (y0 : List Int) (y1 : Int) (y2 : Int) => (.tuple #[.slice none y0.length 0, .int .i64 y1, .int .i64 y2] : Value)) hr0) hr1) hr2; exact hcc)
    · intro w hw b hb; exact hb.elim
    · intro w hw; exact Eq.mp (congrArg (fun y => SlO tInt _ w none 0 y) hr0) (SlO.nil tInt w)
  · simp only [Bool.and_eq_false_iff, beq_eq_false_iff_ne, ne_eq, Bool.not_eq_false'] at hc2
    have hro := hc2
    refine c_skip ?_
    refine q_then ?_
    refine c_seq ?_
    refine c_seq ?_
    refine c_region ?_
    refine o_pure (p_move (v := .int .i64 (Lru.trace l)) rfl) rfl rfl rfl ?_
    refine o_pure (p_ne (p := (Lru.trace l)) (q := 0) rfl rfl) rfl rfl rfl ?_
    refine o_nil ?_
    refine q_then ?_
    refine c_cond (b := ((Lru.trace l) != 0)) rfl (fun hc3 => ?_) (fun hc3 => ?_)
    · simp only [bne_iff_ne, ne_eq] at hc3
      refine c_seq ?_
      refine c_region ?_
      refine o_pure (p_move (v := .int .i64 (Lru.trace l)) rfl) rfl rfl rfl ?_
      refine o_pure (p_assign (v := .slice none 0 0) rfl) rfl rfl rfl ?_
      refine o_pure (p_assign (v := .int .i64 0) rfl) rfl rfl rfl ?_
      refine o_pure (p_assign (v := .int .i64 (Lru.trace l)) rfl) rfl rfl rfl ?_
      refine o_nil ?_
      refine q_then ?_
      refine c_ret ?_
      refine q_then_ret ?_
      obtain ⟨hv1, hv2⟩ : _ ∧ _ := by first | exact Opt.ev2 (room := room) hbad.1 hbad.2 | exact Opt.ev3 (room := room) htr hrk | exact Opt.ev1 (room := room) (by assumption)
      have hr0 : ([] : List Int) = ((Opt.ev l room).1) := by
        first | (rw [hv1]; done) | exact hv2.symm | (rw [hv1, ← hdn]; done)
      have hr1 : (0 : Int) = ((Opt.ev l room).2) := by
        first | (rw [hv1]; done) | exact hv2.symm | (rw [hv1, ← hdn]; done)
      have hr2 : ((Lru.trace l) : Int) = (Opt.evErr l room) := by
        first | (rw [hv1]; done) | exact hv2.symm | (rw [hv1, ← hdn]; done)
      refine q_endM (p := (none, 0)) (fun _ => False) (rt3 rfl (r_tmp rfl) (r_tmp rfl) (r_tmp rfl)) (i := 0) rfl ?_ ?_ ?_
      · exact (by have hcc := congr (congr (congrArg (fun (y0 : List Int) (y1 : Int) (y2 : Int) => (.tuple #[.slice none y0.length 0, .int .i64 y1, .int .i64 y2] : Value)) hr0) hr1) hr2; exact hcc)
      · intro w hw b hb; exact hb.elim
      · intro w hw; exact Eq.mp (congrArg (fun y => SlO tInt _ w none 0 y) hr0) (SlO.nil tInt w)
    · simp only [bne_eq_false_iff_eq] at hc3
      have htr := hc3
      have h200 := (Lru.trace_ok.1 htr).1
      have hrk := hro.resolve_left (fun h => h htr)
      have hrm := Lru.room_ok hrk
      have hnl := Opt.nexts_len l
      refine c_skip ?_
      refine q_then ?_
      refine c_seq ?_
      refine c_region ?_
      refine o_pure (p_move (v := .slice al l.length cl) rfl) rfl rfl rfl ?_
      refine o_callM rfl (nexts_ok l al cl (by omega)) hf78 (fun w hw => (rd_base (i := 0) rfl hl) w hw) rfl (fun _ _ _ _ ha hA => SlO.agree ha hA) ?_
      rintro ⟨a6, c7⟩ S4
      refine o_know (fun w hw => own_len (i := 0) (T := tInt) hw rfl) (fun hlr8 => ?_)
      refine o_pure (p_assign (v := .slice a6 (Opt.nexts l).length c7) rfl) rfl rfl rfl ?_
      refine o_nil ?_
      refine q_then ?_
      refine c_seq ?_
      refine c_region ?_
      refine o_makeMap (ν := Int) kInt (fun z : Int => .int .i64 z) rfl (fun B9 => ?_)
      refine o_pure (p_assign (v := .map (some B9)) rfl) rfl rfl rfl ?_
      refine o_pure (p_assign (v := .int .i64 0) rfl) rfl rfl rfl ?_
      refine o_nil ?_
      refine q_then ?_
      refine c_seq ?_
      refine c_region ?_
      refine o_pure (p_assign (v := .slice none 0 0) rfl) rfl rfl rfl ?_
      refine o_nil ?_
      refine q_then ?_
      refine c_seq ?_
      refine c_seq ?_
      refine c_region ?_
      refine o_pure (p_move (v := .slice al l.length cl) rfl) rfl rfl rfl ?_
      refine o_pure (p_len_slice (len := l.length) rfl rfl Try.underlying30) rfl rfl rfl ?_
      refine o_pure (p_move (v := .int .i64 0) rfl) rfl rfl rfl ?_
      refine o_nil ?_
      refine q_then ?_
      refine c_block ?_
      refine c_ownNil tInt ?_
      refine c_loop (St := Int × List Int × Option Addr × Nat × (Nat → Prop) × Nat × List (Int × Int))
        (fun ⟨misses, out, aout, cout, Sout, k, m⟩ => [(1, .int .i64 room), (8, .slice a6 (Opt.nexts l).length c7), (9, .map (some B9)), (10, .int .i64 misses), (11, .slice aout out.length cout), (32, .slice al l.length cl), (33, .int .i64 (l.length : Int)), (34, .int .i64 (k : Int))])
        (fun ⟨misses, out, aout, cout, Sout, k, m⟩ => [own tInt Sout aout cout out, mapE kInt (fun z : Int => .int .i64 z) B9 m, own tInt S4 a6 c7 (Opt.nexts l), base w0])
        (fun ⟨misses, out, aout, cout, Sout, k, m⟩ => Opt.EInv l room m out misses k)
        (fun ⟨misses, out, aout, cout, Sout, k, m⟩ => l.length - k)
        (0, [], none, 0, (fun _ => False), 0, []) ?_ (Sub.cons rfl (Sub.cons rfl (Sub.cons rfl (Sub.cons rfl (Sub.cons rfl (Sub.cons rfl (Sub.cons rfl (Sub.cons rfl (Sub.nil _))))))))) (fun _ hw => hw) ?_
      · exact Opt.EInv.start l room
      rintro ⟨misses, out, aout, cout, Sout, k, m⟩ hI K hK11
      obtain ⟨hol, hm0, hm1⟩ := hI.bd hrm.1
      have hkl := hI.le
      show SC _ _ Try.prog 70 w0 _ _ [(1, .int .i64 room), (8, .slice a6 (Opt.nexts l).length c7), (9, .map (some B9)), (10, .int .i64 misses), (11, .slice aout out.length cout), (32, .slice al l.length cl), (33, .int .i64 (l.length : Int)), (34, .int .i64 (k : Int))] [own tInt Sout aout cout out, mapE kInt (fun z : Int => .int .i64 z) B9 m, own tInt S4 a6 c7 (Opt.nexts l), base w0]
      refine c_seq ?_
      refine c_region ?_
      refine o_pure (p_lt (p := (k : Int)) (q := (l.length : Int)) rfl rfl) rfl rfl rfl ?_
      refine o_nil ?_
      refine q_then ?_
      refine c_seq ?_
      refine c_cond (b := decide ((k : Int) < (l.length : Int))) rfl (fun hc12 => ?_) (fun hc12 => ?_)
      · simp only [decide_eq_true_eq] at hc12
        have hnx := Opt.nexts_at (l := l) (i := k) (by omega) (by omega)
        refine c_skip ?_
        refine q_then ?_
        refine c_seq ?_
        refine c_block ?_
        refine c_seq ?_
        refine c_region ?_
        refine o_pure (p_move (v := .int .i64 (k : Int)) rfl) rfl rfl rfl ?_
        refine o_pure (p_indexAddr (L := l) (T := tInt) (i := (k : Int)) rfl rfl (rd_base (i := 3) rfl hl) Try.underlying30 sz3 (by omega) (by omega)) rfl rfl rfl ?_
        refine o_pure (p_loadE1 (i := k) (T := tInt) (L := l) (v := .int .i64 (l[k])) rfl (rd_base (i := 3) rfl hl) (by first | assumption | omega) sh3 rfl) rfl rfl rfl ?_
        refine o_pure (p_assign (v := .int .i64 (k : Int)) rfl) rfl rfl rfl ?_
        refine o_pure (p_assign (v := .int .i64 (l[k])) rfl) rfl rfl rfl ?_
        refine o_nil ?_
        refine q_then ?_
        refine c_seq ?_
        refine c_region ?_
        refine o_pure (p_assign (v := .int .i64 (-1)) rfl) rfl rfl rfl ?_
        refine o_nil ?_
        refine q_then ?_
        refine c_seq ?_
        refine c_seq ?_
        refine c_region ?_
        refine o_pure (p_move (v := .map (some B9)) rfl) rfl rfl rfl ?_
        refine o_pure (p_move (v := .int .i64 (l[k])) rfl) rfl rfl rfl ?_
        refine o_pure (p_lookup2 (i := 1) (K := kInt) (ve := (fun z : Int => .int .i64 z)) (m := m) (k := l[k]) (dflt := 0) rfl rfl rfl Try.underlying117 Try.underlying3 zv3) rfl rfl rfl ?_
        refine o_pure (p_move (v := .tuple #[.int .i64 ((AL.get m (l[k])).getD 0), .bool ((AL.get m (l[k])).isSome)]) rfl) rfl rfl rfl ?_
        refine o_pure (p_extract (vs := [.int .i64 ((AL.get m (l[k])).getD 0), .bool ((AL.get m (l[k])).isSome)]) (v := .int .i64 ((AL.get m (l[k])).getD 0)) rfl rfl) rfl rfl rfl ?_
        refine o_pure (p_extract (vs := [.int .i64 ((AL.get m (l[k])).getD 0), .bool ((AL.get m (l[k])).isSome)]) (v := .bool ((AL.get m (l[k])).isSome)) rfl rfl) rfl rfl rfl ?_
        refine o_pure (p_assign (v := .int .i64 ((AL.get m (l[k])).getD 0)) rfl) rfl rfl rfl ?_
        refine o_pure (p_assign (v := .bool ((AL.get m (l[k])).isSome)) rfl) rfl rfl rfl ?_
        refine o_nil ?_
        refine q_then ?_
        refine c_seq ?_
        refine c_region ?_
        refine o_pure (p_move (v := .bool ((AL.get m (l[k])).isSome)) rfl) rfl rfl rfl ?_
        refine o_pure (p_not (b := (AL.get m (l[k])).isSome) rfl) rfl rfl rfl ?_
        refine o_nil ?_
        refine q_then ?_
        refine c_cond (b := (!(AL.get m (l[k])).isSome)) rfl (fun hc13 => ?_) (fun hc13 => ?_)
        · simp only [Bool.not_eq_true'] at hc13
          refine c_seq ?_
          refine c_region ?_
          refine o_pure (p_move (v := .int .i64 misses) rfl) rfl rfl rfl ?_
          refine o_pure (p_addb (p := misses) (q := 1) rfl rfl (by omega)) rfl rfl rfl ?_
          refine o_pure (p_assign (v := .int .i64 (misses + 1)) rfl) rfl rfl rfl ?_
          refine o_nil ?_
          refine q_then ?_
          refine c_seq ?_
          refine c_region ?_
          refine o_pure (p_move (v := .map (some B9)) rfl) rfl rfl rfl ?_
          refine o_pure (p_len_map (i := 1) (K := kInt) (ve := (fun z : Int => .int .i64 z)) (m := m) rfl rfl rfl Try.underlying117) rfl rfl rfl ?_
          refine o_pure (p_move (v := .int .i64 room) rfl) rfl rfl rfl ?_
          refine o_pure (p_eq (p := (m.length : Int)) (q := room) rfl rfl) rfl rfl rfl ?_
          refine o_nil ?_
          refine q_then ?_
          refine c_cond (b := ((m.length : Int) == room)) rfl (fun hc14 => ?_) (fun hc14 => ?_)
          · simp only [beq_iff_eq] at hc14
            refine c_seq ?_
            refine c_region ?_
            refine o_pure (p_move (v := .map (some B9)) rfl) rfl rfl rfl ?_
            refine o_call0 (v := .int .i64 (Opt.far m)) rfl (farthest_ok m B9 (by first | assumption | exact hI.pos)) hf79 (fun w hw => rmap_own (i := 1) rfl w hw) rfl ?_
            refine o_pure (p_assign (v := .int .i64 (Opt.far m)) rfl) rfl rfl rfl ?_
            refine o_nil ?_
            refine q_then ?_
            refine c_region ?_
            refine o_pure (p_move (v := .map (some B9)) rfl) rfl rfl rfl ?_
            refine o_pure (p_move (v := .int .i64 (Opt.far m)) rfl) rfl rfl rfl ?_
            refine o_delete (i := 1) (K := kInt) (ve := (fun z : Int => .int .i64 z)) (m := m) (k := (Opt.far m)) rfl rfl rfl rfl Try.underlying117 Try.underlying3 ?_
            refine o_nil ?_
            refine q_then ?_
            refine c_seq ?_
            refine c_region ?_
            refine o_pure (p_move (v := .map (some B9)) rfl) rfl rfl rfl ?_
            refine o_pure (p_move (v := .int .i64 (l[k])) rfl) rfl rfl rfl ?_
            refine o_pure (p_move (v := .slice a6 (Opt.nexts l).length c7) rfl) rfl rfl rfl ?_
            refine o_pure (p_move (v := .int .i64 (k : Int)) rfl) rfl rfl rfl ?_
            refine o_pure (p_indexAddr (L := (Opt.nexts l)) (T := tInt) (i := (k : Int)) rfl rfl (rd_own (i := 2) rfl) Try.underlying30 sz3 (by omega) (by omega)) rfl rfl rfl ?_
            refine o_pure (p_loadE1 (i := k) (T := tInt) (L := (Opt.nexts l)) (v := .int .i64 ((Opt.nexts l)[k])) rfl (rd_own (i := 2) rfl) (by first | assumption | omega) sh3 rfl) rfl rfl rfl ?_
            refine o_mapUpdate (i := 1) (K := kInt) (ve := (fun z : Int => .int .i64 z)) (m := (AL.del m (Opt.far m))) (k := l[k]) (v := (Opt.nexts l)[k]) rfl rfl rfl rfl Try.underlying117 Try.underlying3 ?_
            refine o_nil ?_
            refine q_then ?_
            refine c_region ?_
            refine o_pure (p_move (v := .slice aout out.length cout) rfl) rfl rfl rfl ?_
            refine o_pure (p_move (v := .int .i64 (Opt.far m)) rfl) rfl rfl rfl ?_
            refine o_buildSlice (m := 1) (T := tInt) (L := [(Opt.far m)]) (vs := [.int .i64 (Opt.far m)]) rfl rfl rfl rfl Try.underlying30 sz3 (by decide) ze3 rfl (by decide) rfl (fun S15 a16 => ?_)
            refine o_append (i := 1) (L := out) (M := [(Opt.far m)]) (T := tInt) rfl rfl rfl (rd_own (i := 0) rfl) Try.underlying30 Try.underlying30 (by intro k h; cases h) el3 (by intro z; simp [tInt, one1]) (by decide) (by first | omega | (simp only [List.length_cons, List.length_nil]; omega) | (simp only [List.length_append, List.length_cons, List.length_nil, List.length_take, List.length_drop]; omega)) rfl (fun a18 c19 S20 => ?_)
            refine o_pure (p_assign (v := .slice a18 (out ++ [(Opt.far m)]).length c19) rfl) rfl rfl rfl ?_
            refine o_nil ?_
            refine q_block_normal (q_then ?_)
            refine c_region ?_
            refine o_pure (p_addb (p := (k : Int)) (q := 1) rfl rfl (by omega)) rfl rfl rfl ?_
            refine o_pure (p_move (v := .int .i64 ((k : Int) + 1)) rfl) rfl rfl rfl ?_
            refine o_nil ?_
            refine q_round hK11 ((misses + 1), (out ++ [(Opt.far m)]), a18, c19, S20, k + 1, (AL.set (AL.del m (Opt.far m)) (l[k]) ((Opt.nexts l)[k]))) ?_ ?_ ?_ ?_
            · clear hK11
              first | exact hI.hit hrm.1 (by omega) (by assumption) hnx | exact hI.evict hrm.1 (by omega) (by assumption) (by assumption) hnx | exact hI.add hrm.1 (by omega) (by assumption) (by assumption) hnx
            · (try dsimp only); omega
            · exact Sub.cons rfl (Sub.cons rfl (Sub.cons rfl (Sub.cons rfl (Sub.cons rfl (Sub.cons rfl (Sub.cons rfl (Sub.cons rfl (Sub.nil _))))))))
            · exact fun _ hw => HeapIs.pick hw [1, 2, 3, 4] (by decide) rfl
          · simp only [beq_eq_false_iff_ne, ne_eq] at hc14
            refine c_skip ?_
            refine q_then ?_
            refine c_seq ?_
            refine c_region ?_
            refine o_pure (p_move (v := .map (some B9)) rfl) rfl rfl rfl ?_
            refine o_pure (p_move (v := .int .i64 (l[k])) rfl) rfl rfl rfl ?_
            refine o_pure (p_move (v := .slice a6 (Opt.nexts l).length c7) rfl) rfl rfl rfl ?_
            refine o_pure (p_move (v := .int .i64 (k : Int)) rfl) rfl rfl rfl ?_
            refine o_pure (p_indexAddr (L := (Opt.nexts l)) (T := tInt) (i := (k : Int)) rfl rfl (rd_own (i := 2) rfl) Try.underlying30 sz3 (by omega) (by omega)) rfl rfl rfl ?_
            refine o_pure (p_loadE1 (i := k) (T := tInt) (L := (Opt.nexts l)) (v := .int .i64 ((Opt.nexts l)[k])) rfl (rd_own (i := 2) rfl) (by first | assumption | omega) sh3 rfl) rfl rfl rfl ?_
            refine o_mapUpdate (i := 1) (K := kInt) (ve := (fun z : Int => .int .i64 z)) (m := m) (k := l[k]) (v := (Opt.nexts l)[k]) rfl rfl rfl rfl Try.underlying117 Try.underlying3 ?_
            refine o_nil ?_
            refine q_then ?_
            refine c_region ?_
            refine o_pure (p_move (v := .slice aout out.length cout) rfl) rfl rfl rfl ?_
            refine o_pure (p_move (v := .int .i64 (-1)) rfl) rfl rfl rfl ?_
            refine o_buildSlice (m := 1) (T := tInt) (L := [(-1)]) (vs := [.int .i64 (-1)]) rfl rfl rfl rfl Try.underlying30 sz3 (by decide) ze3 rfl (by decide) rfl (fun S21 a22 => ?_)
            refine o_append (i := 1) (L := out) (M := [(-1)]) (T := tInt) rfl rfl rfl (rd_own (i := 0) rfl) Try.underlying30 Try.underlying30 (by intro k h; cases h) el3 (by intro z; simp [tInt, one1]) (by decide) (by first | omega | (simp only [List.length_cons, List.length_nil]; omega) | (simp only [List.length_append, List.length_cons, List.length_nil, List.length_take, List.length_drop]; omega)) rfl (fun a24 c25 S26 => ?_)
            refine o_pure (p_assign (v := .slice a24 (out ++ [(-1)]).length c25) rfl) rfl rfl rfl ?_
            refine o_nil ?_
            refine q_block_normal (q_then ?_)
            refine c_region ?_
            refine o_pure (p_addb (p := (k : Int)) (q := 1) rfl rfl (by omega)) rfl rfl rfl ?_
            refine o_pure (p_move (v := .int .i64 ((k : Int) + 1)) rfl) rfl rfl rfl ?_
            refine o_nil ?_
            refine q_round hK11 ((misses + 1), (out ++ [(-1)]), a24, c25, S26, k + 1, (AL.set m (l[k]) ((Opt.nexts l)[k]))) ?_ ?_ ?_ ?_
            · clear hK11
              first | exact hI.hit hrm.1 (by omega) (by assumption) hnx | exact hI.evict hrm.1 (by omega) (by assumption) (by assumption) hnx | exact hI.add hrm.1 (by omega) (by assumption) (by assumption) hnx
            · (try dsimp only); omega
            · exact Sub.cons rfl (Sub.cons rfl (Sub.cons rfl (Sub.cons rfl (Sub.cons rfl (Sub.cons rfl (Sub.cons rfl (Sub.cons rfl (Sub.nil _))))))))
            · exact fun _ hw => HeapIs.pick hw [1, 2, 3, 4] (by decide) rfl
        · simp only [Bool.not_eq_false'] at hc13
          refine c_skip ?_
          refine q_then ?_
          refine c_seq ?_
          refine c_region ?_
          refine o_pure (p_move (v := .map (some B9)) rfl) rfl rfl rfl ?_
          refine o_pure (p_move (v := .int .i64 (l[k])) rfl) rfl rfl rfl ?_
          refine o_pure (p_move (v := .slice a6 (Opt.nexts l).length c7) rfl) rfl rfl rfl ?_
          refine o_pure (p_move (v := .int .i64 (k : Int)) rfl) rfl rfl rfl ?_
          refine o_pure (p_indexAddr (L := (Opt.nexts l)) (T := tInt) (i := (k : Int)) rfl rfl (rd_own (i := 2) rfl) Try.underlying30 sz3 (by omega) (by omega)) rfl rfl rfl ?_
          refine o_pure (p_loadE1 (i := k) (T := tInt) (L := (Opt.nexts l)) (v := .int .i64 ((Opt.nexts l)[k])) rfl (rd_own (i := 2) rfl) (by first | assumption | omega) sh3 rfl) rfl rfl rfl ?_
          refine o_mapUpdate (i := 1) (K := kInt) (ve := (fun z : Int => .int .i64 z)) (m := m) (k := l[k]) (v := (Opt.nexts l)[k]) rfl rfl rfl rfl Try.underlying117 Try.underlying3 ?_
          refine o_nil ?_
          refine q_then ?_
          refine c_region ?_
          refine o_pure (p_move (v := .slice aout out.length cout) rfl) rfl rfl rfl ?_
          refine o_pure (p_move (v := .int .i64 (-1)) rfl) rfl rfl rfl ?_
          refine o_buildSlice (m := 1) (T := tInt) (L := [(-1)]) (vs := [.int .i64 (-1)]) rfl rfl rfl rfl Try.underlying30 sz3 (by decide) ze3 rfl (by decide) rfl (fun S27 a28 => ?_)
          refine o_append (i := 1) (L := out) (M := [(-1)]) (T := tInt) rfl rfl rfl (rd_own (i := 0) rfl) Try.underlying30 Try.underlying30 (by intro k h; cases h) el3 (by intro z; simp [tInt, one1]) (by decide) (by first | omega | (simp only [List.length_cons, List.length_nil]; omega) | (simp only [List.length_append, List.length_cons, List.length_nil, List.length_take, List.length_drop]; omega)) rfl (fun a30 c31 S32 => ?_)
          refine o_pure (p_assign (v := .slice a30 (out ++ [(-1)]).length c31) rfl) rfl rfl rfl ?_
          refine o_nil ?_
          refine q_block_normal (q_then ?_)
          refine c_region ?_
          refine o_pure (p_addb (p := (k : Int)) (q := 1) rfl rfl (by omega)) rfl rfl rfl ?_
          refine o_pure (p_move (v := .int .i64 ((k : Int) + 1)) rfl) rfl rfl rfl ?_
          refine o_nil ?_
          refine q_round hK11 (misses, (out ++ [(-1)]), a30, c31, S32, k + 1, (AL.set m (l[k]) ((Opt.nexts l)[k]))) ?_ ?_ ?_ ?_
          · clear hK11
            first | exact hI.hit hrm.1 (by omega) (by assumption) hnx | exact hI.evict hrm.1 (by omega) (by assumption) (by assumption) hnx | exact hI.add hrm.1 (by omega) (by assumption) (by assumption) hnx
          · (try dsimp only); omega
          · exact Sub.cons rfl (Sub.cons rfl (Sub.cons rfl (Sub.cons rfl (Sub.cons rfl (Sub.cons rfl (Sub.cons rfl (Sub.cons rfl (Sub.nil _))))))))
          · exact fun _ hw => HeapIs.pick hw [1, 2, 3, 4] (by decide) rfl
      · simp only [decide_eq_false_iff_not, Int.not_lt] at hc12
        have hdn := hI.done (by omega)
        refine c_exit ?_
        refine q_then_exit (q_then_exit (q_block_exit (q_then ?_)))
        refine c_seq ?_
        refine c_region ?_
        refine o_pure (p_move (v := .slice aout out.length cout) rfl) rfl rfl rfl ?_
        refine o_pure (p_move (v := .int .i64 misses) rfl) rfl rfl rfl ?_
        refine o_pure (p_assign (v := .slice aout out.length cout) rfl) rfl rfl rfl ?_
        refine o_pure (p_assign (v := .int .i64 misses) rfl) rfl rfl rfl ?_
        refine o_pure (p_assign (v := .int .i64 0) rfl) rfl rfl rfl ?_
        refine o_nil ?_
        refine q_then ?_
        refine c_ret ?_
        obtain ⟨hv1, hv2⟩ : _ ∧ _ := by first | exact Opt.ev2 (room := room) hbad.1 hbad.2 | exact Opt.ev3 (room := room) htr hrk | exact Opt.ev1 (room := room) (by assumption)
        have hr0 : (out : List Int) = ((Opt.ev l room).1) := by
          first | (rw [hv1]; done) | exact hv2.symm | (rw [hv1, ← hdn]; done)
        have hr1 : (misses : Int) = ((Opt.ev l room).2) := by
          first | (rw [hv1]; done) | exact hv2.symm | (rw [hv1, ← hdn]; done)
        have hr2 : (0 : Int) = (Opt.evErr l room) := by
          first | (rw [hv1]; done) | exact hv2.symm | (rw [hv1, ← hdn]; done)
        refine q_endM (p := (aout, cout)) Sout (rt3 rfl (r_tmp rfl) (r_tmp rfl) (r_tmp rfl)) (i := 3) rfl ?_ ?_ ?_
        · exact (by have hcc := congr (congr (congrArg (fun (y0 : List Int) (y1 : Int) (y2 : Int) => (.tuple #[.slice aout y0.length cout, .int .i64 y1, .int .i64 y2] : Value)) hr0) hr1) hr2; exact hcc)
        · exact fun w hw => hw.above (i := 3) (j := 0) (by decide) rfl rfl
        · intro w hw; exact Eq.mp (congrArg (fun y => SlO tInt _ w aout cout y) hr0) ((hw.at (i := 0) rfl).here)
end Go.Proofs.Ytkndekkacimekaa
