/- The walks, printed by a program from the translation and a specification. -/
import Derived.Test.YtfncgfcehkalnaaCpF
import Derived.Test.YtfncgfcehkalnaaCpPureM3
import Derived.Test.YtfncgfcehkalnaaCpW2
import Derived.Test.YtfncgfcehkalnaaCpW3
import Derived.Test.YtfncgfcehkalnaaCpW4M2
import Derived.Test.YtfncgfcehkalnaaProg
import Derived.Test.YtfncgfcehkalnaaSx12M16
namespace Go.Proofs.Ytfncgfcehkalnaa
open Go.Sx Go.RowKit
set_option maxHeartbeats 8000000 in
set_option maxRecDepth 100000 in
theorem runs1_ok (l : List Int) (al : Option Addr) (cl : Nat) (room : Int) (hy1 : Lru.trace l = 0 ∧ 2 ≤ room ∧ room ≤ 40) : Fn0 Try.prog 64 [.slice al l.length cl, .int .i64 room] (fun w => Rd tInt w al cl l) (.int .i64 (Cmp.by_ l room 1)) := by
 refine fn0 (nt := 17) (F0 := [(0, .slice al l.length cl), (1, .int .i64 room)]) Try.func64 rfl Try.ntmps64 rfl rfl (fun w0 hpre => ?_)
 have hl := hpre
 have hlhl := hl.2.1
 have h200 := (Lru.trace_ok.1 hy1.1).1
 have ht2 : room.tdiv 2 = room / 2 := Int.tdiv_eq_ediv_of_nonneg (by omega)
 refine c_seq (c_region ?_)
 refine o_as rfl rfl ?_
 refine o_nil (q_then (c_seq (c_region ?_)))
 refine o_mv rfl rfl ?_
 refine o_pure (p_build (cells := [.int .i64 room, .slice none 0 0]) fp50 ze50 rfl rfl) rfl rfl rfl ?_
 refine o_mv rfl rfl ?_
 refine o_callM rfl (lrun_ok (⟨room, []⟩ : DCache) none 0 l al cl) hf29 (fun w hw => ⟨rd_nil w hw, (rd_base (i := 0) rfl hl) w hw⟩) rfl (fun _ _ _ _ ha hA => SlO.agree ha hA) ?_
 rintro ⟨a3, c4⟩ S1
 refine o_know (fun w hw => own_len (i := 0) (T := tInt) hw rfl) (fun hlr5 => ?_)
 refine o_mv rfl rfl ?_
 refine o_ex rfl rfl rfl ?_
 refine o_ex rfl rfl rfl ?_
 refine o_ex rfl rfl rfl ?_
 refine o_alloc ze50 rfl (fun B6 => ?_)
 refine o_storeN (i := 0) (vs := [.int .i64 (((Lru.run (⟨room, []⟩ : DCache) l).1).room), .slice a3 (((Lru.run (⟨room, []⟩ : DCache) l).1).keys).length c4]) (cs' := [.int .i64 (((Lru.run (⟨room, []⟩ : DCache) l).1).room), .slice a3 (((Lru.run (⟨room, []⟩ : DCache) l).1).keys).length c4]) rfl rfl rfl sz50 rfl rfl rfl rfl ?_
 refine o_as rfl rfl ?_
 refine o_as rfl rfl ?_
 refine o_nil (q_then (c_seq (c_region ?_)))
 refine o_mv rfl rfl ?_
 refine o_as rfl rfl ?_
 refine o_nil (q_then (c_ret ?_))
 have hr0 : (((Lru.run (⟨room, []⟩ : DCache) l).2) : Int) = (Cmp.by_ l room 1) := by
  rfl
 refine q_end0 (v := .int .i64 ((Lru.run (⟨room, []⟩ : DCache) l).2)) (rt1 rfl (r_tmp rfl)) (i := 2) rfl ?_
 exact (by have hcc := congrArg (fun (y0 : Int) => (.int .i64 y0 : Value)) hr0; exact hcc)

set_option maxHeartbeats 8000000 in
set_option maxRecDepth 100000 in
theorem runs2_ok (l : List Int) (al : Option Addr) (cl : Nat) (room : Int) (hy1 : Lru.trace l = 0 ∧ 2 ≤ room ∧ room ≤ 40) : Fn0 Try.prog 65 [.slice al l.length cl, .int .i64 room] (fun w => Rd tInt w al cl l) (.int .i64 (Cmp.by_ l room 2)) := by
 refine fn0 (nt := 17) (F0 := [(0, .slice al l.length cl), (1, .int .i64 room)]) Try.func65 rfl Try.ntmps65 rfl rfl (fun w0 hpre => ?_)
 have hl := hpre
 have hlhl := hl.2.1
 have h200 := (Lru.trace_ok.1 hy1.1).1
 have ht2 : room.tdiv 2 = room / 2 := Int.tdiv_eq_ediv_of_nonneg (by omega)
 refine c_seq (c_region ?_)
 refine o_as rfl rfl ?_
 refine o_nil (q_then (c_seq (c_region ?_)))
 refine o_mv rfl rfl ?_
 refine o_pure (p_build (cells := [.int .i64 room, .int .i64 0, .slice none 0 0]) fp95 ze95 rfl rfl) rfl rfl rfl ?_
 refine o_mv rfl rfl ?_
 refine o_callM rfl (run_ok (⟨room, 0, []⟩ : DClock) none 0 l al cl) hf66 (fun w hw => ⟨rd_nil w hw, (rd_base (i := 0) rfl hl) w hw⟩) rfl (fun _ _ _ _ ha hA => SlO.agree ha hA) ?_
 rintro ⟨a3, c4⟩ S1
 refine o_know (fun w hw => own_len (i := 0) (T := tFrame) hw rfl) (fun hlr5 => ?_)
 refine o_mv rfl rfl ?_
 refine o_ex rfl rfl rfl ?_
 refine o_ex rfl rfl rfl ?_
 refine o_ex rfl rfl rfl ?_
 refine o_alloc ze95 rfl (fun B6 => ?_)
 refine o_storeN (i := 0) (vs := [.int .i64 (((Clock.run (⟨room, 0, []⟩ : DClock) l).1).room), .int .i64 (((Clock.run (⟨room, 0, []⟩ : DClock) l).1).hand), .slice a3 (((Clock.run (⟨room, 0, []⟩ : DClock) l).1).frames).length c4]) (cs' := [.int .i64 (((Clock.run (⟨room, 0, []⟩ : DClock) l).1).room), .int .i64 (((Clock.run (⟨room, 0, []⟩ : DClock) l).1).hand), .slice a3 (((Clock.run (⟨room, 0, []⟩ : DClock) l).1).frames).length c4]) rfl rfl rfl sz95 rfl rfl rfl rfl ?_
 refine o_as rfl rfl ?_
 refine o_as rfl rfl ?_
 refine o_nil (q_then (c_seq (c_region ?_)))
 refine o_mv rfl rfl ?_
 refine o_as rfl rfl ?_
 refine o_nil (q_then (c_ret ?_))
 have hr0 : (((Clock.run (⟨room, 0, []⟩ : DClock) l).2) : Int) = (Cmp.by_ l room 2) := by
  rfl
 refine q_end0 (v := .int .i64 ((Clock.run (⟨room, 0, []⟩ : DClock) l).2)) (rt1 rfl (r_tmp rfl)) (i := 2) rfl ?_
 exact (by have hcc := congrArg (fun (y0 : Int) => (.int .i64 y0 : Value)) hr0; exact hcc)

set_option maxHeartbeats 8000000 in
set_option maxRecDepth 100000 in
theorem runs3_ok (l : List Int) (al : Option Addr) (cl : Nat) (room : Int) (hy1 : Lru.trace l = 0 ∧ 2 ≤ room ∧ room ≤ 40) : Fn0 Try.prog 67 [.slice al l.length cl, .int .i64 room] (fun w => Rd tInt w al cl l) (.int .i64 (Cmp.by_ l room 3)) := by
 refine fn0 (nt := 17) (F0 := [(0, .slice al l.length cl), (1, .int .i64 room)]) Try.func67 rfl Try.ntmps67 rfl rfl (fun w0 hpre => ?_)
 have hl := hpre
 have hlhl := hl.2.1
 have h200 := (Lru.trace_ok.1 hy1.1).1
 have ht2 : room.tdiv 2 = room / 2 := Int.tdiv_eq_ediv_of_nonneg (by omega)
 refine c_seq (c_region ?_)
 refine o_as rfl rfl ?_
 refine o_nil (q_then (c_seq (c_region ?_)))
 refine o_mv rfl rfl ?_
 refine o_pure (p_build (cells := [.int .i64 room, .slice none 0 0]) fp100 ze100 rfl rfl) rfl rfl rfl ?_
 refine o_mv rfl rfl ?_
 refine o_callM rfl (frun_ok (⟨room, []⟩ : DUses) none 0 l al cl) hf68 (fun w hw => ⟨rd_nil w hw, (rd_base (i := 0) rfl hl) w hw⟩) rfl (fun _ _ _ _ ha hA => SlO.agree ha hA) ?_
 rintro ⟨a3, c4⟩ S1
 refine o_know (fun w hw => own_len (i := 0) (T := tUse) hw rfl) (fun hlr5 => ?_)
 refine o_mv rfl rfl ?_
 refine o_ex rfl rfl rfl ?_
 refine o_ex rfl rfl rfl ?_
 refine o_ex rfl rfl rfl ?_
 refine o_alloc ze100 rfl (fun B6 => ?_)
 refine o_storeN (i := 0) (vs := [.int .i64 (((Lfu.run (⟨room, []⟩ : DUses) l).1).room), .slice a3 (((Lfu.run (⟨room, []⟩ : DUses) l).1).list).length c4]) (cs' := [.int .i64 (((Lfu.run (⟨room, []⟩ : DUses) l).1).room), .slice a3 (((Lfu.run (⟨room, []⟩ : DUses) l).1).list).length c4]) rfl rfl rfl sz100 rfl rfl rfl rfl ?_
 refine o_as rfl rfl ?_
 refine o_as rfl rfl ?_
 refine o_nil (q_then (c_seq (c_region ?_)))
 refine o_mv rfl rfl ?_
 refine o_as rfl rfl ?_
 refine o_nil (q_then (c_ret ?_))
 have hr0 : (((Lfu.run (⟨room, []⟩ : DUses) l).2) : Int) = (Cmp.by_ l room 3) := by
  rfl
 refine q_end0 (v := .int .i64 ((Lfu.run (⟨room, []⟩ : DUses) l).2)) (rt1 rfl (r_tmp rfl)) (i := 2) rfl ?_
 exact (by have hcc := congrArg (fun (y0 : Int) => (.int .i64 y0 : Value)) hr0; exact hcc)

set_option maxHeartbeats 8000000 in
set_option maxRecDepth 100000 in
theorem runs4_ok (l : List Int) (al : Option Addr) (cl : Nat) (room : Int) (hy1 : Lru.trace l = 0 ∧ 2 ≤ room ∧ room ≤ 40) : Fn0 Try.prog 69 [.slice al l.length cl, .int .i64 room] (fun w => Rd tInt w al cl l) (.int .i64 (Cmp.by_ l room 4)) := by
 refine fn0 (nt := 22) (F0 := [(0, .slice al l.length cl), (1, .int .i64 room)]) Try.func69 rfl Try.ntmps69 rfl rfl (fun w0 hpre => ?_)
 have hl := hpre
 have hlhl := hl.2.1
 have h200 := (Lru.trace_ok.1 hy1.1).1
 have ht2 : room.tdiv 2 = room / 2 := Int.tdiv_eq_ediv_of_nonneg (by omega)
 refine c_seq (c_region ?_)
 refine o_as rfl rfl ?_
 refine o_nil (q_then (c_seq (c_region ?_)))
 refine o_mv rfl rfl ?_
 refine o_pure (p_quob (p := room) (q := 2) rfl rfl (by decide) (by omega)) rfl rfl rfl ?_
 refine o_mv rfl rfl ?_
 refine o_mv rfl rfl ?_
 refine o_pure (p_quob (p := room) (q := 2) rfl rfl (by decide) (by omega)) rfl rfl rfl ?_
 refine o_pure (p_subb (p := room) (q := (room.tdiv 2)) rfl rfl (by omega)) rfl rfl rfl ?_
 refine o_pure (p_build (cells := [.int .i64 (room.tdiv 2), .int .i64 (room - (room.tdiv 2)), .slice none 0 0, .slice none 0 0]) fp104 ze104 rfl rfl) rfl rfl rfl ?_
 refine o_mv rfl rfl ?_
 refine o_callM rfl (srun_ok (⟨(room.tdiv 2), (room - (room.tdiv 2)), [], []⟩ : DHalls) none 0 none 0 l al cl) hf70 (fun w hw => ⟨rd_nil w hw, rd_nil w hw, (rd_base (i := 0) rfl hl) w hw⟩) rfl (fun _ _ _ _ ha hA => ⟨SlR.agree ha hA.1, SlR.agree ha hA.2⟩) ?_
 rintro ⟨a3, c4, a5, c6⟩ S1
 refine o_know (fun w hw => (hw.at (i := 0) rfl).here.1.2.1) (fun hlr7 => ?_)
 refine o_know (fun w hw => (hw.at (i := 0) rfl).here.2.2.1) (fun hlr8 => ?_)
 refine o_mv rfl rfl ?_
 refine o_ex rfl rfl rfl ?_
 refine o_ex rfl rfl rfl ?_
 refine o_ex rfl rfl rfl ?_
 refine o_alloc ze104 rfl (fun B9 => ?_)
 refine o_storeN (i := 0) (vs := [.int .i64 (((Seg.run (⟨(room.tdiv 2), (room - (room.tdiv 2)), [], []⟩ : DHalls) l).1).first), .int .i64 (((Seg.run (⟨(room.tdiv 2), (room - (room.tdiv 2)), [], []⟩ : DHalls) l).1).second), .slice a3 (((Seg.run (⟨(room.tdiv 2), (room - (room.tdiv 2)), [], []⟩ : DHalls) l).1).young).length c4, .slice a5 (((Seg.run (⟨(room.tdiv 2), (room - (room.tdiv 2)), [], []⟩ : DHalls) l).1).old).length c6]) (cs' := [.int .i64 (((Seg.run (⟨(room.tdiv 2), (room - (room.tdiv 2)), [], []⟩ : DHalls) l).1).first), .int .i64 (((Seg.run (⟨(room.tdiv 2), (room - (room.tdiv 2)), [], []⟩ : DHalls) l).1).second), .slice a3 (((Seg.run (⟨(room.tdiv 2), (room - (room.tdiv 2)), [], []⟩ : DHalls) l).1).young).length c4, .slice a5 (((Seg.run (⟨(room.tdiv 2), (room - (room.tdiv 2)), [], []⟩ : DHalls) l).1).old).length c6]) rfl rfl rfl sz104 rfl rfl rfl rfl ?_
 refine o_as rfl rfl ?_
 refine o_as rfl rfl ?_
 refine o_nil (q_then (c_seq (c_region ?_)))
 refine o_mv rfl rfl ?_
 refine o_as rfl rfl ?_
 refine o_nil (q_then (c_ret ?_))
 have hr0 : (((Seg.run (⟨(room.tdiv 2), (room - (room.tdiv 2)), [], []⟩ : DHalls) l).2) : Int) = (Cmp.by_ l room 4) := by
  rfl
 refine q_end0 (v := .int .i64 ((Seg.run (⟨(room.tdiv 2), (room - (room.tdiv 2)), [], []⟩ : DHalls) l).2)) (rt1 rfl (r_tmp rfl)) (i := 2) rfl ?_
 exact (by have hcc := congrArg (fun (y0 : Int) => (.int .i64 y0 : Value)) hr0; exact hcc)

set_option maxHeartbeats 8000000 in
set_option maxRecDepth 100000 in
theorem runs5_ok (l : List Int) (al : Option Addr) (cl : Nat) (room : Int) (hy1 : Lru.trace l = 0 ∧ 2 ≤ room ∧ room ≤ 40) : Fn0 Try.prog 71 [.slice al l.length cl, .int .i64 room] (fun w => Rd tInt w al cl l) (.int .i64 (Cmp.by_ l room 5)) := by
 refine fn0 (nt := 19) (F0 := [(0, .slice al l.length cl), (1, .int .i64 room)]) Try.func71 rfl Try.ntmps71 rfl rfl (fun w0 hpre => ?_)
 have hl := hpre
 have hlhl := hl.2.1
 have h200 := (Lru.trace_ok.1 hy1.1).1
 have ht2 : room.tdiv 2 = room / 2 := Int.tdiv_eq_ediv_of_nonneg (by omega)
 have hev := Opt.ev_bd2 hy1.1 (room := room) (by omega)
 refine c_seq (c_region ?_)
 refine o_as rfl rfl ?_
 refine o_nil (q_then (c_seq (c_region ?_)))
 refine o_mv rfl rfl ?_
 refine o_mv rfl rfl ?_
 refine o_callM rfl (oevict_ok l al cl room) hf72 (fun w hw => (rd_base (i := 0) rfl hl) w hw) rfl (fun _ _ _ _ ha hA => SlO.agree ha hA) ?_
 rintro ⟨a3, c4⟩ S1
 refine o_know (fun w hw => own_len (i := 0) (T := tInt) hw rfl) (fun hlr5 => ?_)
 refine o_mv rfl rfl ?_
 refine o_ex rfl rfl rfl ?_
 refine o_ex rfl rfl rfl ?_
 refine o_ex rfl rfl rfl ?_
 refine o_as rfl rfl ?_
 refine o_as rfl rfl ?_
 refine o_as rfl rfl ?_
 refine o_nil (q_then (c_seq (c_region ?_)))
 refine o_mv rfl rfl ?_
 refine o_pure (p_len_slice (len := l.length) rfl rfl Try.underlying22) rfl rfl rfl ?_
 refine o_mv rfl rfl ?_
 refine o_pure (p_subb (p := (l.length : Int)) (q := ((Opt.ev l room).2)) rfl rfl (by omega)) rfl rfl rfl ?_
 refine o_as rfl rfl ?_
 refine o_nil (q_then (c_ret ?_))
 have hr0 : (((l.length : Int) - ((Opt.ev l room).2)) : Int) = (Cmp.by_ l room 5) := by
  rfl
 refine q_end0 (v := .int .i64 ((l.length : Int) - ((Opt.ev l room).2))) (rt1 rfl (r_tmp rfl)) (i := 1) rfl ?_
 exact (by have hcc := congrArg (fun (y0 : Int) => (.int .i64 y0 : Value)) hr0; exact hcc)

set_option maxHeartbeats 8000000 in
set_option maxRecDepth 100000 in
theorem runs_ok  : FnM Try.prog 40 [] (fun _ => True) (Option Addr × Nat) (fun p => .slice p.1 ([64, 65, 67, 69, 71]).length p.2) (fun p S w => SlO tFun S w p.1 p.2 ([64, 65, 67, 69, 71])) := by
 refine fnM (nt := 2) (F0 := []) Try.func40 rfl Try.ntmps40 rfl rfl (fun w0 hpre => ?_)
 refine c_seq (c_region ?_)
 refine o_as rfl rfl ?_
 refine o_nil (q_then (c_seq (c_region ?_)))
 refine o_buildSlice (m := 5) (T := tFun) (L := [64, 65, 67, 69, 71]) (vs := [.func (.func 64) #[] #[], .func (.func 65) #[] #[], .func (.func 67) #[] #[], .func (.func 69) #[] #[], .func (.func 71) #[] #[]]) rfl rfl rfl rfl Try.underlying65 sz67 (by decide) ze67 rfl (by decide) rfl (fun S1 a2 => ?_)
 refine o_as rfl rfl ?_
 refine o_nil (q_then (c_ret ?_))
 refine q_endM (p := (a2, [64, 65, 67, 69, 71].length)) S1 (rt1 rfl (r_tmp rfl)) (i := 1) rfl ?_ ?_ ?_
 ·exact rfl
 ·exact fun w hw => hw.above (i := 1) (j := 0) (by decide) rfl rfl
 ·intro w hw; exact (hw.at (i := 0) rfl).here
set_option maxRecDepth 100000 in
theorem runsAt_ok (l : List Int) (al : Option Addr) (cl : Nat) (room : Int) (hy : Lru.trace l = 0 ∧ 2 ≤ room ∧ room ≤ 40) (i : Nat) (hi : i < 5) : Fn0 Try.prog ([64, 65, 67, 69, 71].getD i default) [.slice al l.length cl, .int .i64 room] (fun w => Rd tInt w al cl l) (.int .i64 (Cmp.by_ l room ((i : Int) + 1))) := by
 match i, hi with
 | 0, _ => exact runs1_ok l al cl room hy
 | 1, _ => exact runs2_ok l al cl room hy
 | 2, _ => exact runs3_ok l al cl room hy
 | 3, _ => exact runs4_ok l al cl room hy
 | 4, _ => exact runs5_ok l al cl room hy
theorem runsAt2_ok (l : List Int) (al : Option Addr) (cl : Nat) (room : Int) (hy : Lru.trace l = 0 ∧ 2 ≤ room ∧ room ≤ 40) (n : Int) (hn : 1 ≤ n ∧ n ≤ 5) : Fn0 Try.prog ([64, 65, 67, 69, 71].getD (n - 1).toNat default) [.slice al l.length cl, .int .i64 room] (fun w => Rd tInt w al cl l) (.int .i64 (Cmp.by_ l room n)) := by
 have h := runsAt_ok l al cl room hy (n - 1).toNat (by omega)
 rw [show (((n - 1).toNat : Nat) : Int) + 1 = n by omega] at h
 exact h
theorem runsAt_has (i : Nat) (hi : i < 5) : HasFn Try.prog ([64, 65, 67, 69, 71].getD i default) := by
 match i, hi with
 | 0, _ => exact hf64
 | 1, _ => exact hf65
 | 2, _ => exact hf67
 | 3, _ => exact hf69
 | 4, _ => exact hf71

set_option maxHeartbeats 8000000 in
set_option maxRecDepth 100000 in
theorem cpcheck_ok (l : List Int) (al : Option Addr) (cl : Nat) (room : Int) : Fn0 Try.prog 39 [.slice al l.length cl, .int .i64 room] (fun w => Rd tInt w al cl l) (.int .i64 (Cmp.check l room)) := by
 refine fn0 (nt := 19) (F0 := [(0, .slice al l.length cl), (1, .int .i64 room)]) Try.func39 rfl Try.ntmps39 rfl rfl (fun w0 hpre => ?_)
 have hl := hpre
 have hlhl := hl.2.1
 refine c_seq (c_region ?_)
 refine o_as rfl rfl ?_
 refine o_nil (q_then (c_seq (c_region ?_)))
 refine o_mv rfl rfl ?_
 refine o_call0 (v := .int .i64 (Lru.trace l)) rfl (checkTrace_ok l al cl) hf46 (fun w hw => (rd_base (i := 0) rfl hl) w hw) rfl ?_
 refine o_as rfl rfl ?_
 refine o_nil (q_then (c_seq (c_seq (c_region ?_))))
 refine o_mv rfl rfl ?_
 refine o_pure (p_eq (p := (Lru.trace l)) (q := 0) rfl rfl) rfl rfl rfl ?_
 refine o_mv rfl rfl ?_
 refine o_and (p := 17) 7 (decide (room < 2) || decide (40 < room)) ?_ ?_ ?_
 ·intro hb1 hk
  simp only [beq_iff_eq] at hb1
  refine o_unguard 10 rfl rfl ?_
  refine o_mv rfl rfl ?_
  refine o_unguard 10 rfl rfl ?_
  refine o_pure (p_lt (p := room) (q := 2) rfl rfl) rfl rfl rfl ?_
  refine o_unguard 10 rfl rfl ?_
  refine o_mv rfl rfl ?_
  refine o_or (p := 16) 3 (decide (40 < room)) ?_ ?_ ?_
  ·intro hb2 hk
   simp only [decide_eq_false_iff_not, Int.not_lt] at hb2
   refine o_unguard 13 rfl rfl ?_
   refine o_mv rfl rfl ?_
   refine o_unguard 13 rfl rfl ?_
   refine o_pure (p_gt (p := room) (q := 40) rfl rfl) rfl rfl rfl ?_
   refine o_unguard 10 rfl rfl ?_
   refine o_pf rfl rfl rfl ?_
   exact o_sub (Sub.cons rfl (Sub.skip rfl (Sub.skip rfl (Sub.skip rfl (Sub.skip rfl (Sub.refl _)))))) hk
  ·intro hb2 hk
   refine o_guard_no rfl 13 rfl rfl rfl rfl rfl ?_
   refine o_guard_no rfl 13 rfl rfl rfl rfl rfl ?_
   refine o_unguard 10 rfl rfl ?_
   refine o_pt rfl rfl rfl ?_
   exact o_sub (Sub.cons rfl (Sub.skip rfl (Sub.skip rfl (Sub.skip rfl (Sub.skip rfl (Sub.refl _)))))) hk
  refine o_pt rfl rfl rfl ?_
  exact o_sub (Sub.cons rfl (Sub.skip rfl (Sub.skip rfl (Sub.skip rfl (Sub.skip rfl (Sub.skip rfl (Sub.refl _))))))) hk
 ·intro hb1 hk
  refine o_guard_no rfl 10 rfl rfl rfl rfl rfl ?_
  refine o_guard_no rfl 10 rfl rfl rfl rfl rfl ?_
  refine o_guard_no rfl 10 rfl rfl rfl rfl rfl ?_
  refine o_guard_no rfl 13 rfl rfl rfl rfl rfl ?_
  refine o_guard_no rfl 13 rfl rfl rfl rfl rfl ?_
  refine o_guard_no rfl 10 rfl rfl rfl rfl rfl ?_
  refine o_pf rfl rfl rfl ?_
  exact o_sub (Sub.cons rfl (Sub.skip rfl (Sub.skip rfl (Sub.skip rfl (Sub.skip rfl (Sub.skip rfl (Sub.skip rfl (Sub.skip rfl (Sub.skip rfl (Sub.refl _)))))))))) hk
 refine o_nil (q_then ?_)
 refine c_cond (b := (((Lru.trace l) == 0) && (decide (room < 2) || decide (40 < room)))) rfl (fun hc3 => ?_) (fun hc3 => ?_)
 ·simp only [Bool.and_eq_true, beq_iff_eq, Bool.or_eq_true, decide_eq_true_eq] at hc3
  refine c_region ?_
  refine o_as rfl rfl ?_
  refine o_nil (q_then (c_seq (c_region ?_)))
  refine o_mv rfl rfl ?_
  refine o_as rfl rfl ?_
  refine o_nil (q_then (c_ret ?_))
  have hr0 : (3 : Int) = (Cmp.check l room) := by
   first | exact Cmp.chk1 (by omega) | exact Cmp.chk2 (by omega)
  refine q_end0 (v := .int .i64 3) (rt1 rfl (r_tmp rfl)) (i := 0) rfl ?_
  exact (by have hcc := congrArg (fun (y0 : Int) => (.int .i64 y0 : Value)) hr0; exact hcc)
 ·simp only [Bool.and_eq_false_iff, beq_eq_false_iff_ne, ne_eq, Bool.or_eq_false_iff, decide_eq_false_iff_not, Int.not_lt] at hc3
  refine c_skip (q_then (c_seq (c_region ?_)))
  refine o_mv rfl rfl ?_
  refine o_as rfl rfl ?_
  refine o_nil (q_then (c_ret ?_))
  have hr0 : ((Lru.trace l) : Int) = (Cmp.check l room) := by
   first | exact Cmp.chk1 (by omega) | exact Cmp.chk2 (by omega)
  refine q_end0 (v := .int .i64 (Lru.trace l)) (rt1 rfl (r_tmp rfl)) (i := 0) rfl ?_
  exact (by have hcc := congrArg (fun (y0 : Int) => (.int .i64 y0 : Value)) hr0; exact hcc)

set_option maxHeartbeats 8000000 in
set_option maxRecDepth 100000 in
theorem cphits_ok (l : List Int) (al : Option Addr) (cl : Nat) (room : Int) : FnM Try.prog 23 [.slice al l.length cl, .int .i64 room] (fun w => Rd tInt w al cl l) (Option Addr × Nat) (fun p => .tuple #[.slice p.1 (Cmp.hits l room).length p.2, .int .i64 (Cmp.check l room)]) (fun p S w => SlO tInt S w p.1 p.2 (Cmp.hits l room)) := by
 refine fnM (nt := 31) (F0 := [(0, .slice al l.length cl), (1, .int .i64 room)]) Try.func23 rfl Try.ntmps23 rfl rfl (fun w0 hpre => ?_)
 have hl := hpre
 have hlhl := hl.2.1
 refine c_seq (c_region ?_)
 refine o_as rfl rfl ?_
 refine o_as rfl rfl ?_
 refine o_nil (q_then (c_seq (c_seq (c_region ?_))))
 refine o_mv rfl rfl ?_
 refine o_mv rfl rfl ?_
 refine o_call0 (v := .int .i64 (Cmp.check l room)) rfl (cpcheck_ok l al cl room) hf39 (fun w hw => (rd_base (i := 0) rfl hl) w hw) rfl ?_
 refine o_as rfl rfl ?_
 refine o_nil (q_then (c_seq (c_region ?_)))
 refine o_mv rfl rfl ?_
 refine o_pure (p_ne (p := (Cmp.check l room)) (q := 0) rfl rfl) rfl rfl rfl ?_
 refine o_nil (q_then ?_)
 refine c_cond (b := ((Cmp.check l room) != 0)) rfl (fun hc1 => ?_) (fun hc1 => ?_)
 ·simp only [bne_iff_ne, ne_eq] at hc1
  refine c_seq (c_region ?_)
  refine o_mv rfl rfl ?_
  refine o_as rfl rfl ?_
  refine o_as rfl rfl ?_
  refine o_nil (q_then (c_ret ?_))
  refine q_then_ret ?_
  have hr0 : ([] : List Int) = (Cmp.hits l room) := by
   first | rfl | exact (Cmp.hits_bad (by assumption)).symm | exact hck.symm | (rw [Cmp.hits_ok hck, hI.2, show k = 5 by omega])
  refine q_endM (p := (none, 0)) (fun _ => False) (rt2 rfl (r_tmp rfl) (r_tmp rfl)) (i := 0) rfl ?_ ?_ ?_
  ·exact (by have hcc := congrArg (fun (y0 : List Int) => (.tuple #[.slice none y0.length 0, .int .i64 (Cmp.check l room)] : Value)) hr0; exact hcc)
  ·intro w hw b hb; exact hb.elim
  ·intro w hw; exact Eq.mp (congrArg (fun y => SlO tInt _ w none 0 y) hr0) (SlO.nil tInt w)
 ·simp only [bne_eq_false_iff_eq] at hc1
  have hck := hc1
  have hok := Cmp.chk_ok.1 hc1
  have h200 := (Lru.trace_ok.1 hok.1).1
  have hl5 : [64, 65, 67, 69, 71].length = 5 := rfl
  refine c_skip (q_then (c_seq (c_region ?_)))
  refine o_as rfl rfl ?_
  refine o_nil (q_then (c_seq (c_seq (c_region ?_))))
  refine o_callM rfl (runs_ok ) hf40 (fun _ _ => trivial) rfl (fun _ _ _ _ ha hA => SlO.agree ha hA) ?_
  rintro ⟨a4, c5⟩ S2
  refine o_know (fun w hw => own_len (i := 0) (T := tFun) hw rfl) (fun hlr6 => ?_)
  refine o_pure (p_len_slice (len := ([64, 65, 67, 69, 71]).length) rfl rfl Try.underlying65) rfl rfl rfl ?_
  refine o_mv rfl rfl ?_
  refine o_nil (q_then (c_block ?_))
  refine c_ownNil tInt ?_
  refine c_loop (St := List Int × Option Addr × Nat × (Nat → Prop) × Nat)
   (fun ⟨out, aout, cout, Sout, k⟩ => [(0, .slice al l.length cl), (1, .int .i64 room), (7, .slice aout out.length cout), (16, .slice a4 ([64, 65, 67, 69, 71]).length c5), (17, .int .i64 (([64, 65, 67, 69, 71]).length : Int)), (18, .int .i64 (k : Int))])
   (fun ⟨out, aout, cout, Sout, k⟩ => [own tInt Sout aout cout out, own tFun S2 a4 c5 ([64, 65, 67, 69, 71]), base w0])
   (fun ⟨out, aout, cout, Sout, k⟩ => k ≤ 5 ∧ out = (List.range k).map (fun i : Nat => Cmp.by_ l room ((i : Int) + 1)))
   (fun ⟨out, aout, cout, Sout, k⟩ => 5 - k)
   ([], none, 0, (fun _ => False), 0) ?_ (Sub.cons rfl (Sub.cons rfl (Sub.cons rfl (Sub.cons rfl (Sub.cons rfl (Sub.cons rfl (Sub.nil _))))))) (fun _ hw => hw) ?_
  ·exact ⟨Nat.zero_le _, rfl⟩
  rintro ⟨out, aout, cout, Sout, k⟩ hI K hK8
  have hol : out.length = k := by rw [hI.2]; simp
  show SC _ _ Try.prog 31 w0 _ _ [(0, .slice al l.length cl), (1, .int .i64 room), (7, .slice aout out.length cout), (16, .slice a4 ([64, 65, 67, 69, 71]).length c5), (17, .int .i64 (([64, 65, 67, 69, 71]).length : Int)), (18, .int .i64 (k : Int))] [own tInt Sout aout cout out, own tFun S2 a4 c5 ([64, 65, 67, 69, 71]), base w0]
  refine c_seq (c_region ?_)
  refine o_pure (p_lt (p := (k : Int)) (q := (([64, 65, 67, 69, 71]).length : Int)) rfl rfl) rfl rfl rfl ?_
  refine o_nil (q_then (c_seq ?_))
  refine c_cond (b := decide ((k : Int) < (([64, 65, 67, 69, 71]).length : Int))) rfl (fun hc9 => ?_) (fun hc9 => ?_)
  ·simp only [decide_eq_true_eq] at hc9
   refine c_skip (q_then (c_seq (c_block (c_seq (c_region ?_)))))
   refine o_pure (p_indexAddr (L := ([64, 65, 67, 69, 71])) (T := tFun) (i := (k : Int)) rfl rfl (rd_own (i := 1) rfl) Try.underlying65 sz67 (by omega) (by omega)) rfl rfl rfl ?_
   refine o_pure (p_loadE1 (i := k) (T := tFun) (L := ([64, 65, 67, 69, 71])) (v := .func (.func (([64, 65, 67, 69, 71]).getD k default)) #[] #[]) rfl (rd_own (i := 1) rfl) (by first | assumption | omega) sh67 (congrArg tFun.enc (getd_at (by first | assumption | omega) default))) rfl rfl rfl ?_
   refine o_as rfl rfl ?_
   refine o_nil (q_then (c_region ?_))
   refine o_mv rfl rfl ?_
   refine o_mv rfl rfl ?_
   refine o_mv rfl rfl ?_
   refine o_mv rfl rfl ?_
   refine o_call0V (f := (([64, 65, 67, 69, 71]).getD k default)) (vs := [.slice al l.length cl, .int .i64 room]) (caps := []) (v := .int .i64 (Cmp.by_ l room ((k : Int) + 1))) rfl rfl (runsAt_ok l al cl room hok k (by omega)) (runsAt_has k (by omega)) (fun w hw => (rd_base (i := 2) rfl hl) w hw) rfl ?_
   refine o_buildSlice (m := 1) (T := tInt) (L := [(Cmp.by_ l room ((k : Int) + 1))]) (vs := [.int .i64 (Cmp.by_ l room ((k : Int) + 1))]) rfl rfl rfl rfl Try.underlying22 sz3 (by decide) ze3 rfl (by decide) rfl (fun S10 a11 => ?_)
   refine o_append (i := 1) (L := out) (M := [(Cmp.by_ l room ((k : Int) + 1))]) (T := tInt) rfl rfl rfl (rd_own (i := 0) rfl) Try.underlying22 Try.underlying22 (by intro k h; cases h) el3 (by intro z; simp [tInt, one1]) (by decide) (by first | omega | (simp only [List.length_cons, List.length_nil]; omega) | (simp only [List.length_append, List.length_cons, List.length_nil, List.length_take, List.length_drop]; omega)) rfl (fun a13 c14 S15 => ?_)
   refine o_as rfl rfl ?_
   refine o_nil ?_
   refine q_block_normal (q_then ?_)
   refine c_region ?_
   refine o_pure (p_addb (p := (k : Int)) (q := 1) rfl rfl (by omega)) rfl rfl rfl ?_
   refine o_mv rfl rfl ?_
   refine o_nil ?_
   refine q_round hK8 ((out ++ [(Cmp.by_ l room ((k : Int) + 1))]), a13, c14, S15, k + 1) ?_ ?_ ?_ ?_
   ·clear hK8
    exact ⟨by omega, (congrArg (fun z => z ++ [_]) hI.2).trans (Cmp.map_next _ k)⟩
   ·(try dsimp only); omega
   ·exact Sub.cons rfl (Sub.cons rfl (Sub.cons rfl (Sub.cons rfl (Sub.cons rfl (Sub.cons rfl (Sub.nil _))))))
   ·exact fun _ hw => HeapIs.pick hw [1, 2, 3] (by decide) rfl
  ·simp only [decide_eq_false_iff_not, Int.not_lt] at hc9
   refine c_exit ?_
   refine q_then_exit (q_then_exit (q_block_exit (q_then ?_)))
   refine c_seq (c_region ?_)
   refine o_mv rfl rfl ?_
   refine o_as rfl rfl ?_
   refine o_as rfl rfl ?_
   refine o_nil (q_then (c_ret ?_))
   have hr0 : (out : List Int) = (Cmp.hits l room) := by
    first | rfl | exact (Cmp.hits_bad (by assumption)).symm | exact hck.symm | (rw [Cmp.hits_ok hck, hI.2, show k = 5 by omega])
   have hr1 : (0 : Int) = (Cmp.check l room) := by
    first | rfl | exact (Cmp.hits_bad (by assumption)).symm | exact hck.symm | (rw [Cmp.hits_ok hck, hI.2, show k = 5 by omega])
   refine q_endM (p := (aout, cout)) Sout (rt2 rfl (r_tmp rfl) (r_tmp rfl)) (i := 2) rfl ?_ ?_ ?_
   ·exact (by have hcc := congr (congrArg (fun (y0 : List Int) (y1 : Int) => (.tuple #[.slice aout y0.length cout, .int .i64 y1] : Value)) hr0) hr1; exact hcc)
   ·exact fun w hw => hw.above (i := 2) (j := 0) (by decide) rfl rfl
   ·intro w hw; exact Eq.mp (congrArg (fun y => SlO tInt _ w aout cout y) hr0) ((hw.at (i := 0) rfl).here)

set_option maxHeartbeats 8000000 in
set_option maxRecDepth 100000 in
theorem cppol_ok (n : Int) : Fn0 Try.prog 47 [.int .i64 n] (fun _ => True) (.bool (Cmp.okPol n)) := by
 refine fn0 (nt := 9) (F0 := [(0, .int .i64 n)]) Try.func47 rfl Try.ntmps47 rfl rfl (fun w0 hpre => ?_)
 refine c_seq (c_region ?_)
 refine o_as rfl rfl ?_
 refine o_nil (q_then (c_seq (c_region ?_)))
 refine o_mv rfl rfl ?_
 refine o_pure (p_ge (p := n) (q := 1) rfl rfl) rfl rfl rfl ?_
 refine o_mv rfl rfl ?_
 refine o_and (p := 8) 3 (decide (n ≤ 5)) ?_ ?_ ?_
 ·intro hb1 hk
  simp only [decide_eq_true_eq] at hb1
  refine o_unguard 5 rfl rfl ?_
  refine o_mv rfl rfl ?_
  refine o_unguard 5 rfl rfl ?_
  refine o_pure (p_le (p := n) (q := 5) rfl rfl) rfl rfl rfl ?_
  refine o_pt rfl rfl rfl ?_
  exact o_sub (Sub.cons rfl (Sub.skip rfl (Sub.skip rfl (Sub.skip rfl (Sub.skip rfl (Sub.refl _)))))) hk
 ·intro hb1 hk
  refine o_guard_no rfl 5 rfl rfl rfl rfl rfl ?_
  refine o_guard_no rfl 5 rfl rfl rfl rfl rfl ?_
  refine o_pf rfl rfl rfl ?_
  exact o_sub (Sub.cons rfl (Sub.skip rfl (Sub.skip rfl (Sub.skip rfl (Sub.skip rfl (Sub.refl _)))))) hk
 refine o_as rfl rfl ?_
 refine o_nil (q_then (c_ret ?_))
 have hr0 : ((decide (1 ≤ n) && decide (n ≤ 5)) : Bool) = (Cmp.okPol n) := by
  rfl
 refine q_end0 (v := .bool (decide (1 ≤ n) && decide (n ≤ 5))) (rt1 rfl (r_tmp rfl)) (i := 0) rfl ?_
 exact (by have hcc := congrArg (fun (y0 : Bool) => (.bool y0 : Value)) hr0; exact hcc)

set_option maxHeartbeats 8000000 in
set_option maxRecDepth 100000 in
theorem cpcurve_ok (l : List Int) (al : Option Addr) (cl : Nat) (n : Int) : FnM Try.prog 27 [.slice al l.length cl, .int .i64 n] (fun w => Rd tInt w al cl l) (Option Addr × Nat) (fun p => .tuple #[.slice p.1 (Cmp.curve l n).length p.2, .int .i64 (Cmp.curveErr l n)]) (fun p S w => SlO tInt S w p.1 p.2 (Cmp.curve l n)) := by
 refine fnM (nt := 37) (F0 := [(0, .slice al l.length cl), (1, .int .i64 n)]) Try.func27 rfl Try.ntmps27 rfl rfl (fun w0 hpre => ?_)
 have hl := hpre
 have hlhl := hl.2.1
 refine c_seq (c_region ?_)
 refine o_as rfl rfl ?_
 refine o_as rfl rfl ?_
 refine o_nil (q_then (c_seq (c_region ?_)))
 refine o_mv rfl rfl ?_
 refine o_call0 (v := .int .i64 (Lru.trace l)) rfl (checkTrace_ok l al cl) hf46 (fun w hw => (rd_base (i := 0) rfl hl) w hw) rfl ?_
 refine o_as rfl rfl ?_
 refine o_nil (q_then (c_seq (c_seq (c_region ?_))))
 refine o_mv rfl rfl ?_
 refine o_pure (p_eq (p := (Lru.trace l)) (q := 0) rfl rfl) rfl rfl rfl ?_
 refine o_mv rfl rfl ?_
 refine o_and (p := 17) 4 (!(Cmp.okPol n)) ?_ ?_ ?_
 ·intro hb1 hk
  simp only [beq_iff_eq] at hb1
  refine o_unguard 13 rfl rfl ?_
  refine o_mv rfl rfl ?_
  refine o_unguard 13 rfl rfl ?_
  refine o_call0 (v := .bool (Cmp.okPol n)) rfl (cppol_ok n) hf47 (fun _ _ => trivial) rfl ?_
  refine o_unguard 13 rfl rfl ?_
  refine o_pure (p_not (b := (Cmp.okPol n)) rfl) rfl rfl rfl ?_
  refine o_pt rfl rfl rfl ?_
  exact o_sub (Sub.cons rfl (Sub.skip rfl (Sub.skip rfl (Sub.skip rfl (Sub.skip rfl (Sub.skip rfl (Sub.refl _))))))) hk
 ·intro hb1 hk
  refine o_guard_no rfl 13 rfl rfl rfl rfl rfl ?_
  refine o_guard_no rfl 13 rfl rfl rfl rfl rfl ?_
  refine o_guard_no rfl 13 rfl rfl rfl rfl rfl ?_
  refine o_pf rfl rfl rfl ?_
  exact o_sub (Sub.cons rfl (Sub.skip rfl (Sub.skip rfl (Sub.skip rfl (Sub.skip rfl (Sub.skip rfl (Sub.refl _))))))) hk
 refine o_nil (q_then ?_)
 refine c_cond (b := (((Lru.trace l) == 0) && (!(Cmp.okPol n)))) rfl (fun hc2 => ?_) (fun hc2 => ?_)
 ·simp only [Bool.and_eq_true, beq_iff_eq, Bool.not_eq_true'] at hc2
  have hbad := hc2
  have hz := Cmp.ce1 hc2
  have hz2 := Cmp.curve_bad (l := l) (n := n) (by omega)
  refine c_region ?_
  refine o_as rfl rfl ?_
  refine o_nil (q_then (c_seq (c_seq (c_region ?_))))
  refine o_mv rfl rfl ?_
  refine o_pure (p_ne (p := 7) (q := 0) rfl rfl) rfl rfl rfl ?_
  refine o_nil (q_then ?_)
  refine c_true rfl ?_
  refine c_seq (c_region ?_)
  refine o_mv rfl rfl ?_
  refine o_as rfl rfl ?_
  refine o_as rfl rfl ?_
  refine o_nil (q_then (c_ret ?_))
  refine q_then_ret ?_
  have hr0 : ([] : List Int) = (Cmp.curve l n) := by
   first | rfl | exact hz | exact hz2.symm | exact hck.symm | (rw [Cmp.curve_ok hck, hI.2.2, show (room - 2).toNat = 39 by omega])
  have hr1 : (7 : Int) = (Cmp.curveErr l n) := by
   first | rfl | exact hz | exact hz2.symm | exact hck.symm | (rw [Cmp.curve_ok hck, hI.2.2, show (room - 2).toNat = 39 by omega])
  refine q_endM (p := (none, 0)) (fun _ => False) (rt2 rfl (r_tmp rfl) (r_tmp rfl)) (i := 0) rfl ?_ ?_ ?_
  ·exact (by have hcc := congr (congrArg (fun (y0 : List Int) (y1 : Int) => (.tuple #[.slice none y0.length 0, .int .i64 y1] : Value)) hr0) hr1; exact hcc)
  ·intro w hw b hb; exact hb.elim
  ·intro w hw; exact Eq.mp (congrArg (fun y => SlO tInt _ w none 0 y) hr0) (SlO.nil tInt w)
 ·simp only [Bool.and_eq_false_iff, beq_eq_false_iff_ne, ne_eq, Bool.not_eq_false'] at hc2
  have hro := hc2
  have hz := Cmp.ce2 hc2
  refine c_skip (q_then (c_seq (c_seq (c_region ?_))))
  refine o_mv rfl rfl ?_
  refine o_pure (p_ne (p := (Lru.trace l)) (q := 0) rfl rfl) rfl rfl rfl ?_
  refine o_nil (q_then ?_)
  refine c_cond (b := ((Lru.trace l) != 0)) rfl (fun hc3 => ?_) (fun hc3 => ?_)
  ·simp only [bne_iff_ne, ne_eq] at hc3
   have hz2 := Cmp.curve_bad (l := l) (n := n) (by omega)
   refine c_seq (c_region ?_)
   refine o_mv rfl rfl ?_
   refine o_as rfl rfl ?_
   refine o_as rfl rfl ?_
   refine o_nil (q_then (c_ret ?_))
   refine q_then_ret ?_
   have hr0 : ([] : List Int) = (Cmp.curve l n) := by
    first | rfl | exact hz | exact hz2.symm | exact hck.symm | (rw [Cmp.curve_ok hck, hI.2.2, show (room - 2).toNat = 39 by omega])
   have hr1 : ((Lru.trace l) : Int) = (Cmp.curveErr l n) := by
    first | rfl | exact hz | exact hz2.symm | exact hck.symm | (rw [Cmp.curve_ok hck, hI.2.2, show (room - 2).toNat = 39 by omega])
   refine q_endM (p := (none, 0)) (fun _ => False) (rt2 rfl (r_tmp rfl) (r_tmp rfl)) (i := 0) rfl ?_ ?_ ?_
   ·exact (by have hcc := congr (congrArg (fun (y0 : List Int) (y1 : Int) => (.tuple #[.slice none y0.length 0, .int .i64 y1] : Value)) hr0) hr1; exact hcc)
   ·intro w hw b hb; exact hb.elim
   ·intro w hw; exact Eq.mp (congrArg (fun y => SlO tInt _ w none 0 y) hr0) (SlO.nil tInt w)
  ·simp only [bne_eq_false_iff_eq] at hc3
   have hck : Cmp.curveErr l n = 0 := by omega
   have hok := Cmp.ce_ok.1 hck
   have hpn := Cmp.pol_ok hok.2
   have h200 := (Lru.trace_ok.1 hok.1).1
   have hl5 : [64, 65, 67, 69, 71].length = 5 := rfl
   refine c_skip (q_then (c_seq (c_region ?_)))
   refine o_as rfl rfl ?_
   refine o_nil (q_then (c_seq (c_seq (c_region ?_))))
   refine o_as rfl rfl ?_
   refine o_nil (q_then (c_block ?_))
   refine c_ownNil tInt ?_
   refine c_loop (St := List Int × Option Addr × Nat × (Nat → Prop) × Int)
    (fun ⟨out, aout, cout, Sout, room⟩ => [(0, .slice al l.length cl), (1, .int .i64 n), (7, .slice aout out.length cout), (8, .int .i64 room)])
    (fun ⟨out, aout, cout, Sout, room⟩ => [own tInt Sout aout cout out, base w0])
    (fun ⟨out, aout, cout, Sout, room⟩ => 2 ≤ room ∧ room ≤ 41 ∧ out = (List.range (room - 2).toNat).map (fun i : Nat => Cmp.by_ l ((i : Int) + 2) n))
    (fun ⟨out, aout, cout, Sout, room⟩ => (41 - room).toNat)
    ([], none, 0, (fun _ => False), 2) ?_ (Sub.cons rfl (Sub.cons rfl (Sub.cons rfl (Sub.cons rfl (Sub.nil _))))) (fun _ hw => hw) ?_
   ·exact ⟨by omega, by omega, rfl⟩
   rintro ⟨out, aout, cout, Sout, room⟩ hI K hK5
   have hol : out.length = (room - 2).toNat := by rw [hI.2.2]; simp
   show SC _ _ Try.prog 37 w0 _ _ [(0, .slice al l.length cl), (1, .int .i64 n), (7, .slice aout out.length cout), (8, .int .i64 room)] [own tInt Sout aout cout out, base w0]
   refine c_seq (c_seq (c_region ?_))
   refine o_mv rfl rfl ?_
   refine o_pure (p_le (p := room) (q := 40) rfl rfl) rfl rfl rfl ?_
   refine o_nil (q_then ?_)
   refine c_cond (b := decide (room ≤ 40)) rfl (fun hc6 => ?_) (fun hc6 => ?_)
   ·simp only [decide_eq_true_eq] at hc6
    refine c_skip (q_then (c_seq (c_block (c_region ?_))))
    refine o_mv rfl rfl ?_
    refine o_callM rfl (runs_ok ) hf40 (fun _ _ => trivial) rfl (fun _ _ _ _ ha hA => SlO.agree ha hA) ?_
    rintro ⟨a9, c10⟩ S7
    refine o_know (fun w hw => own_len (i := 0) (T := tFun) hw rfl) (fun hlr11 => ?_)
    refine o_mv rfl rfl ?_
    refine o_pure (p_subb (p := n) (q := 1) rfl rfl (by omega)) rfl rfl rfl ?_
    refine o_pure (p_indexAddr (L := ([64, 65, 67, 69, 71])) (T := tFun) (i := (n - 1)) rfl rfl (rd_own (i := 0) rfl) Try.underlying65 sz67 (by omega) (by omega)) rfl rfl rfl ?_
    refine o_pure (p_loadE1 (i := (n - 1).toNat) (T := tFun) (L := ([64, 65, 67, 69, 71])) (v := .func (.func (([64, 65, 67, 69, 71]).getD ((n - 1).toNat) default)) #[] #[]) rfl (rd_own (i := 0) rfl) (by first | assumption | omega) sh67 (congrArg tFun.enc (getd_at (by first | assumption | omega) default))) rfl rfl rfl ?_
    refine o_mv rfl rfl ?_
    refine o_mv rfl rfl ?_
    refine o_call0V (f := (([64, 65, 67, 69, 71]).getD ((n - 1).toNat) default)) (vs := [.slice al l.length cl, .int .i64 room]) (caps := []) (v := .int .i64 (Cmp.by_ l room n)) rfl rfl (runsAt2_ok l al cl room ⟨hok.1, by omega, by omega⟩ n hpn) (runsAt_has (n - 1).toNat (by omega)) (fun w hw => (rd_base (i := 2) rfl hl) w hw) rfl ?_
    refine o_buildSlice (m := 1) (T := tInt) (L := [(Cmp.by_ l room n)]) (vs := [.int .i64 (Cmp.by_ l room n)]) rfl rfl rfl rfl Try.underlying22 sz3 (by decide) ze3 rfl (by decide) rfl (fun S12 a13 => ?_)
    refine o_append (i := 2) (L := out) (M := [(Cmp.by_ l room n)]) (T := tInt) rfl rfl rfl (rd_own (i := 0) rfl) Try.underlying22 Try.underlying22 (by intro k h; cases h) el3 (by intro z; simp [tInt, one1]) (by decide) (by first | omega | (simp only [List.length_cons, List.length_nil]; omega) | (simp only [List.length_append, List.length_cons, List.length_nil, List.length_take, List.length_drop]; omega)) rfl (fun a15 c16 S17 => ?_)
    refine o_as rfl rfl ?_
    refine o_nil ?_
    refine q_block_normal (q_then ?_)
    refine c_region ?_
    refine o_mv rfl rfl ?_
    refine o_pure (p_addb (p := room) (q := 1) rfl rfl (by omega)) rfl rfl rfl ?_
    refine o_as rfl rfl ?_
    refine o_nil ?_
    refine q_round hK5 ((out ++ [(Cmp.by_ l room n)]), a15, c16, S17, (room + 1)) ?_ ?_ ?_ ?_
    ·clear hK5
     exact ⟨by omega, by omega, Cmp.curve_next hI.2.2 (by omega)⟩
    ·(try dsimp only); omega
    ·exact Sub.cons rfl (Sub.cons rfl (Sub.cons rfl (Sub.cons rfl (Sub.nil _))))
    ·exact fun _ hw => HeapIs.pick hw [2, 3] (by decide) rfl
   ·simp only [decide_eq_false_iff_not, Int.not_le] at hc6
    refine c_exit ?_
    refine q_then_exit (q_then_exit (q_block_exit (q_then ?_)))
    refine c_seq (c_region ?_)
    refine o_mv rfl rfl ?_
    refine o_as rfl rfl ?_
    refine o_as rfl rfl ?_
    refine o_nil (q_then (c_ret ?_))
    have hr0 : (out : List Int) = (Cmp.curve l n) := by
     first | rfl | exact hz | exact hz2.symm | exact hck.symm | (rw [Cmp.curve_ok hck, hI.2.2, show (room - 2).toNat = 39 by omega])
    have hr1 : (0 : Int) = (Cmp.curveErr l n) := by
     first | rfl | exact hz | exact hz2.symm | exact hck.symm | (rw [Cmp.curve_ok hck, hI.2.2, show (room - 2).toNat = 39 by omega])
    refine q_endM (p := (aout, cout)) Sout (rt2 rfl (r_tmp rfl) (r_tmp rfl)) (i := 1) rfl ?_ ?_ ?_
    ·exact (by have hcc := congr (congrArg (fun (y0 : List Int) (y1 : Int) => (.tuple #[.slice aout y0.length cout, .int .i64 y1] : Value)) hr0) hr1; exact hcc)
    ·exact fun w hw => hw.above (i := 1) (j := 0) (by decide) rfl rfl
    ·intro w hw; exact Eq.mp (congrArg (fun y => SlO tInt _ w aout cout y) hr0) ((hw.at (i := 0) rfl).here)

set_option maxHeartbeats 8000000 in
set_option maxRecDepth 100000 in
theorem cproom1_ok (many : Int) (Bq : Nat) (q : List Int) (aq : Option Addr) (cq : Nat) (hy1 : 4 < q.length) : Fn0 Try.prog 75 [.int .i64 many, .pointer (some ⟨Bq, 0, none⟩)] (fun w => Rd tInt w aq cq q ∧ (box Bq [.slice aq q.length cq] 22).A w) (.bool (decide (q.getD 4 default ≤ many))) := by
 refine fn0 (nt := 9) (F0 := [(0, .int .i64 many), (1, .pointer (some ⟨Bq, 0, none⟩))]) Try.func75 rfl Try.ntmps75 rfl rfl (fun w0 hpre => ?_)
 obtain ⟨hq, hBq⟩ := hpre
 have hlhq := hq.2.1
 refine c_seq (c_region ?_)
 refine o_as rfl rfl ?_
 refine o_nil (q_then (c_seq (c_region ?_)))
 refine o_mv rfl rfl ?_
 refine o_pure (p_loadR (v := .slice aq q.length cq) rfl (rbox_base (i := 0) rfl hBq) sh22 rfl) rfl rfl rfl ?_
 refine o_pure (p_indexAddr (L := q) (T := tInt) (i := 4) rfl rfl (rd_base (i := 0) rfl hq) Try.underlying22 sz3 (by omega) (by omega)) rfl rfl rfl ?_
 refine o_pure (p_loadE1 (i := 4) (T := tInt) (L := q) (v := .int .i64 (q.getD 4 default)) rfl (rd_base (i := 0) rfl hq) (by first | assumption | omega) sh3 (congrArg tInt.enc (getd_at (by first | assumption | omega) default))) rfl rfl rfl ?_
 refine o_pure (p_ge (p := many) (q := (q.getD 4 default)) rfl rfl) rfl rfl rfl ?_
 refine o_as rfl rfl ?_
 refine o_nil (q_then (c_ret ?_))
 have hr0 : (decide ((q.getD 4 default) ≤ many) : Bool) = (decide (q.getD 4 default ≤ many)) := by
  rfl
 refine q_end0 (v := .bool (decide ((q.getD 4 default) ≤ many))) (rt1 rfl (r_tmp rfl)) (i := 0) rfl ?_
 exact (by have hcc := congrArg (fun (y0 : Bool) => (.bool y0 : Value)) hr0; exact hcc)

set_option maxHeartbeats 8000000 in
set_option maxRecDepth 100000 in
theorem cproom_ok (l : List Int) (al : Option Addr) (cl : Nat) (room : Int) (n : Int) : Fn0 Try.prog 45 [.slice al l.length cl, .int .i64 room, .int .i64 n] (fun w => Rd tInt w al cl l) (.tuple #[.int .i64 (Cmp.room l room n), .int .i64 (Cmp.roomErr l room n)]) := by
 refine fn0 (nt := 42) (F0 := [(0, .slice al l.length cl), (1, .int .i64 room), (2, .int .i64 n)]) Try.func45 rfl Try.ntmps45 rfl rfl (fun w0 hpre => ?_)
 have hl := hpre
 have hlhl := hl.2.1
 refine c_seq (c_region ?_)
 refine o_as rfl rfl ?_
 refine o_as rfl rfl ?_
 refine o_nil (q_then (c_seq (c_region ?_)))
 refine o_mv rfl rfl ?_
 refine o_mv rfl rfl ?_
 refine o_callM rfl (cphits_ok l al cl room) hf23 (fun w hw => (rd_base (i := 0) rfl hl) w hw) rfl (fun _ _ _ _ ha hA => SlO.agree ha hA) ?_
 rintro ⟨a3, c4⟩ S1
 refine o_know (fun w hw => own_len (i := 0) (T := tInt) hw rfl) (fun hlr5 => ?_)
 refine o_mv rfl rfl ?_
 refine o_ex rfl rfl rfl ?_
 refine o_ex rfl rfl rfl ?_
 refine o_alloc ze22 rfl (fun B6 => ?_)
 refine o_store (i := 0) (v := .slice a3 (Cmp.hits l room).length c4) (cs' := [.slice a3 (Cmp.hits l room).length c4]) rfl rfl rfl sz22 rfl rfl rfl ?_
 refine o_as rfl rfl ?_
 refine o_nil (q_then (c_seq (c_seq (c_region ?_))))
 refine o_mv rfl rfl ?_
 refine o_pure (p_eq (p := (Cmp.check l room)) (q := 0) rfl rfl) rfl rfl rfl ?_
 refine o_mv rfl rfl ?_
 refine o_and (p := 25) 4 (!(Cmp.okPol n)) ?_ ?_ ?_
 ·intro hb7 hk
  simp only [beq_iff_eq] at hb7
  refine o_unguard 21 rfl rfl ?_
  refine o_mv rfl rfl ?_
  refine o_unguard 21 rfl rfl ?_
  refine o_call0 (v := .bool (Cmp.okPol n)) rfl (cppol_ok n) hf47 (fun _ _ => trivial) rfl ?_
  refine o_unguard 21 rfl rfl ?_
  refine o_pure (p_not (b := (Cmp.okPol n)) rfl) rfl rfl rfl ?_
  refine o_pt rfl rfl rfl ?_
  exact o_sub (Sub.cons rfl (Sub.skip rfl (Sub.skip rfl (Sub.skip rfl (Sub.skip rfl (Sub.skip rfl (Sub.refl _))))))) hk
 ·intro hb7 hk
  refine o_guard_no rfl 21 rfl rfl rfl rfl rfl ?_
  refine o_guard_no rfl 21 rfl rfl rfl rfl rfl ?_
  refine o_guard_no rfl 21 rfl rfl rfl rfl rfl ?_
  refine o_pf rfl rfl rfl ?_
  exact o_sub (Sub.cons rfl (Sub.skip rfl (Sub.skip rfl (Sub.skip rfl (Sub.skip rfl (Sub.skip rfl (Sub.refl _))))))) hk
 refine o_nil (q_then ?_)
 refine c_cond (b := (((Cmp.check l room) == 0) && (!(Cmp.okPol n)))) rfl (fun hc8 => ?_) (fun hc8 => ?_)
 ·simp only [Bool.and_eq_true, beq_iff_eq, Bool.not_eq_true'] at hc8
  have hz := Cmp.re1 hc8
  refine c_region ?_
  refine o_as rfl rfl ?_
  refine o_nil (q_then (c_seq (c_seq (c_region ?_))))
  refine o_mv rfl rfl ?_
  refine o_pure (p_ne (p := 7) (q := 0) rfl rfl) rfl rfl rfl ?_
  refine o_nil (q_then ?_)
  refine c_true rfl ?_
  refine c_seq (c_region ?_)
  refine o_mv rfl rfl ?_
  refine o_as rfl rfl ?_
  refine o_as rfl rfl ?_
  refine o_nil (q_then (c_ret ?_))
  refine q_then_ret ?_
  rcases Cmp.rm_cases l room n with ⟨c1, c2, c3⟩ | ⟨c1, c4, c2, c3⟩ | ⟨c1, c4, c2, c3⟩ <;> try (exfalso; first | omega | (unfold Cmp.roomAt at c4; omega))
  have hr0 : (0 : Int) = (Cmp.room l room n) := by
   first | exact c3.symm | exact c2.symm | (rw [c2]; done) | (rw [c2]; omega) | (rw [c3]; rfl)
  have hr1 : (7 : Int) = (Cmp.roomErr l room n) := by
   first | exact c3.symm | exact c2.symm | (rw [c2]; done) | (rw [c2]; omega) | (rw [c3]; rfl)
  refine q_end0 (v := .tuple #[.int .i64 0, .int .i64 7]) (rt2 rfl (r_tmp rfl) (r_tmp rfl)) (i := 2) rfl ?_
  exact (by have hcc := congr (congrArg (fun (y0 : Int) (y1 : Int) => (.tuple #[.int .i64 y0, .int .i64 y1] : Value)) hr0) hr1; exact hcc)
 ·simp only [Bool.and_eq_false_iff, beq_eq_false_iff_ne, ne_eq, Bool.not_eq_false'] at hc8
  have hro := hc8
  have hz := Cmp.re2 hc8
  refine c_skip (q_then (c_seq (c_seq (c_region ?_))))
  refine o_mv rfl rfl ?_
  refine o_pure (p_ne (p := (Cmp.check l room)) (q := 0) rfl rfl) rfl rfl rfl ?_
  refine o_nil (q_then ?_)
  refine c_cond (b := ((Cmp.check l room) != 0)) rfl (fun hc9 => ?_) (fun hc9 => ?_)
  ·simp only [bne_iff_ne, ne_eq] at hc9
   refine c_seq (c_region ?_)
   refine o_mv rfl rfl ?_
   refine o_as rfl rfl ?_
   refine o_as rfl rfl ?_
   refine o_nil (q_then (c_ret ?_))
   refine q_then_ret ?_
   rcases Cmp.rm_cases l room n with ⟨c1, c2, c3⟩ | ⟨c1, c4, c2, c3⟩ | ⟨c1, c4, c2, c3⟩ <;> try (exfalso; first | omega | (unfold Cmp.roomAt at c4; omega))
   have hr0 : (0 : Int) = (Cmp.room l room n) := by
    first | exact c3.symm | exact c2.symm | (rw [c2]; done) | (rw [c2]; omega) | (rw [c3]; rfl)
   have hr1 : ((Cmp.check l room) : Int) = (Cmp.roomErr l room n) := by
    first | exact c3.symm | exact c2.symm | (rw [c2]; done) | (rw [c2]; omega) | (rw [c3]; rfl)
   refine q_end0 (v := .tuple #[.int .i64 0, .int .i64 (Cmp.check l room)]) (rt2 rfl (r_tmp rfl) (r_tmp rfl)) (i := 2) rfl ?_
   exact (by have hcc := congr (congrArg (fun (y0 : Int) (y1 : Int) => (.tuple #[.int .i64 y0, .int .i64 y1] : Value)) hr0) hr1; exact hcc)
  ·simp only [bne_eq_false_iff_eq] at hc9
   have hck := hc9
   have hl5 := Cmp.hits_len hc9
   have hok := Cmp.chk_ok.1 hc9
   have hra : -1 ≤ Cmp.roomAt l room n ∧ Cmp.roomAt l room n < 39 := Cmp.roomAt_bd l room n
   refine c_skip (q_then (c_seq (c_region ?_)))
   refine o_mv rfl rfl ?_
   refine o_mv rfl rfl ?_
   refine o_callM rfl (cpcurve_ok l al cl n) hf27 (fun w hw => (rd_base (i := 2) rfl hl) w hw) rfl (fun _ _ _ _ ha hA => SlO.agree ha hA) ?_
   rintro ⟨a12, c13⟩ S10
   refine o_know (fun w hw => own_len (i := 0) (T := tInt) hw rfl) (fun hlr14 => ?_)
   refine o_mv rfl rfl ?_
   refine o_ex rfl rfl rfl ?_
   refine o_ex rfl rfl rfl ?_
   refine o_as rfl rfl ?_
   refine o_as rfl rfl ?_
   refine o_nil (q_then (c_seq (c_region ?_)))
   refine o_mv rfl rfl ?_
   refine o_pure (p_makeFunc (vs := [.pointer (some ⟨B6, 0, none⟩)]) rfl) rfl rfl rfl ?_
   refine o_call0 (v := .int .i64 (idxF (fun x : Int => (decide ((Cmp.hits l room).getD 4 default ≤ x))) (Cmp.curve l n))) rfl (indexFunc_Int_ok (Cmp.curve l n) a12 c13 75 [.pointer (some ⟨B6, 0, none⟩)] (fun x => (decide ((Cmp.hits l room).getD 4 default ≤ x))) (fun w => Rd tInt w a3 c4 (Cmp.hits l room) ∧ (box B6 [.slice a3 (Cmp.hits l room).length c4] 22).A w) (fun _ _ hb h => ⟨Rd.below h.1 hb.block hb.size, box_below hb h.2⟩) (fun x => cproom1_ok x B6 (Cmp.hits l room) a3 c4 (by omega)) hf75) hf56 (fun w hw => ⟨(rd_own (i := 0) rfl) w hw, ⟨(rd_own (i := 2) rfl) w hw, (hw.at (i := 1) rfl).here⟩⟩) rfl ?_
   refine o_as rfl rfl ?_
   refine o_nil (q_then (c_seq (c_seq (c_region ?_))))
   refine o_mv rfl rfl ?_
   refine o_pure (p_lt (p := (idxF (fun x : Int => (decide ((Cmp.hits l room).getD 4 default ≤ x))) (Cmp.curve l n))) (q := 0) rfl rfl) rfl rfl rfl ?_
   refine o_nil (q_then ?_)
   refine c_cond (b := decide ((idxF (fun x : Int => (decide ((Cmp.hits l room).getD 4 default ≤ x))) (Cmp.curve l n)) < 0)) rfl (fun hc15 => ?_) (fun hc15 => ?_)
   ·simp only [decide_eq_true_eq] at hc15
    refine c_seq (c_region ?_)
    refine o_as rfl rfl ?_
    refine o_as rfl rfl ?_
    refine o_nil (q_then (c_ret ?_))
    refine q_then_ret ?_
    rcases Cmp.rm_cases l room n with ⟨c1, c2, c3⟩ | ⟨c1, c4, c2, c3⟩ | ⟨c1, c4, c2, c3⟩ <;> try (exfalso; first | omega | (unfold Cmp.roomAt at c4; omega))
    have hr0 : (0 : Int) = (Cmp.room l room n) := by
     first | exact c3.symm | exact c2.symm | (rw [c2]; done) | (rw [c2]; omega) | (rw [c3]; rfl)
    have hr1 : (5 : Int) = (Cmp.roomErr l room n) := by
     first | exact c3.symm | exact c2.symm | (rw [c2]; done) | (rw [c2]; omega) | (rw [c3]; rfl)
    refine q_end0 (v := .tuple #[.int .i64 0, .int .i64 5]) (rt2 rfl (r_tmp rfl) (r_tmp rfl)) (i := 3) rfl ?_
    exact (by have hcc := congr (congrArg (fun (y0 : Int) (y1 : Int) => (.tuple #[.int .i64 y0, .int .i64 y1] : Value)) hr0) hr1; exact hcc)
   ·simp only [decide_eq_false_iff_not, Int.not_lt] at hc15
    refine c_skip (q_then (c_seq (c_region ?_)))
    refine o_mv rfl rfl ?_
    refine o_pure (p_addb (p := (idxF (fun x : Int => (decide ((Cmp.hits l room).getD 4 default ≤ x))) (Cmp.curve l n))) (q := 2) rfl rfl (by have h9 : -1 ≤ Cmp.roomAt l room n ∧ Cmp.roomAt l room n < 39 := Cmp.roomAt_bd l room n; unfold Cmp.roomAt at h9; omega)) rfl rfl rfl ?_
    refine o_as rfl rfl ?_
    refine o_as rfl rfl ?_
    refine o_nil (q_then (c_ret ?_))
    rcases Cmp.rm_cases l room n with ⟨c1, c2, c3⟩ | ⟨c1, c4, c2, c3⟩ | ⟨c1, c4, c2, c3⟩ <;> try (exfalso; first | omega | (unfold Cmp.roomAt at c4; omega))
    have hr0 : (((idxF (fun x : Int => (decide ((Cmp.hits l room).getD 4 default ≤ x))) (Cmp.curve l n)) + 2) : Int) = (Cmp.room l room n) := by
     first | exact c3.symm | exact c2.symm | (rw [c2]; done) | (rw [c2]; omega) | (rw [c3]; rfl)
    have hr1 : (0 : Int) = (Cmp.roomErr l room n) := by
     first | exact c3.symm | exact c2.symm | (rw [c2]; done) | (rw [c2]; omega) | (rw [c3]; rfl)
    refine q_end0 (v := .tuple #[.int .i64 ((idxF (fun x : Int => (decide ((Cmp.hits l room).getD 4 default ≤ x))) (Cmp.curve l n)) + 2), .int .i64 0]) (rt2 rfl (r_tmp rfl) (r_tmp rfl)) (i := 3) rfl ?_
    exact (by have hcc := congr (congrArg (fun (y0 : Int) (y1 : Int) => (.tuple #[.int .i64 y0, .int .i64 y1] : Value)) hr0) hr1; exact hcc)
end Go.Proofs.Ytfncgfcehkalnaa

/- The walks, printed by a program from the translation and a specification. -/
namespace Go.Proofs.Ytfncgfcehkalnaa
open Go.Sx Go.RowKit
set_option maxHeartbeats 8000000 in
set_option maxRecDepth 100000 in
theorem isNaN_ok (x : Int) : Fn0 Try.prog 74 [.int .i64 x] (fun _ => True) (.bool false) := by
 refine fn0 (nt := 6) (F0 := [(0, .int .i64 x)]) Try.func74 rfl Try.ntmps74 rfl rfl (fun w0 hpre => ?_)
 refine c_seq (c_region ?_)
 refine o_as rfl rfl ?_
 refine o_nil (q_then (c_seq (c_region ?_)))
 refine o_mv rfl rfl ?_
 refine o_mv rfl rfl ?_
 refine o_pure (p_ne (p := x) (q := x) rfl rfl) rfl rfl rfl ?_
 refine o_as rfl rfl ?_
 refine o_nil (q_then (c_ret ?_))
 have hr0 : ((x != x) : Bool) = false := by
  simp
 refine q_end0 (v := .bool (x != x)) (rt1 rfl (r_tmp rfl)) (i := 0) rfl ?_
 exact (by have hcc := congrArg (fun (y0 : Bool) => (.bool y0 : Value)) hr0; exact hcc)

set_option maxHeartbeats 8000000 in
set_option maxRecDepth 100000 in
theorem compare_ok (x : Int) (y : Int) : Fn0 Try.prog 43 [.int .i64 x, .int .i64 y] (fun _ => True) (.int .i64 (cmpI x y)) := by
 refine fn0 (nt := 20) (F0 := [(0, .int .i64 x), (1, .int .i64 y)]) Try.func43 rfl Try.ntmps43 rfl rfl (fun w0 hpre => ?_)
 refine c_seq (c_region ?_)
 refine o_as rfl rfl ?_
 refine o_nil (q_then (c_seq (c_region ?_)))
 refine o_mv rfl rfl ?_
 refine o_call0 (v := .bool false) rfl (isNaN_ok x) hf74 (fun _ _ => trivial) rfl ?_
 refine o_as rfl rfl ?_
 refine o_nil (q_then (c_seq (c_region ?_)))
 refine o_mv rfl rfl ?_
 refine o_call0 (v := .bool false) rfl (isNaN_ok y) hf74 (fun _ _ => trivial) rfl ?_
 refine o_as rfl rfl ?_
 refine o_nil (q_then (c_seq (c_seq (c_region ?_))))
 refine o_mv rfl rfl ?_
 refine o_nil (q_then ?_)
 refine c_false rfl ?_
 refine c_skip (q_then (c_seq (c_seq (c_region ?_))))
 refine o_mv rfl rfl ?_
 refine o_nil (q_then ?_)
 refine c_false rfl ?_
 refine c_skip (q_then (c_seq (c_seq (c_region ?_))))
 refine o_mv rfl rfl ?_
 refine o_mv rfl rfl ?_
 refine o_pure (p_lt (p := x) (q := y) rfl rfl) rfl rfl rfl ?_
 refine o_nil (q_then ?_)
 refine c_cond (b := decide (x < y)) rfl (fun hc1 => ?_) (fun hc1 => ?_)
 ·simp only [decide_eq_true_eq] at hc1
  refine c_seq (c_region ?_)
  refine o_as rfl rfl ?_
  refine o_nil (q_then (c_ret ?_))
  refine q_then_ret ?_
  have hr0 : ((-1) : Int) = (cmpI x y) := by
   first | exact cmp_lt (by assumption) | exact cmp_gt (by omega) (by assumption) | exact cmp_eq (by omega) (by omega)
  refine q_end0 (v := .int .i64 (-1)) (rt1 rfl (r_tmp rfl)) (i := 0) rfl ?_
  exact (by have hcc := congrArg (fun (y0 : Int) => (.int .i64 y0 : Value)) hr0; exact hcc)
 ·simp only [decide_eq_false_iff_not, Int.not_lt] at hc1
  refine c_skip (q_then (c_seq (c_seq (c_region ?_))))
  refine o_mv rfl rfl ?_
  refine o_mv rfl rfl ?_
  refine o_pure (p_gt (p := x) (q := y) rfl rfl) rfl rfl rfl ?_
  refine o_nil (q_then ?_)
  refine c_cond (b := decide (y < x)) rfl (fun hc2 => ?_) (fun hc2 => ?_)
  ·simp only [decide_eq_true_eq] at hc2
   refine c_seq (c_region ?_)
   refine o_as rfl rfl ?_
   refine o_nil (q_then (c_ret ?_))
   refine q_then_ret ?_
   have hr0 : (1 : Int) = (cmpI x y) := by
    first | exact cmp_lt (by assumption) | exact cmp_gt (by omega) (by assumption) | exact cmp_eq (by omega) (by omega)
   refine q_end0 (v := .int .i64 1) (rt1 rfl (r_tmp rfl)) (i := 0) rfl ?_
   exact (by have hcc := congrArg (fun (y0 : Int) => (.int .i64 y0 : Value)) hr0; exact hcc)
  ·simp only [decide_eq_false_iff_not, Int.not_lt] at hc2
   refine c_skip (q_then (c_seq (c_region ?_)))
   refine o_as rfl rfl ?_
   refine o_nil (q_then (c_ret ?_))
   have hr0 : (0 : Int) = (cmpI x y) := by
    first | exact cmp_lt (by assumption) | exact cmp_gt (by omega) (by assumption) | exact cmp_eq (by omega) (by omega)
   refine q_end0 (v := .int .i64 0) (rt1 rfl (r_tmp rfl)) (i := 0) rfl ?_
   exact (by have hcc := congrArg (fun (y0 : Int) => (.int .i64 y0 : Value)) hr0; exact hcc)

set_option maxHeartbeats 8000000 in
set_option maxRecDepth 100000 in
theorem ranking1_ok (a : Int) (b : Int) (Bq : Nat) (q : List Int) (aq : Option Addr) (cq : Nat) (hy1 : (1 ≤ a ∧ a ≤ (q.length : Int)) ∧ (1 ≤ b ∧ b ≤ (q.length : Int))) (hy2 : q.length ≤ 5) : Fn0 Try.prog 42 [.int .i64 a, .int .i64 b, .pointer (some ⟨Bq, 0, none⟩)] (fun w => Rd tInt w aq cq q ∧ (box Bq [.slice aq q.length cq] 22).A w) (.int .i64 (Cmp.cmp q a b)) := by
 refine fn0 (nt := 17) (F0 := [(0, .int .i64 a), (1, .int .i64 b), (2, .pointer (some ⟨Bq, 0, none⟩))]) Try.func42 rfl Try.ntmps42 rfl rfl (fun w0 hpre => ?_)
 obtain ⟨hq, hBq⟩ := hpre
 have hlhq := hq.2.1
 refine c_seq (c_region ?_)
 refine o_as rfl rfl ?_
 refine o_nil (q_then (c_seq ?_))
 refine c_draw hmix (by kernel_rfl) ?_
 refine w_pure (p_loadR (v := .slice aq q.length cq) rfl (rbox_base (i := 0) rfl hBq) sh22 rfl) rfl rfl rfl ?_
 refine w_mv rfl rfl ?_
 refine w_pure (p_subb (p := b) (q := 1) rfl rfl (by omega)) rfl rfl rfl ?_
 refine w_pure (p_indexAddr (L := q) (T := tInt) (i := (b - 1)) rfl rfl (rd_base (i := 0) rfl hq) Try.underlying22 sz3 (by omega) (by omega)) rfl rfl rfl ?_
 refine w_pure (p_loadE1 (i := (b - 1).toNat) (T := tInt) (L := q) (v := .int .i64 (q.getD ((b - 1).toNat) default)) rfl (rd_base (i := 0) rfl hq) (by first | assumption | omega) sh3 (congrArg tInt.enc (getd_at (by first | assumption | omega) default))) rfl rfl rfl ?_
 refine w_pure (p_loadR (v := .slice aq q.length cq) rfl (rbox_base (i := 0) rfl hBq) sh22 rfl) rfl rfl rfl ?_
 refine w_mv rfl rfl ?_
 refine w_pure (p_subb (p := a) (q := 1) rfl rfl (by omega)) rfl rfl rfl ?_
 refine w_pure (p_indexAddr (L := q) (T := tInt) (i := (a - 1)) rfl rfl (rd_base (i := 0) rfl hq) Try.underlying22 sz3 (by omega) (by omega)) rfl rfl rfl ?_
 refine w_pure (p_loadE1 (i := (a - 1).toNat) (T := tInt) (L := q) (v := .int .i64 (q.getD ((a - 1).toNat) default)) rfl (rd_base (i := 0) rfl hq) (by first | assumption | omega) sh3 (congrArg tInt.enc (getd_at (by first | assumption | omega) default))) rfl rfl rfl ?_
 refine w_call0 (v := .int .i64 (cmpI (q.getD ((b - 1).toNat) default) (q.getD ((a - 1).toNat) default))) rfl (compare_ok (q.getD ((b - 1).toNat) default) (q.getD ((a - 1).toNat) default)) hf43 (fun _ _ => trivial) rfl ?_
 refine w_pure (p_assign (v := .int .i64 (cmpI (q.getD ((b - 1).toNat) default) (q.getD ((a - 1).toNat) default))) rfl) rfl rfl rfl ?_
 refine w_nil (q_then (c_ret ?_))
 have hr0 : ((cmpI (q.getD ((b - 1).toNat) default) (q.getD ((a - 1).toNat) default)) : Int) = (Cmp.cmp q a b) := by
  rfl
 refine q_end0 (v := .int .i64 (cmpI (q.getD ((b - 1).toNat) default) (q.getD ((a - 1).toNat) default))) (rt1 rfl (r_tmp rfl)) (i := 0) rfl ?_
 exact (by have hcc := congrArg (fun (y0 : Int) => (.int .i64 y0 : Value)) hr0; exact hcc)

set_option maxHeartbeats 8000000 in
set_option maxRecDepth 100000 in
theorem insSort_ok (l : List Int) (al : Option Addr) (cl : Nat) (Sl : Nat → Prop) (a : Int) (b : Int) (Bq : Nat) (q : List Int) (aq : Option Addr) (cq : Nat) (hy1 : (a = 0 ∨ a = (l.length : Int)) ∧ b = (l.length : Int) ∧ l.length ≤ 20) (hy2 : (∀ x ∈ l, 1 ≤ x ∧ x ≤ (q.length : Int)) ∧ q.length ≤ 5) : FnX Try.prog 103 [.slice al l.length cl, .int .i64 a, .int .i64 b, .func (.func 42) #[] #[.pointer (some ⟨Bq, 0, none⟩)]] [own tInt Sl al cl l] (fun w => SlR tInt (outer w [own tInt Sl al cl l]).S w aq cq q ∧ ((box Bq [.slice aq q.length cq] 22).A w ∧ (outer w [own tInt Sl al cl l]).S Bq)) (Unit) (fun p => .tuple #[]) (fun p => [own tInt Sl al cl (if a = 0 then St.isort (Cmp.cmp q) l else l)]) := by
 refine fnX (nt := 53) (F0 := [(0, .slice al l.length cl), (1, .int .i64 a), (2, .int .i64 b), (3, .func (.func 42) #[] #[.pointer (some ⟨Bq, 0, none⟩)])]) Try.func103 rfl Try.ntmps103 rfl rfl (fun w0 hpre => ?_)
 obtain ⟨hq, hBq⟩ := hpre
 have hlhq := hq.2.1
 refine c_know (fun w hw => own_len (i := 1) (T := tInt) hw rfl) (fun hlown_l => ?_)
 obtain ⟨hcown_l, hlown_l⟩ := hlown_l
 refine c_seq (c_region ?_)
 refine o_mv rfl rfl ?_
 refine o_pure (p_addb (p := a) (q := 1) rfl rfl (by omega)) rfl rfl rfl ?_
 refine o_as rfl rfl ?_
 refine o_nil (q_then (c_block ?_))
 refine c_loop (St := Int × List Int)
  (fun ⟨i, ls⟩ => [(0, .slice al ls.length cl), (1, .int .i64 a), (2, .int .i64 b), (3, .func (.func 42) #[] #[.pointer (some ⟨Bq, 0, none⟩)]), (8, .int .i64 i)])
  (fun ⟨i, ls⟩ => [outer w0 [own tInt Sl al cl l], own tInt Sl al cl ls])
  (fun ⟨i, ls⟩ => St.OI (Cmp.cmp q) l a ls i)
  (fun ⟨i, ls⟩ => (b - i).toNat)
  ((a + 1), l) ?_ (Sub.cons rfl (Sub.cons rfl (Sub.cons rfl (Sub.cons rfl (Sub.cons rfl (Sub.nil _)))))) (fun _ hw => hw) ?_
 ·exact St.OI.start (by omega)
 rintro ⟨i, ls⟩ hI K hK1
 have hO := hI
 have hOl := hI.len
 have hOlo := hI.lo
 show SC _ _ Try.prog 53 w0 _ _ [(0, .slice al ls.length cl), (1, .int .i64 a), (2, .int .i64 b), (3, .func (.func 42) #[] #[.pointer (some ⟨Bq, 0, none⟩)]), (8, .int .i64 i)] [outer w0 [own tInt Sl al cl l], own tInt Sl al cl ls]
 refine c_seq (c_seq (c_region ?_))
 refine o_mv rfl rfl ?_
 refine o_mv rfl rfl ?_
 refine o_pure (p_lt (p := i) (q := b) rfl rfl) rfl rfl rfl ?_
 refine o_nil (q_then ?_)
 refine c_cond (b := decide (i < b)) rfl (fun hc2 => ?_) (fun hc2 => ?_)
 ·simp only [decide_eq_true_eq] at hc2
  refine c_skip (q_then (c_seq (c_block (c_seq (c_region ?_)))))
  refine o_mv rfl rfl ?_
  refine o_as rfl rfl ?_
  refine o_nil (q_then (c_block ?_))
  refine c_loop (St := Int × List Int)
   (fun ⟨j, lt⟩ => [(0, .slice al lt.length cl), (1, .int .i64 a), (2, .int .i64 b), (3, .func (.func 42) #[] #[.pointer (some ⟨Bq, 0, none⟩)]), (8, .int .i64 i), (9, .int .i64 j)])
   (fun ⟨j, lt⟩ => [outer w0 [own tInt Sl al cl l], own tInt Sl al cl lt])
   (fun ⟨j, lt⟩ => St.II (Cmp.cmp q) l a lt i j)
   (fun ⟨j, lt⟩ => j.toNat)
   (i, ls) ?_ (Sub.cons rfl (Sub.cons rfl (Sub.cons rfl (Sub.cons rfl (Sub.cons rfl (Sub.cons rfl (Sub.nil _))))))) (fun _ hw => hw) ?_
  ·exact St.II.start hO (by omega) (by omega)
  rintro ⟨j, lt⟩ hI K hK3
  have hIl := hI.len
  have hI0 := hI.a0
  have hI1 := hI.jlo
  have hI2 := hI.jhi
  have hI3 := hI.ilt
  show SC _ _ Try.prog 53 w0 _ _ [(0, .slice al lt.length cl), (1, .int .i64 a), (2, .int .i64 b), (3, .func (.func 42) #[] #[.pointer (some ⟨Bq, 0, none⟩)]), (8, .int .i64 i), (9, .int .i64 j)] [outer w0 [own tInt Sl al cl l], own tInt Sl al cl lt]
  refine c_seq (c_seq ?_)
  refine c_draw hmix (by kernel_rfl) ?_
  refine w_mv rfl rfl ?_
  refine w_mv rfl rfl ?_
  refine w_pure (p_gt (p := j) (q := a) rfl rfl) rfl rfl rfl ?_
  refine w_mv rfl rfl ?_
  refine w_and (p := 34) 13 (decide ((Cmp.cmp q (lt.getD j.toNat default) (lt.getD ((j - 1).toNat) default)) < 0)) ?_ ?_ ?_
  ·intro hb4 hk
   simp only [decide_eq_true_eq] at hb4
   refine w_unguard 21 rfl rfl ?_
   refine w_mv rfl rfl ?_
   refine w_unguard 21 rfl rfl ?_
   refine w_mv rfl rfl ?_
   refine w_unguard 21 rfl rfl ?_
   refine w_mv rfl rfl ?_
   refine w_unguard 21 rfl rfl ?_
   refine w_pure (p_indexAddr (L := lt) (T := tInt) (i := j) rfl rfl (rd_own (i := 1) rfl) Try.underlying22 sz3 (by omega) (by omega)) rfl rfl rfl ?_
   refine w_unguard 21 rfl rfl ?_
   refine w_pure (p_loadE1 (i := j.toNat) (T := tInt) (L := lt) (v := .int .i64 (lt.getD j.toNat default)) rfl (rd_own (i := 1) rfl) (by first | assumption | omega) sh3 (congrArg tInt.enc (getd_at (by first | assumption | omega) default))) rfl rfl rfl ?_
   refine w_unguard 21 rfl rfl ?_
   refine w_mv rfl rfl ?_
   refine w_unguard 21 rfl rfl ?_
   refine w_mv rfl rfl ?_
   refine w_unguard 21 rfl rfl ?_
   refine w_pure (p_subb (p := j) (q := 1) rfl rfl (by omega)) rfl rfl rfl ?_
   refine w_unguard 21 rfl rfl ?_
   refine w_pure (p_indexAddr (L := lt) (T := tInt) (i := (j - 1)) rfl rfl (rd_own (i := 1) rfl) Try.underlying22 sz3 (by omega) (by omega)) rfl rfl rfl ?_
   refine w_unguard 21 rfl rfl ?_
   refine w_pure (p_loadE1 (i := (j - 1).toNat) (T := tInt) (L := lt) (v := .int .i64 (lt.getD ((j - 1).toNat) default)) rfl (rd_own (i := 1) rfl) (by first | assumption | omega) sh3 (congrArg tInt.enc (getd_at (by first | assumption | omega) default))) rfl rfl rfl ?_
   refine w_unguard 21 rfl rfl ?_
   refine w_call0V (vs := [.int .i64 (lt.getD j.toNat default), .int .i64 (lt.getD ((j - 1).toNat) default)]) (caps := [.pointer (some ⟨Bq, 0, none⟩)]) (v := .int .i64 (Cmp.cmp q (lt.getD j.toNat default) (lt.getD ((j - 1).toNat) default))) rfl rfl (ranking1_ok (lt.getD j.toNat default) (lt.getD ((j - 1).toNat) default) Bq q aq cq (by first | assumption | exact hI.both (fun x hx => hy2.1 x hx) (by omega)) (by first | assumption | exact hy2.2)) hf42 (fun w hw => ⟨(rd_outer (i := 0) rfl hq) w hw, rbox_outer (i := 0) rfl hBq w hw⟩) rfl ?_
   refine w_unguard 21 rfl rfl ?_
   refine w_pure (p_lt (p := (Cmp.cmp q (lt.getD j.toNat default) (lt.getD ((j - 1).toNat) default))) (q := 0) rfl rfl) rfl rfl rfl ?_
   refine w_pt rfl rfl rfl ?_
   exact w_sub (Sub.cons rfl (Sub.skip rfl (Sub.skip rfl (Sub.skip rfl (Sub.skip rfl (Sub.skip rfl (Sub.skip rfl (Sub.skip rfl (Sub.skip rfl (Sub.skip rfl (Sub.skip rfl (Sub.skip rfl (Sub.skip rfl (Sub.skip rfl (Sub.skip rfl (Sub.refl _)))))))))))))))) hk
  ·intro hb4 hk
   refine w_guard_no rfl 21 rfl rfl rfl rfl rfl ?_
   refine w_guard_no rfl 21 rfl rfl rfl rfl rfl ?_
   refine w_guard_no rfl 21 rfl rfl rfl rfl rfl ?_
   refine w_guard_no rfl 21 rfl rfl rfl rfl rfl ?_
   refine w_guard_no rfl 21 rfl rfl rfl rfl rfl ?_
   refine w_guard_no rfl 21 rfl rfl rfl rfl rfl ?_
   refine w_guard_no rfl 21 rfl rfl rfl rfl rfl ?_
   refine w_guard_no rfl 21 rfl rfl rfl rfl rfl ?_
   refine w_guard_no rfl 21 rfl rfl rfl rfl rfl ?_
   refine w_guard_no rfl 21 rfl rfl rfl rfl rfl ?_
   refine w_guard_no rfl 21 rfl rfl rfl rfl rfl ?_
   refine w_guard_no rfl 21 rfl rfl rfl rfl rfl ?_
   refine w_pf rfl rfl rfl ?_
   exact w_sub (Sub.cons rfl (Sub.skip rfl (Sub.skip rfl (Sub.skip rfl (Sub.skip rfl (Sub.skip rfl (Sub.skip rfl (Sub.skip rfl (Sub.skip rfl (Sub.skip rfl (Sub.skip rfl (Sub.skip rfl (Sub.skip rfl (Sub.skip rfl (Sub.skip rfl (Sub.refl _)))))))))))))))) hk
  refine w_nil (q_then ?_)
  refine c_cond (b := (decide (a < j) && decide ((Cmp.cmp q (lt.getD j.toNat default) (lt.getD ((j - 1).toNat) default)) < 0))) rfl (fun hc5 => ?_) (fun hc5 => ?_)
  ·simp only [Bool.and_eq_true, decide_eq_true_eq] at hc5
   have hgo := hc5
   refine c_skip (q_then (c_seq (c_block ?_)))
   refine c_cut (G := Unit) (fun _ => [(0, .slice al lt.length cl), (1, .int .i64 a), (2, .int .i64 b), (3, .func (.func 42) #[] #[.pointer (some ⟨Bq, 0, none⟩)]), (8, .int .i64 i), (9, .int .i64 j)]) (fun _ => [outer w0 [own tInt Sl al cl l], own tInt Sl al cl ((lt.set j.toNat (lt.getD ((j - 1).toNat) default)).set ((j - 1).toNat) (lt.getD j.toNat default))]) (fun K hK7 => ?_) ?_
   ·refine c_held hmix [outer w0 [own tInt Sl al cl l]] rfl rfl ?_
    refine h_tk (i := 0) (ls := #[true, false, false, false, false, false, false, false, false, false, false, false, false, false, false, false, false, false]) rfl (p_move rfl) (fun _ hw => HeapIs.drop hw (List.Sublist.cons_cons _ (List.Sublist.cons _ (List.Sublist.slnil)))) ?_
    refine h_tk (i := 1) (ls := #[true, true, false, false, false, false, false, false, false, false, false, false, false, false, false, false, false, false]) rfl (p_move rfl) (fun _ hw => HeapIs.drop hw (List.Sublist.cons_cons _ (List.Sublist.cons _ (List.Sublist.slnil)))) ?_
    refine h_tk (i := 2) (ls := #[true, true, true, false, false, false, false, false, false, false, false, false, false, false, false, false, false, false]) rfl (p_move rfl) (fun _ hw => HeapIs.drop hw (List.Sublist.cons_cons _ (List.Sublist.cons _ (List.Sublist.slnil)))) ?_
    refine h_tk (i := 3) (ls := #[true, true, true, true, false, false, false, false, false, false, false, false, false, false, false, false, false, false]) rfl (p_move rfl) (fun _ hw => HeapIs.drop hw (List.Sublist.cons_cons _ (List.Sublist.cons _ (List.Sublist.slnil)))) ?_
    refine h_tk (i := 4) (ls := #[true, true, true, true, true, false, false, false, false, false, false, false, false, false, false, false, false, false]) rfl (p_subb (p := j) (q := 1) rfl rfl (by omega)) (fun _ hw => HeapIs.drop hw (List.Sublist.cons_cons _ (List.Sublist.cons _ (List.Sublist.slnil)))) ?_
    refine h_tk (i := 5) (ls := #[true, true, true, true, true, true, false, false, false, false, false, false, false, false, false, false, false, false]) rfl (p_move rfl) (fun _ hw => HeapIs.drop hw (List.Sublist.cons_cons _ (List.Sublist.cons _ (List.Sublist.slnil)))) ?_
    refine h_tk (i := 6) (ls := #[true, true, true, true, true, true, true, false, false, false, false, false, false, false, false, false, false, false]) rfl (p_move rfl) (fun _ hw => HeapIs.drop hw (List.Sublist.cons_cons _ (List.Sublist.cons _ (List.Sublist.slnil)))) ?_
    refine h_tk (i := 7) (ls := #[true, true, true, true, true, true, true, true, false, false, false, false, false, false, false, false, false, false]) rfl (p_subb (p := j) (q := 1) rfl rfl (by omega)) (fun _ hw => HeapIs.drop hw (List.Sublist.cons_cons _ (List.Sublist.cons _ (List.Sublist.slnil)))) ?_
    refine h_tk (i := 10) (ls := #[true, true, true, true, true, true, true, true, false, false, true, false, false, false, false, false, false, false]) rfl (p_move rfl) (fun _ hw => HeapIs.drop hw (List.Sublist.cons_cons _ (List.Sublist.cons _ (List.Sublist.slnil)))) ?_
    refine h_tk (i := 11) (ls := #[true, true, true, true, true, true, true, true, false, false, true, true, false, false, false, false, false, false]) rfl (p_move rfl) (fun _ hw => HeapIs.drop hw (List.Sublist.cons_cons _ (List.Sublist.cons _ (List.Sublist.slnil)))) ?_
    refine h_two (i := 8) (j := 12) (ls := #[true, true, true, true, true, true, true, true, true, false, true, true, false, false, false, false, false, false]) (ls' := #[true, true, true, true, true, true, true, true, false, false, true, true, true, false, false, false, false, false]) (by kernel_rfl) rfl rfl rfl rfl ?_ ?_
    ·refine o_pure (p_indexAddr (L := lt) (T := tInt) (i := (j - 1)) rfl rfl (rd_own (i := 1) rfl) Try.underlying22 sz3 (by omega) (by omega)) rfl rfl rfl ?_
     refine o_nil ?_
     refine h_next (fun _ hw => HeapIs.drop hw (List.Sublist.cons_cons _ (List.Sublist.cons _ (List.Sublist.slnil)))) ?_
     refine h_two (i := 9) (j := 12) (ls := #[true, true, true, true, true, true, true, true, true, true, true, true, false, false, false, false, false, false]) (ls' := #[true, true, true, true, true, true, true, true, true, false, true, true, true, false, false, false, false, false]) (by kernel_rfl) rfl rfl rfl rfl ?_ ?_
     ·refine o_pure (p_loadE1 (i := (j - 1).toNat) (T := tInt) (L := lt) (v := .int .i64 (lt.getD ((j - 1).toNat) default)) rfl (rd_own (i := 1) rfl) (by first | assumption | omega) sh3 (congrArg tInt.enc (getd_at (by first | assumption | omega) default))) rfl rfl rfl ?_
      refine o_nil ?_
      refine h_next (fun _ hw => HeapIs.drop hw (List.Sublist.cons_cons _ (List.Sublist.cons _ (List.Sublist.slnil)))) ?_
      refine h_one (i := 12) (ls := #[true, true, true, true, true, true, true, true, true, true, true, true, true, false, false, false, false, false]) (by kernel_rfl) rfl rfl ?_
      refine o_pure (p_indexAddr (L := lt) (T := tInt) (i := j) rfl rfl (rd_own (i := 1) rfl) Try.underlying22 sz3 (by omega) (by omega)) rfl rfl rfl ?_
      refine o_nil ?_
      refine h_next (fun _ hw => HeapIs.drop hw (List.Sublist.cons_cons _ (List.Sublist.cons _ (List.Sublist.slnil)))) ?_
      refine h_one (i := 13) (ls := #[true, true, true, true, true, true, true, true, true, true, true, true, true, true, false, false, false, false]) (by kernel_rfl) rfl rfl ?_
      refine o_pure (p_loadE1 (i := j.toNat) (T := tInt) (L := lt) (v := .int .i64 (lt.getD j.toNat default)) rfl (rd_own (i := 1) rfl) (by first | assumption | omega) sh3 (congrArg tInt.enc (getd_at (by first | assumption | omega) default))) rfl rfl rfl ?_
      refine o_nil ?_
      refine h_next (fun _ hw => HeapIs.drop hw (List.Sublist.cons_cons _ (List.Sublist.cons _ (List.Sublist.slnil)))) ?_
      refine h_one (i := 14) (ls := #[true, true, true, true, true, true, true, true, true, true, true, true, true, true, true, false, false, false]) (by kernel_rfl) rfl rfl ?_
      refine o_pure (p_indexAddr (L := lt) (T := tInt) (i := j) rfl rfl (rd_own (i := 1) rfl) Try.underlying22 sz3 (by omega) (by omega)) rfl rfl rfl ?_
      refine o_nil ?_
      refine h_next (fun _ hw => HeapIs.drop hw (List.Sublist.cons_cons _ (List.Sublist.cons _ (List.Sublist.slnil)))) ?_
      refine h_one (i := 15) (ls := #[true, true, true, true, true, true, true, true, true, true, true, true, true, true, true, true, false, false]) (by kernel_rfl) rfl rfl ?_
      refine o_storeW (i := 1) (T := tInt) (idx := j.toNat) (v := .int .i64 (lt.getD ((j - 1).toNat) default)) (vs := [.int .i64 (lt.getD ((j - 1).toNat) default)]) (z := (lt.getD ((j - 1).toNat) default)) rfl rfl rfl rfl (by first | assumption | omega | (simp only [List.length_set]; omega)) sz3 rfl rfl rfl rfl (Sub.refl _) ?_
      refine o_nil ?_
      refine h_next (fun _ hw => HeapIs.drop hw (List.Sublist.cons_cons _ (List.Sublist.cons _ (List.Sublist.slnil)))) ?_
      refine h_one (i := 16) (ls := #[true, true, true, true, true, true, true, true, true, true, true, true, true, true, true, true, true, false]) (by kernel_rfl) rfl rfl ?_
      refine o_pure (p_indexAddrS (T := tInt) (i := (j - 1)) (j := 1) (m := lt.length) rfl rfl rfl (by simp only [List.length_set]) Try.underlying22 sz3 (by omega) (by omega)) rfl rfl rfl ?_
      refine o_nil ?_
      refine h_next (fun _ hw => HeapIs.drop hw (List.Sublist.cons_cons _ (List.Sublist.cons _ (List.Sublist.slnil)))) ?_
      refine h_one (i := 17) (ls := #[true, true, true, true, true, true, true, true, true, true, true, true, true, true, true, true, true, true]) (by kernel_rfl) rfl rfl ?_
      refine o_storeW (i := 1) (T := tInt) (idx := (j - 1).toNat) (v := .int .i64 (lt.getD j.toNat default)) (vs := [.int .i64 (lt.getD j.toNat default)]) (z := (lt.getD j.toNat default)) rfl rfl rfl rfl (by first | assumption | omega | (simp only [List.length_set]; omega)) sz3 rfl rfl rfl rfl (Sub.refl _) ?_
      refine o_nil ?_
      refine h_next (fun _ hw => HeapIs.drop hw (List.Sublist.cons_cons _ (List.Sublist.cons _ (List.Sublist.slnil)))) ?_
      refine h_done (by kernel_rfl) ?_
      refine q_kont hK7 () (Sub.cons rfl (Sub.cons rfl (Sub.cons rfl (Sub.cons rfl (Sub.cons rfl (Sub.cons rfl (Sub.nil _))))))) (fun _ hw => HeapIs.pick hw [0, 1] (by decide) rfl)
     ·refine o_pure (p_indexAddr (L := lt) (T := tInt) (i := j) rfl rfl (rd_own (i := 1) rfl) Try.underlying22 sz3 (by omega) (by omega)) rfl rfl rfl ?_
      refine o_nil ?_
      refine h_next (fun _ hw => HeapIs.drop hw (List.Sublist.cons_cons _ (List.Sublist.cons _ (List.Sublist.slnil)))) ?_
      refine h_two (i := 9) (j := 13) (ls := #[true, true, true, true, true, true, true, true, true, true, true, true, true, false, false, false, false, false]) (ls' := #[true, true, true, true, true, true, true, true, true, false, true, true, true, true, false, false, false, false]) (by kernel_rfl) rfl rfl rfl rfl ?_ ?_
      ·refine o_pure (p_loadE1 (i := (j - 1).toNat) (T := tInt) (L := lt) (v := .int .i64 (lt.getD ((j - 1).toNat) default)) rfl (rd_own (i := 1) rfl) (by first | assumption | omega) sh3 (congrArg tInt.enc (getd_at (by first | assumption | omega) default))) rfl rfl rfl ?_
       refine o_nil ?_
       refine h_next (fun _ hw => HeapIs.drop hw (List.Sublist.cons_cons _ (List.Sublist.cons _ (List.Sublist.slnil)))) ?_
       refine h_one (i := 13) (ls := #[true, true, true, true, true, true, true, true, true, true, true, true, true, true, false, false, false, false]) (by kernel_rfl) rfl rfl ?_
       refine o_pure (p_loadE1 (i := j.toNat) (T := tInt) (L := lt) (v := .int .i64 (lt.getD j.toNat default)) rfl (rd_own (i := 1) rfl) (by first | assumption | omega) sh3 (congrArg tInt.enc (getd_at (by first | assumption | omega) default))) rfl rfl rfl ?_
       refine o_nil ?_
       refine h_next (fun _ hw => HeapIs.drop hw (List.Sublist.cons_cons _ (List.Sublist.cons _ (List.Sublist.slnil)))) ?_
       refine h_one (i := 14) (ls := #[true, true, true, true, true, true, true, true, true, true, true, true, true, true, true, false, false, false]) (by kernel_rfl) rfl rfl ?_
       refine o_pure (p_indexAddr (L := lt) (T := tInt) (i := j) rfl rfl (rd_own (i := 1) rfl) Try.underlying22 sz3 (by omega) (by omega)) rfl rfl rfl ?_
       refine o_nil ?_
       refine h_next (fun _ hw => HeapIs.drop hw (List.Sublist.cons_cons _ (List.Sublist.cons _ (List.Sublist.slnil)))) ?_
       refine h_one (i := 15) (ls := #[true, true, true, true, true, true, true, true, true, true, true, true, true, true, true, true, false, false]) (by kernel_rfl) rfl rfl ?_
       refine o_storeW (i := 1) (T := tInt) (idx := j.toNat) (v := .int .i64 (lt.getD ((j - 1).toNat) default)) (vs := [.int .i64 (lt.getD ((j - 1).toNat) default)]) (z := (lt.getD ((j - 1).toNat) default)) rfl rfl rfl rfl (by first | assumption | omega | (simp only [List.length_set]; omega)) sz3 rfl rfl rfl rfl (Sub.refl _) ?_
       refine o_nil ?_
       refine h_next (fun _ hw => HeapIs.drop hw (List.Sublist.cons_cons _ (List.Sublist.cons _ (List.Sublist.slnil)))) ?_
       refine h_one (i := 16) (ls := #[true, true, true, true, true, true, true, true, true, true, true, true, true, true, true, true, true, false]) (by kernel_rfl) rfl rfl ?_
       refine o_pure (p_indexAddrS (T := tInt) (i := (j - 1)) (j := 1) (m := lt.length) rfl rfl rfl (by simp only [List.length_set]) Try.underlying22 sz3 (by omega) (by omega)) rfl rfl rfl ?_
       refine o_nil ?_
       refine h_next (fun _ hw => HeapIs.drop hw (List.Sublist.cons_cons _ (List.Sublist.cons _ (List.Sublist.slnil)))) ?_
       refine h_one (i := 17) (ls := #[true, true, true, true, true, true, true, true, true, true, true, true, true, true, true, true, true, true]) (by kernel_rfl) rfl rfl ?_
       refine o_storeW (i := 1) (T := tInt) (idx := (j - 1).toNat) (v := .int .i64 (lt.getD j.toNat default)) (vs := [.int .i64 (lt.getD j.toNat default)]) (z := (lt.getD j.toNat default)) rfl rfl rfl rfl (by first | assumption | omega | (simp only [List.length_set]; omega)) sz3 rfl rfl rfl rfl (Sub.refl _) ?_
       refine o_nil ?_
       refine h_next (fun _ hw => HeapIs.drop hw (List.Sublist.cons_cons _ (List.Sublist.cons _ (List.Sublist.slnil)))) ?_
       refine h_done (by kernel_rfl) ?_
       refine q_kont hK7 () (Sub.cons rfl (Sub.cons rfl (Sub.cons rfl (Sub.cons rfl (Sub.cons rfl (Sub.cons rfl (Sub.nil _))))))) (fun _ hw => HeapIs.pick hw [0, 1] (by decide) rfl)
      ·refine o_pure (p_loadE1 (i := j.toNat) (T := tInt) (L := lt) (v := .int .i64 (lt.getD j.toNat default)) rfl (rd_own (i := 1) rfl) (by first | assumption | omega) sh3 (congrArg tInt.enc (getd_at (by first | assumption | omega) default))) rfl rfl rfl ?_
       refine o_nil ?_
       refine h_next (fun _ hw => HeapIs.drop hw (List.Sublist.cons_cons _ (List.Sublist.cons _ (List.Sublist.slnil)))) ?_
       refine h_one (i := 9) (ls := #[true, true, true, true, true, true, true, true, true, true, true, true, true, true, false, false, false, false]) (by kernel_rfl) rfl rfl ?_
       refine o_pure (p_loadE1 (i := (j - 1).toNat) (T := tInt) (L := lt) (v := .int .i64 (lt.getD ((j - 1).toNat) default)) rfl (rd_own (i := 1) rfl) (by first | assumption | omega) sh3 (congrArg tInt.enc (getd_at (by first | assumption | omega) default))) rfl rfl rfl ?_
       refine o_nil ?_
       refine h_next (fun _ hw => HeapIs.drop hw (List.Sublist.cons_cons _ (List.Sublist.cons _ (List.Sublist.slnil)))) ?_
       refine h_one (i := 14) (ls := #[true, true, true, true, true, true, true, true, true, true, true, true, true, true, true, false, false, false]) (by kernel_rfl) rfl rfl ?_
       refine o_pure (p_indexAddr (L := lt) (T := tInt) (i := j) rfl rfl (rd_own (i := 1) rfl) Try.underlying22 sz3 (by omega) (by omega)) rfl rfl rfl ?_
       refine o_nil ?_
       refine h_next (fun _ hw => HeapIs.drop hw (List.Sublist.cons_cons _ (List.Sublist.cons _ (List.Sublist.slnil)))) ?_
       refine h_one (i := 15) (ls := #[true, true, true, true, true, true, true, true, true, true, true, true, true, true, true, true, false, false]) (by kernel_rfl) rfl rfl ?_
       refine o_storeW (i := 1) (T := tInt) (idx := j.toNat) (v := .int .i64 (lt.getD ((j - 1).toNat) default)) (vs := [.int .i64 (lt.getD ((j - 1).toNat) default)]) (z := (lt.getD ((j - 1).toNat) default)) rfl rfl rfl rfl (by first | assumption | omega | (simp only [List.length_set]; omega)) sz3 rfl rfl rfl rfl (Sub.refl _) ?_
       refine o_nil ?_
       refine h_next (fun _ hw => HeapIs.drop hw (List.Sublist.cons_cons _ (List.Sublist.cons _ (List.Sublist.slnil)))) ?_
       refine h_one (i := 16) (ls := #[true, true, true, true, true, true, true, true, true, true, true, true, true, true, true, true, true, false]) (by kernel_rfl) rfl rfl ?_
       refine o_pure (p_indexAddrS (T := tInt) (i := (j - 1)) (j := 1) (m := lt.length) rfl rfl rfl (by simp only [List.length_set]) Try.underlying22 sz3 (by omega) (by omega)) rfl rfl rfl ?_
       refine o_nil ?_
       refine h_next (fun _ hw => HeapIs.drop hw (List.Sublist.cons_cons _ (List.Sublist.cons _ (List.Sublist.slnil)))) ?_
       refine h_one (i := 17) (ls := #[true, true, true, true, true, true, true, true, true, true, true, true, true, true, true, true, true, true]) (by kernel_rfl) rfl rfl ?_
       refine o_storeW (i := 1) (T := tInt) (idx := (j - 1).toNat) (v := .int .i64 (lt.getD j.toNat default)) (vs := [.int .i64 (lt.getD j.toNat default)]) (z := (lt.getD j.toNat default)) rfl rfl rfl rfl (by first | assumption | omega | (simp only [List.length_set]; omega)) sz3 rfl rfl rfl rfl (Sub.refl _) ?_
       refine o_nil ?_
       refine h_next (fun _ hw => HeapIs.drop hw (List.Sublist.cons_cons _ (List.Sublist.cons _ (List.Sublist.slnil)))) ?_
       refine h_done (by kernel_rfl) ?_
       refine q_kont hK7 () (Sub.cons rfl (Sub.cons rfl (Sub.cons rfl (Sub.cons rfl (Sub.cons rfl (Sub.cons rfl (Sub.nil _))))))) (fun _ hw => HeapIs.pick hw [0, 1] (by decide) rfl)
    ·refine o_pure (p_indexAddr (L := lt) (T := tInt) (i := j) rfl rfl (rd_own (i := 1) rfl) Try.underlying22 sz3 (by omega) (by omega)) rfl rfl rfl ?_
     refine o_nil ?_
     refine h_next (fun _ hw => HeapIs.drop hw (List.Sublist.cons_cons _ (List.Sublist.cons _ (List.Sublist.slnil)))) ?_
     refine h_two (i := 8) (j := 13) (ls := #[true, true, true, true, true, true, true, true, true, false, true, true, true, false, false, false, false, false]) (ls' := #[true, true, true, true, true, true, true, true, false, false, true, true, true, true, false, false, false, false]) (by kernel_rfl) rfl rfl rfl rfl ?_ ?_
     ·refine o_pure (p_indexAddr (L := lt) (T := tInt) (i := (j - 1)) rfl rfl (rd_own (i := 1) rfl) Try.underlying22 sz3 (by omega) (by omega)) rfl rfl rfl ?_
      refine o_nil ?_
      refine h_next (fun _ hw => HeapIs.drop hw (List.Sublist.cons_cons _ (List.Sublist.cons _ (List.Sublist.slnil)))) ?_
      refine h_two (i := 9) (j := 13) (ls := #[true, true, true, true, true, true, true, true, true, true, true, true, true, false, false, false, false, false]) (ls' := #[true, true, true, true, true, true, true, true, true, false, true, true, true, true, false, false, false, false]) (by kernel_rfl) rfl rfl rfl rfl ?_ ?_
      ·refine o_pure (p_loadE1 (i := (j - 1).toNat) (T := tInt) (L := lt) (v := .int .i64 (lt.getD ((j - 1).toNat) default)) rfl (rd_own (i := 1) rfl) (by first | assumption | omega) sh3 (congrArg tInt.enc (getd_at (by first | assumption | omega) default))) rfl rfl rfl ?_
       refine o_nil ?_
       refine h_next (fun _ hw => HeapIs.drop hw (List.Sublist.cons_cons _ (List.Sublist.cons _ (List.Sublist.slnil)))) ?_
       refine h_one (i := 13) (ls := #[true, true, true, true, true, true, true, true, true, true, true, true, true, true, false, false, false, false]) (by kernel_rfl) rfl rfl ?_
       refine o_pure (p_loadE1 (i := j.toNat) (T := tInt) (L := lt) (v := .int .i64 (lt.getD j.toNat default)) rfl (rd_own (i := 1) rfl) (by first | assumption | omega) sh3 (congrArg tInt.enc (getd_at (by first | assumption | omega) default))) rfl rfl rfl ?_
       refine o_nil ?_
       refine h_next (fun _ hw => HeapIs.drop hw (List.Sublist.cons_cons _ (List.Sublist.cons _ (List.Sublist.slnil)))) ?_
       refine h_one (i := 14) (ls := #[true, true, true, true, true, true, true, true, true, true, true, true, true, true, true, false, false, false]) (by kernel_rfl) rfl rfl ?_
       refine o_pure (p_indexAddr (L := lt) (T := tInt) (i := j) rfl rfl (rd_own (i := 1) rfl) Try.underlying22 sz3 (by omega) (by omega)) rfl rfl rfl ?_
       refine o_nil ?_
       refine h_next (fun _ hw => HeapIs.drop hw (List.Sublist.cons_cons _ (List.Sublist.cons _ (List.Sublist.slnil)))) ?_
       refine h_one (i := 15) (ls := #[true, true, true, true, true, true, true, true, true, true, true, true, true, true, true, true, false, false]) (by kernel_rfl) rfl rfl ?_
       refine o_storeW (i := 1) (T := tInt) (idx := j.toNat) (v := .int .i64 (lt.getD ((j - 1).toNat) default)) (vs := [.int .i64 (lt.getD ((j - 1).toNat) default)]) (z := (lt.getD ((j - 1).toNat) default)) rfl rfl rfl rfl (by first | assumption | omega | (simp only [List.length_set]; omega)) sz3 rfl rfl rfl rfl (Sub.refl _) ?_
       refine o_nil ?_
       refine h_next (fun _ hw => HeapIs.drop hw (List.Sublist.cons_cons _ (List.Sublist.cons _ (List.Sublist.slnil)))) ?_
       refine h_one (i := 16) (ls := #[true, true, true, true, true, true, true, true, true, true, true, true, true, true, true, true, true, false]) (by kernel_rfl) rfl rfl ?_
       refine o_pure (p_indexAddrS (T := tInt) (i := (j - 1)) (j := 1) (m := lt.length) rfl rfl rfl (by simp only [List.length_set]) Try.underlying22 sz3 (by omega) (by omega)) rfl rfl rfl ?_
       refine o_nil ?_
       refine h_next (fun _ hw => HeapIs.drop hw (List.Sublist.cons_cons _ (List.Sublist.cons _ (List.Sublist.slnil)))) ?_
       refine h_one (i := 17) (ls := #[true, true, true, true, true, true, true, true, true, true, true, true, true, true, true, true, true, true]) (by kernel_rfl) rfl rfl ?_
       refine o_storeW (i := 1) (T := tInt) (idx := (j - 1).toNat) (v := .int .i64 (lt.getD j.toNat default)) (vs := [.int .i64 (lt.getD j.toNat default)]) (z := (lt.getD j.toNat default)) rfl rfl rfl rfl (by first | assumption | omega | (simp only [List.length_set]; omega)) sz3 rfl rfl rfl rfl (Sub.refl _) ?_
       refine o_nil ?_
       refine h_next (fun _ hw => HeapIs.drop hw (List.Sublist.cons_cons _ (List.Sublist.cons _ (List.Sublist.slnil)))) ?_
       refine h_done (by kernel_rfl) ?_
       refine q_kont hK7 () (Sub.cons rfl (Sub.cons rfl (Sub.cons rfl (Sub.cons rfl (Sub.cons rfl (Sub.cons rfl (Sub.nil _))))))) (fun _ hw => HeapIs.pick hw [0, 1] (by decide) rfl)
      ·refine o_pure (p_loadE1 (i := j.toNat) (T := tInt) (L := lt) (v := .int .i64 (lt.getD j.toNat default)) rfl (rd_own (i := 1) rfl) (by first | assumption | omega) sh3 (congrArg tInt.enc (getd_at (by first | assumption | omega) default))) rfl rfl rfl ?_
       refine o_nil ?_
       refine h_next (fun _ hw => HeapIs.drop hw (List.Sublist.cons_cons _ (List.Sublist.cons _ (List.Sublist.slnil)))) ?_
       refine h_one (i := 9) (ls := #[true, true, true, true, true, true, true, true, true, true, true, true, true, true, false, false, false, false]) (by kernel_rfl) rfl rfl ?_
       refine o_pure (p_loadE1 (i := (j - 1).toNat) (T := tInt) (L := lt) (v := .int .i64 (lt.getD ((j - 1).toNat) default)) rfl (rd_own (i := 1) rfl) (by first | assumption | omega) sh3 (congrArg tInt.enc (getd_at (by first | assumption | omega) default))) rfl rfl rfl ?_
       refine o_nil ?_
       refine h_next (fun _ hw => HeapIs.drop hw (List.Sublist.cons_cons _ (List.Sublist.cons _ (List.Sublist.slnil)))) ?_
       refine h_one (i := 14) (ls := #[true, true, true, true, true, true, true, true, true, true, true, true, true, true, true, false, false, false]) (by kernel_rfl) rfl rfl ?_
       refine o_pure (p_indexAddr (L := lt) (T := tInt) (i := j) rfl rfl (rd_own (i := 1) rfl) Try.underlying22 sz3 (by omega) (by omega)) rfl rfl rfl ?_
       refine o_nil ?_
       refine h_next (fun _ hw => HeapIs.drop hw (List.Sublist.cons_cons _ (List.Sublist.cons _ (List.Sublist.slnil)))) ?_
       refine h_one (i := 15) (ls := #[true, true, true, true, true, true, true, true, true, true, true, true, true, true, true, true, false, false]) (by kernel_rfl) rfl rfl ?_
       refine o_storeW (i := 1) (T := tInt) (idx := j.toNat) (v := .int .i64 (lt.getD ((j - 1).toNat) default)) (vs := [.int .i64 (lt.getD ((j - 1).toNat) default)]) (z := (lt.getD ((j - 1).toNat) default)) rfl rfl rfl rfl (by first | assumption | omega | (simp only [List.length_set]; omega)) sz3 rfl rfl rfl rfl (Sub.refl _) ?_
       refine o_nil ?_
       refine h_next (fun _ hw => HeapIs.drop hw (List.Sublist.cons_cons _ (List.Sublist.cons _ (List.Sublist.slnil)))) ?_
       refine h_one (i := 16) (ls := #[true, true, true, true, true, true, true, true, true, true, true, true, true, true, true, true, true, false]) (by kernel_rfl) rfl rfl ?_
       refine o_pure (p_indexAddrS (T := tInt) (i := (j - 1)) (j := 1) (m := lt.length) rfl rfl rfl (by simp only [List.length_set]) Try.underlying22 sz3 (by omega) (by omega)) rfl rfl rfl ?_
       refine o_nil ?_
       refine h_next (fun _ hw => HeapIs.drop hw (List.Sublist.cons_cons _ (List.Sublist.cons _ (List.Sublist.slnil)))) ?_
       refine h_one (i := 17) (ls := #[true, true, true, true, true, true, true, true, true, true, true, true, true, true, true, true, true, true]) (by kernel_rfl) rfl rfl ?_
       refine o_storeW (i := 1) (T := tInt) (idx := (j - 1).toNat) (v := .int .i64 (lt.getD j.toNat default)) (vs := [.int .i64 (lt.getD j.toNat default)]) (z := (lt.getD j.toNat default)) rfl rfl rfl rfl (by first | assumption | omega | (simp only [List.length_set]; omega)) sz3 rfl rfl rfl rfl (Sub.refl _) ?_
       refine o_nil ?_
       refine h_next (fun _ hw => HeapIs.drop hw (List.Sublist.cons_cons _ (List.Sublist.cons _ (List.Sublist.slnil)))) ?_
       refine h_done (by kernel_rfl) ?_
       refine q_kont hK7 () (Sub.cons rfl (Sub.cons rfl (Sub.cons rfl (Sub.cons rfl (Sub.cons rfl (Sub.cons rfl (Sub.nil _))))))) (fun _ hw => HeapIs.pick hw [0, 1] (by decide) rfl)
     ·refine o_pure (p_loadE1 (i := j.toNat) (T := tInt) (L := lt) (v := .int .i64 (lt.getD j.toNat default)) rfl (rd_own (i := 1) rfl) (by first | assumption | omega) sh3 (congrArg tInt.enc (getd_at (by first | assumption | omega) default))) rfl rfl rfl ?_
      refine o_nil ?_
      refine h_next (fun _ hw => HeapIs.drop hw (List.Sublist.cons_cons _ (List.Sublist.cons _ (List.Sublist.slnil)))) ?_
      refine h_one (i := 8) (ls := #[true, true, true, true, true, true, true, true, true, false, true, true, true, true, false, false, false, false]) (by kernel_rfl) rfl rfl ?_
      refine o_pure (p_indexAddr (L := lt) (T := tInt) (i := (j - 1)) rfl rfl (rd_own (i := 1) rfl) Try.underlying22 sz3 (by omega) (by omega)) rfl rfl rfl ?_
      refine o_nil ?_
      refine h_next (fun _ hw => HeapIs.drop hw (List.Sublist.cons_cons _ (List.Sublist.cons _ (List.Sublist.slnil)))) ?_
      refine h_one (i := 9) (ls := #[true, true, true, true, true, true, true, true, true, true, true, true, true, true, false, false, false, false]) (by kernel_rfl) rfl rfl ?_
      refine o_pure (p_loadE1 (i := (j - 1).toNat) (T := tInt) (L := lt) (v := .int .i64 (lt.getD ((j - 1).toNat) default)) rfl (rd_own (i := 1) rfl) (by first | assumption | omega) sh3 (congrArg tInt.enc (getd_at (by first | assumption | omega) default))) rfl rfl rfl ?_
      refine o_nil ?_
      refine h_next (fun _ hw => HeapIs.drop hw (List.Sublist.cons_cons _ (List.Sublist.cons _ (List.Sublist.slnil)))) ?_
      refine h_one (i := 14) (ls := #[true, true, true, true, true, true, true, true, true, true, true, true, true, true, true, false, false, false]) (by kernel_rfl) rfl rfl ?_
      refine o_pure (p_indexAddr (L := lt) (T := tInt) (i := j) rfl rfl (rd_own (i := 1) rfl) Try.underlying22 sz3 (by omega) (by omega)) rfl rfl rfl ?_
      refine o_nil ?_
      refine h_next (fun _ hw => HeapIs.drop hw (List.Sublist.cons_cons _ (List.Sublist.cons _ (List.Sublist.slnil)))) ?_
      refine h_one (i := 15) (ls := #[true, true, true, true, true, true, true, true, true, true, true, true, true, true, true, true, false, false]) (by kernel_rfl) rfl rfl ?_
      refine o_storeW (i := 1) (T := tInt) (idx := j.toNat) (v := .int .i64 (lt.getD ((j - 1).toNat) default)) (vs := [.int .i64 (lt.getD ((j - 1).toNat) default)]) (z := (lt.getD ((j - 1).toNat) default)) rfl rfl rfl rfl (by first | assumption | omega | (simp only [List.length_set]; omega)) sz3 rfl rfl rfl rfl (Sub.refl _) ?_
      refine o_nil ?_
      refine h_next (fun _ hw => HeapIs.drop hw (List.Sublist.cons_cons _ (List.Sublist.cons _ (List.Sublist.slnil)))) ?_
      refine h_one (i := 16) (ls := #[true, true, true, true, true, true, true, true, true, true, true, true, true, true, true, true, true, false]) (by kernel_rfl) rfl rfl ?_
      refine o_pure (p_indexAddrS (T := tInt) (i := (j - 1)) (j := 1) (m := lt.length) rfl rfl rfl (by simp only [List.length_set]) Try.underlying22 sz3 (by omega) (by omega)) rfl rfl rfl ?_
      refine o_nil ?_
      refine h_next (fun _ hw => HeapIs.drop hw (List.Sublist.cons_cons _ (List.Sublist.cons _ (List.Sublist.slnil)))) ?_
      refine h_one (i := 17) (ls := #[true, true, true, true, true, true, true, true, true, true, true, true, true, true, true, true, true, true]) (by kernel_rfl) rfl rfl ?_
      refine o_storeW (i := 1) (T := tInt) (idx := (j - 1).toNat) (v := .int .i64 (lt.getD j.toNat default)) (vs := [.int .i64 (lt.getD j.toNat default)]) (z := (lt.getD j.toNat default)) rfl rfl rfl rfl (by first | assumption | omega | (simp only [List.length_set]; omega)) sz3 rfl rfl rfl rfl (Sub.refl _) ?_
      refine o_nil ?_
      refine h_next (fun _ hw => HeapIs.drop hw (List.Sublist.cons_cons _ (List.Sublist.cons _ (List.Sublist.slnil)))) ?_
      refine h_done (by kernel_rfl) ?_
      refine q_kont hK7 () (Sub.cons rfl (Sub.cons rfl (Sub.cons rfl (Sub.cons rfl (Sub.cons rfl (Sub.cons rfl (Sub.nil _))))))) (fun _ hw => HeapIs.pick hw [0, 1] (by decide) rfl)
   rintro _
   show SQ _ 53 w0 _ _ [(0, .slice al lt.length cl), (1, .int .i64 a), (2, .int .i64 b), (3, .func (.func 42) #[] #[.pointer (some ⟨Bq, 0, none⟩)]), (8, .int .i64 i), (9, .int .i64 j)] [outer w0 [own tInt Sl al cl l], own tInt Sl al cl ((lt.set j.toNat (lt.getD ((j - 1).toNat) default)).set ((j - 1).toNat) (lt.getD j.toNat default))]
   refine q_cast (F' := [(0, .slice al ((lt.set j.toNat (lt.getD ((j - 1).toNat) default)).set ((j - 1).toNat) (lt.getD j.toNat default)).length cl), (1, .int .i64 a), (2, .int .i64 b), (3, .func (.func 42) #[] #[.pointer (some ⟨Bq, 0, none⟩)]), (8, .int .i64 i), (9, .int .i64 j)]) (H := [outer w0 [own tInt Sl al cl l], own tInt Sl al cl ((lt.set j.toNat (lt.getD ((j - 1).toNat) default)).set ((j - 1).toNat) (lt.getD j.toNat default))]) (H' := [outer w0 [own tInt Sl al cl l], own tInt Sl al cl ((lt.set j.toNat (lt.getD ((j - 1).toNat) default)).set ((j - 1).toNat) (lt.getD j.toNat default))]) (Sub.cons (by simp only [List.length_set, List.length_reverse]; rfl) (Sub.cons rfl (Sub.cons rfl (Sub.cons rfl (Sub.cons rfl (Sub.cons rfl (Sub.nil _))))))) (by rfl) ?_
   refine q_block_normal (q_then ?_)
   refine c_region ?_
   refine o_mv rfl rfl ?_
   refine o_pure (p_subb (p := j) (q := 1) rfl rfl (by omega)) rfl rfl rfl ?_
   refine o_as rfl rfl ?_
   refine o_nil ?_
   refine q_round hK3 ((j - 1), ((lt.set j.toNat (lt.getD ((j - 1).toNat) default)).set ((j - 1).toNat) (lt.getD j.toNat default))) ?_ ?_ ?_ ?_
   ·clear hK3
    exact hI.next (by omega) (by omega)
   ·(try dsimp only); omega
   ·exact Sub.cons rfl (Sub.cons rfl (Sub.cons rfl (Sub.cons rfl (Sub.cons rfl (Sub.cons rfl (Sub.nil _))))))
   ·exact fun _ hw => HeapIs.pick hw [0, 1] (by decide) rfl
  ·simp only [Bool.and_eq_false_iff, decide_eq_false_iff_not, Int.not_lt] at hc5
   have hst := hc5
   refine c_exit ?_
   refine q_then_exit (q_then_exit (q_block_exit (q_block_normal (q_then ?_))))
   refine c_region ?_
   refine o_mv rfl rfl ?_
   refine o_pure (p_addb (p := i) (q := 1) rfl rfl (by omega)) rfl rfl rfl ?_
   refine o_as rfl rfl ?_
   refine o_nil ?_
   refine q_round hK1 ((i + 1), lt) ?_ ?_ ?_ ?_
   ·clear hK1
    exact hI.fin (by have h9 := hI.a0; omega)
   ·(try dsimp only); omega
   ·exact Sub.cons rfl (Sub.cons rfl (Sub.cons rfl (Sub.cons rfl (Sub.cons rfl (Sub.nil _)))))
   ·exact fun _ hw => HeapIs.pick hw [0, 1] (by decide) rfl
 ·simp only [decide_eq_false_iff_not, Int.not_lt] at hc2
  refine c_exit ?_
  refine q_then_exit (q_then_exit (q_block_exit ?_))
  have hr0 : (ls : List Int) = (if a = 0 then St.isort (Cmp.cmp q) l else l) := by
   exact hI.done (by omega)
  refine q_endX (p := ()) (rt0 rfl) ?_ (fun w hw => ?_)
  ·exact rfl
  ·have h2 := hw.pick (H' := [outer w0 [own tInt Sl al cl l], own tInt Sl al cl ls]) [0, 1] (by decide) rfl
   exact Eq.mp (congrArg (fun z => HeapIs w0 ((outer w0 [own tInt Sl al cl l]) :: z) w) ((by have hcc := congrArg (fun (y0 : List Int) => ([own tInt Sl al cl y0] : List Ent)) hr0; exact hcc))) h2

set_option maxHeartbeats 8000000 in
set_option maxRecDepth 100000 in
theorem stableCmp_ok (l : List Int) (al : Option Addr) (cl : Nat) (Sl : Nat → Prop) (n : Int) (Bq : Nat) (q : List Int) (aq : Option Addr) (cq : Nat) (hy1 : n = (l.length : Int) ∧ l.length ≤ 20) (hy2 : (∀ x ∈ l, 1 ≤ x ∧ x ≤ (q.length : Int)) ∧ q.length ≤ 5) : FnX Try.prog 73 [.slice al l.length cl, .int .i64 n, .func (.func 42) #[] #[.pointer (some ⟨Bq, 0, none⟩)]] [own tInt Sl al cl l] (fun w => SlR tInt (outer w [own tInt Sl al cl l]).S w aq cq q ∧ ((box Bq [.slice aq q.length cq] 22).A w ∧ (outer w [own tInt Sl al cl l]).S Bq)) (Unit) (fun p => .tuple #[]) (fun p => [own tInt Sl al cl (St.isort (Cmp.cmp q) l)]) := by
 refine fnX (nt := 63) (F0 := [(0, .slice al l.length cl), (1, .int .i64 n), (2, .func (.func 42) #[] #[.pointer (some ⟨Bq, 0, none⟩)])]) Try.func73 rfl Try.ntmps73 rfl rfl (fun w0 hpre => ?_)
 obtain ⟨hq, hBq⟩ := hpre
 have hlhq := hq.2.1
 refine c_know (fun w hw => own_len (i := 1) (T := tInt) hw rfl) (fun hlown_l => ?_)
 obtain ⟨hcown_l, hlown_l⟩ := hlown_l
 refine c_seq (c_region ?_)
 refine o_as rfl rfl ?_
 refine o_nil (q_then (c_seq (c_region ?_)))
 refine o_mv rfl rfl ?_
 refine o_as rfl rfl ?_
 refine o_as rfl rfl ?_
 refine o_nil (q_then (c_seq (c_block ?_)))
 refine c_loop (St := Int × Int × List Int)
  (fun ⟨a2, b2, ls⟩ => [(0, .slice al ls.length cl), (1, .int .i64 n), (2, .func (.func 42) #[] #[.pointer (some ⟨Bq, 0, none⟩)]), (6, .int .i64 20), (7, .int .i64 a2), (8, .int .i64 b2)])
  (fun ⟨a2, b2, ls⟩ => [outer w0 [own tInt Sl al cl l], own tInt Sl al cl ls])
  (fun ⟨a2, b2, ls⟩ => St.BI (Cmp.cmp q) l ls a2 b2)
  (fun ⟨a2, b2, ls⟩ => (60 - b2).toNat)
  (0, 20, l) ?_ (Sub.cons rfl (Sub.cons rfl (Sub.cons rfl (Sub.cons rfl (Sub.cons rfl (Sub.cons rfl (Sub.nil _))))))) (fun _ hw => hw) ?_
 ·exact St.BI.start
 rintro ⟨a2, b2, ls⟩ hI K hK1
 have hBl := hI.len
 have hBa := hI.cases
 show SC _ _ Try.prog 63 w0 _ _ [(0, .slice al ls.length cl), (1, .int .i64 n), (2, .func (.func 42) #[] #[.pointer (some ⟨Bq, 0, none⟩)]), (6, .int .i64 20), (7, .int .i64 a2), (8, .int .i64 b2)] [outer w0 [own tInt Sl al cl l], own tInt Sl al cl ls]
 refine c_seq (c_seq (c_region ?_))
 refine o_mv rfl rfl ?_
 refine o_mv rfl rfl ?_
 refine o_pure (p_le (p := b2) (q := n) rfl rfl) rfl rfl rfl ?_
 refine o_nil (q_then ?_)
 refine c_cond (b := decide (b2 ≤ n)) rfl (fun hc2 => ?_) (fun hc2 => ?_)
 ·simp only [decide_eq_true_eq] at hc2
  have hgo := hc2
  have hside := (show (∀ x ∈ ls, 1 ≤ x ∧ x ≤ (q.length : Int)) ∧ q.length ≤ 5 from ⟨fun x hx => hy2.1 x (hI.mem.1 hx), hy2.2⟩)
  refine c_skip (q_then (c_block (c_seq (c_region ?_))))
  refine o_mv rfl rfl ?_
  refine o_mv rfl rfl ?_
  refine o_mv rfl rfl ?_
  refine o_mv rfl rfl ?_
  refine o_pick (H' := [own tInt Sl al cl ls, outer w0 [own tInt Sl al cl l]]) [1, 0] (by decide) rfl ?_
  refine o_callX (pre := [own tInt Sl al cl ls]) (R := [outer w0 [own tInt Sl al cl l]]) rfl (insSort_ok ls al cl Sl a2 b2 Bq q aq cq (by first | assumption | omega) (by first | assumption | exact hside)) hf103 rfl (fun w hw => ⟨(rdX (i := 1) (js := [0]) rfl (by decide) rfl (fun _ hA => slR_outer hq hA)) w hw, boxX_outer (i := 1) (js := [0]) rfl (by decide) rfl hBq w hw⟩) rfl ?_
  rintro ⟨⟩
  refine o_asH (H' := [own tInt Sl al cl (if a2 = 0 then St.isort (Cmp.cmp q) ls else ls), outer w0 [own tInt Sl al cl l]]) rfl ?_
  refine o_cast (F' := [(0, .slice al (if a2 = 0 then St.isort (Cmp.cmp q) ls else ls).length cl), (1, .int .i64 n), (2, .func (.func 42) #[] #[.pointer (some ⟨Bq, 0, none⟩)]), (6, .int .i64 20), (8, .int .i64 b2)]) (H := [own tInt Sl al cl (if a2 = 0 then St.isort (Cmp.cmp q) ls else ls), outer w0 [own tInt Sl al cl l]]) (H' := [own tInt Sl al cl (if a2 = 0 then St.isort (Cmp.cmp q) ls else ls), outer w0 [own tInt Sl al cl l]]) (Sub.cons (by simp only [List.length_set, List.length_reverse, St.ite_len]; rfl) (Sub.cons rfl (Sub.cons rfl (Sub.cons rfl (Sub.cons rfl (Sub.nil _)))))) (by rfl) ?_
  refine o_nil (q_then (c_seq (c_region ?_)))
  refine o_mv rfl rfl ?_
  refine o_as rfl rfl ?_
  refine o_nil (q_then (c_region ?_))
  refine o_mv rfl rfl ?_
  refine o_mv rfl rfl ?_
  refine o_pure (p_addb (p := b2) (q := 20) rfl rfl (by omega)) rfl rfl rfl ?_
  refine o_as rfl rfl ?_
  refine o_nil ?_
  refine q_block_normal ?_
  refine q_round hK1 (b2, (b2 + 20), (if a2 = 0 then St.isort (Cmp.cmp q) ls else ls)) ?_ ?_ ?_ ?_
  ·clear hK1
   exact hI.next (by omega)
  ·(try dsimp only); omega
  ·exact Sub.cons rfl (Sub.cons rfl (Sub.cons rfl (Sub.cons rfl (Sub.cons rfl (Sub.cons rfl (Sub.nil _))))))
  ·exact fun _ hw => HeapIs.pick hw [1, 0] (by decide) rfl
 ·simp only [decide_eq_false_iff_not, Int.not_le] at hc2
  have hst := hc2
  have hS := hI
  have hside := (show (∀ x ∈ ls, 1 ≤ x ∧ x ≤ (q.length : Int)) ∧ q.length ≤ 5 from ⟨fun x hx => hy2.1 x (hI.mem.1 hx), hy2.2⟩)
  refine c_exit ?_
  refine q_then_exit (q_then_exit (q_block_exit (q_then ?_)))
  refine c_seq (c_region ?_)
  refine o_mv rfl rfl ?_
  refine o_mv rfl rfl ?_
  refine o_mv rfl rfl ?_
  refine o_mv rfl rfl ?_
  refine o_pick (H' := [own tInt Sl al cl ls, outer w0 [own tInt Sl al cl l]]) [1, 0] (by decide) rfl ?_
  refine o_callX (pre := [own tInt Sl al cl ls]) (R := [outer w0 [own tInt Sl al cl l]]) rfl (insSort_ok ls al cl Sl a2 n Bq q aq cq (by first | assumption | omega) (by first | assumption | exact hside)) hf103 rfl (fun w hw => ⟨(rdX (i := 1) (js := [0]) rfl (by decide) rfl (fun _ hA => slR_outer hq hA)) w hw, boxX_outer (i := 1) (js := [0]) rfl (by decide) rfl hBq w hw⟩) rfl ?_
  rintro ⟨⟩
  refine o_asH (H' := [own tInt Sl al cl (if a2 = 0 then St.isort (Cmp.cmp q) ls else ls), outer w0 [own tInt Sl al cl l]]) rfl ?_
  refine o_cast (F' := [(0, .slice al (if a2 = 0 then St.isort (Cmp.cmp q) ls else ls).length cl), (1, .int .i64 n), (2, .func (.func 42) #[] #[.pointer (some ⟨Bq, 0, none⟩)]), (6, .int .i64 20)]) (H := [own tInt Sl al cl (if a2 = 0 then St.isort (Cmp.cmp q) ls else ls), outer w0 [own tInt Sl al cl l]]) (H' := [own tInt Sl al cl (if a2 = 0 then St.isort (Cmp.cmp q) ls else ls), outer w0 [own tInt Sl al cl l]]) (Sub.cons (by simp only [List.length_set, List.length_reverse, St.ite_len]; rfl) (Sub.cons rfl (Sub.cons rfl (Sub.cons rfl (Sub.nil _))))) (by rfl) ?_
  refine o_nil (q_then (c_block ?_))
  refine c_loop (St := Int × List Int)
   (fun ⟨bs, lt⟩ => [(0, .slice al lt.length cl), (1, .int .i64 n), (2, .func (.func 42) #[] #[.pointer (some ⟨Bq, 0, none⟩)]), (6, .int .i64 bs)])
   (fun ⟨bs, lt⟩ => [own tInt Sl al cl lt, outer w0 [own tInt Sl al cl l]])
   (fun ⟨bs, lt⟩ => bs = 20 ∧ lt = St.isort (Cmp.cmp q) l)
   (fun ⟨bs, lt⟩ => 0)
   (20, (if a2 = 0 then St.isort (Cmp.cmp q) ls else ls)) ?_ (Sub.cons rfl (Sub.cons rfl (Sub.cons rfl (Sub.cons rfl (Sub.nil _))))) (fun _ hw => hw) ?_
  ·exact ⟨rfl, hS.done⟩
  rintro ⟨bs, lt⟩ hI K hK3
  obtain ⟨hI1, hI2⟩ := id hI
  show SC _ _ Try.prog 63 w0 _ _ [(0, .slice al lt.length cl), (1, .int .i64 n), (2, .func (.func 42) #[] #[.pointer (some ⟨Bq, 0, none⟩)]), (6, .int .i64 bs)] [own tInt Sl al cl lt, outer w0 [own tInt Sl al cl l]]
  refine c_seq (c_seq (c_region ?_))
  refine o_mv rfl rfl ?_
  refine o_mv rfl rfl ?_
  refine o_pure (p_lt (p := bs) (q := n) rfl rfl) rfl rfl rfl ?_
  refine o_nil (q_then ?_)
  refine c_cond (b := decide (bs < n)) rfl (fun hc4 => ?_) (fun hc4 => ?_)
  ·simp only [decide_eq_true_eq] at hc4
   exfalso; omega
  ·simp only [decide_eq_false_iff_not, Int.not_lt] at hc4
   refine c_exit ?_
   refine q_then_exit (q_then_exit (q_block_exit ?_))
   have hr0 : (lt : List Int) = (St.isort (Cmp.cmp q) l) := by
    exact hI.2
   refine q_endX (p := ()) (rt0 rfl) ?_ (fun w hw => ?_)
   ·exact rfl
   ·have h2 := hw.pick (H' := [outer w0 [own tInt Sl al cl l], own tInt Sl al cl lt]) [1, 0] (by decide) rfl
    exact Eq.mp (congrArg (fun z => HeapIs w0 ((outer w0 [own tInt Sl al cl l]) :: z) w) ((by have hcc := congrArg (fun (y0 : List Int) => ([own tInt Sl al cl y0] : List Ent)) hr0; exact hcc))) h2

set_option maxHeartbeats 8000000 in
set_option maxRecDepth 100000 in
theorem sortStable_ok (l : List Int) (al : Option Addr) (cl : Nat) (Sl : Nat → Prop) (Bq : Nat) (q : List Int) (aq : Option Addr) (cq : Nat) (hy1 : l.length ≤ 20) (hy2 : (∀ x ∈ l, 1 ≤ x ∧ x ≤ (q.length : Int)) ∧ q.length ≤ 5) : FnX Try.prog 41 [.slice al l.length cl, .func (.func 42) #[] #[.pointer (some ⟨Bq, 0, none⟩)]] [own tInt Sl al cl l] (fun w => SlR tInt (outer w [own tInt Sl al cl l]).S w aq cq q ∧ ((box Bq [.slice aq q.length cq] 22).A w ∧ (outer w [own tInt Sl al cl l]).S Bq)) (Unit) (fun p => .tuple #[]) (fun p => [own tInt Sl al cl (St.isort (Cmp.cmp q) l)]) := by
 refine fnX (nt := 9) (F0 := [(0, .slice al l.length cl), (1, .func (.func 42) #[] #[.pointer (some ⟨Bq, 0, none⟩)])]) Try.func41 rfl Try.ntmps41 rfl rfl (fun w0 hpre => ?_)
 obtain ⟨hq, hBq⟩ := hpre
 have hlhq := hq.2.1
 refine c_know (fun w hw => own_len (i := 1) (T := tInt) hw rfl) (fun hlown_l => ?_)
 obtain ⟨hcown_l, hlown_l⟩ := hlown_l
 refine c_region ?_
 refine o_mv rfl rfl ?_
 refine o_mv rfl rfl ?_
 refine o_pure (p_len_slice (len := l.length) rfl rfl Try.underlying22) rfl rfl rfl ?_
 refine o_mv rfl rfl ?_
 refine o_pick (H' := [own tInt Sl al cl l, outer w0 [own tInt Sl al cl l]]) [1, 0] (by decide) rfl ?_
 refine o_callX (pre := [own tInt Sl al cl l]) (R := [outer w0 [own tInt Sl al cl l]]) rfl (stableCmp_ok l al cl Sl (l.length : Int) Bq q aq cq (by first | assumption | omega) (by first | assumption | exact hside)) hf73 rfl (fun w hw => ⟨(rdX (i := 1) (js := [0]) rfl (by decide) rfl (fun _ hA => slR_outer hq hA)) w hw, boxX_outer (i := 1) (js := [0]) rfl (by decide) rfl hBq w hw⟩) rfl ?_
 rintro ⟨⟩
 refine o_asH (H' := [own tInt Sl al cl (St.isort (Cmp.cmp q) l), outer w0 [own tInt Sl al cl l]]) rfl ?_
 refine o_cast (F' := []) (H := [own tInt Sl al cl (St.isort (Cmp.cmp q) l), outer w0 [own tInt Sl al cl l]]) (H' := [own tInt Sl al cl (St.isort (Cmp.cmp q) l), outer w0 [own tInt Sl al cl l]]) (Sub.nil _) (by rfl) ?_
 refine o_nil ?_
 refine q_endX (p := ()) (rt0 rfl) ?_ (fun w hw => ?_)
 ·exact rfl
 ·have h2 := hw.pick (H' := [outer w0 [own tInt Sl al cl l], own tInt Sl al cl (St.isort (Cmp.cmp q) l)]) [1, 0] (by decide) rfl
  exact Eq.mp (congrArg (fun z => HeapIs w0 ((outer w0 [own tInt Sl al cl l]) :: z) w) (rfl)) h2

set_option maxHeartbeats 8000000 in
set_option maxRecDepth 100000 in
theorem cprank_ok (l : List Int) (al : Option Addr) (cl : Nat) (room : Int) : FnM Try.prog 24 [.slice al l.length cl, .int .i64 room] (fun w => Rd tInt w al cl l) (Option Addr × Nat) (fun p => .tuple #[.slice p.1 (Cmp.rank l room).length p.2, .int .i64 (Cmp.check l room)]) (fun p S w => SlO tInt S w p.1 p.2 (Cmp.rank l room)) := by
 refine fnM (nt := 34) (F0 := [(0, .slice al l.length cl), (1, .int .i64 room)]) Try.func24 rfl Try.ntmps24 rfl rfl (fun w0 hpre => ?_)
 have hl := hpre
 have hlhl := hl.2.1
 refine c_seq (c_region ?_)
 refine o_as rfl rfl ?_
 refine o_as rfl rfl ?_
 refine o_nil (q_then (c_seq (c_region ?_)))
 refine o_mv rfl rfl ?_
 refine o_mv rfl rfl ?_
 refine o_callM rfl (cphits_ok l al cl room) hf23 (fun w hw => (rd_base (i := 0) rfl hl) w hw) rfl (fun _ _ _ _ ha hA => SlO.agree ha hA) ?_
 rintro ⟨a3, c4⟩ S1
 refine o_know (fun w hw => own_len (i := 0) (T := tInt) hw rfl) (fun hlr5 => ?_)
 refine o_mv rfl rfl ?_
 refine o_ex rfl rfl rfl ?_
 refine o_ex rfl rfl rfl ?_
 refine o_alloc ze22 rfl (fun B6 => ?_)
 refine o_store (i := 0) (v := .slice a3 (Cmp.hits l room).length c4) (cs' := [.slice a3 (Cmp.hits l room).length c4]) rfl rfl rfl sz22 rfl rfl rfl ?_
 refine o_as rfl rfl ?_
 refine o_nil (q_then (c_seq (c_seq (c_region ?_))))
 refine o_mv rfl rfl ?_
 refine o_pure (p_ne (p := (Cmp.check l room)) (q := 0) rfl rfl) rfl rfl rfl ?_
 refine o_nil (q_then ?_)
 refine c_cond (b := ((Cmp.check l room) != 0)) rfl (fun hc7 => ?_) (fun hc7 => ?_)
 ·simp only [bne_iff_ne, ne_eq] at hc7
  refine c_seq (c_region ?_)
  refine o_mv rfl rfl ?_
  refine o_as rfl rfl ?_
  refine o_as rfl rfl ?_
  refine o_nil (q_then (c_ret ?_))
  refine q_then_ret ?_
  have hr0 : ([] : List Int) = (Cmp.rank l room) := by
   first | rfl | exact (Cmp.rank_bad (by assumption)).symm | exact hck.symm | (rw [Cmp.rank_ok hck, hI.2, show k = 5 by omega])
  refine q_endM (p := (none, 0)) (fun _ => False) (rt2 rfl (r_tmp rfl) (r_tmp rfl)) (i := 2) rfl ?_ ?_ ?_
  ·exact (by have hcc := congrArg (fun (y0 : List Int) => (.tuple #[.slice none y0.length 0, .int .i64 (Cmp.check l room)] : Value)) hr0; exact hcc)
  ·intro w hw b hb; exact hb.elim
  ·intro w hw; exact Eq.mp (congrArg (fun y => SlO tInt _ w none 0 y) hr0) (SlO.nil tInt w)
 ·simp only [bne_eq_false_iff_eq] at hc7
  have hck := hc7
  have hok := Cmp.chk_ok.1 hc7
  have hl5 := Cmp.hits_len hc7
  refine c_skip (q_then (c_seq (c_region ?_)))
  refine o_as rfl rfl ?_
  refine o_nil (q_then (c_seq (c_seq (c_region ?_))))
  refine o_pure (p_load (i := 0) (v := .slice a3 (Cmp.hits l room).length c4) rfl rfl sh22 rfl) rfl rfl rfl ?_
  refine o_pure (p_len_slice (len := (Cmp.hits l room).length) rfl rfl Try.underlying22) rfl rfl rfl ?_
  refine o_mv rfl rfl ?_
  refine o_nil (q_then (c_block ?_))
  refine c_ownNil tInt ?_
  refine c_loop (St := List Int × Option Addr × Nat × (Nat → Prop) × Nat)
   (fun ⟨out, aout, cout, Sout, k⟩ => [(6, .pointer (some ⟨B6, 0, none⟩)), (8, .slice aout out.length cout), (20, .int .i64 ((Cmp.hits l room).length : Int)), (21, .int .i64 (k : Int))])
   (fun ⟨out, aout, cout, Sout, k⟩ => [own tInt Sout aout cout out, box B6 [.slice a3 (Cmp.hits l room).length c4] 22, own tInt S1 a3 c4 (Cmp.hits l room), base w0])
   (fun ⟨out, aout, cout, Sout, k⟩ => k ≤ 5 ∧ out = (List.range k).map (fun i : Nat => (i : Int) + 1))
   (fun ⟨out, aout, cout, Sout, k⟩ => 5 - k)
   ([], none, 0, (fun _ => False), 0) ?_ (Sub.cons rfl (Sub.cons rfl (Sub.cons rfl (Sub.cons rfl (Sub.nil _))))) (fun _ hw => hw) ?_
  ·exact ⟨Nat.zero_le _, rfl⟩
  rintro ⟨out, aout, cout, Sout, k⟩ hI K hK9
  have hol : out.length = k := by rw [hI.2]; simp
  show SC _ _ Try.prog 34 w0 _ _ [(6, .pointer (some ⟨B6, 0, none⟩)), (8, .slice aout out.length cout), (20, .int .i64 ((Cmp.hits l room).length : Int)), (21, .int .i64 (k : Int))] [own tInt Sout aout cout out, box B6 [.slice a3 (Cmp.hits l room).length c4] 22, own tInt S1 a3 c4 (Cmp.hits l room), base w0]
  refine c_seq (c_region ?_)
  refine o_pure (p_lt (p := (k : Int)) (q := ((Cmp.hits l room).length : Int)) rfl rfl) rfl rfl rfl ?_
  refine o_nil (q_then (c_seq ?_))
  refine c_cond (b := decide ((k : Int) < ((Cmp.hits l room).length : Int))) rfl (fun hc10 => ?_) (fun hc10 => ?_)
  ·simp only [decide_eq_true_eq] at hc10
   refine c_skip (q_then (c_seq (c_block (c_seq (c_region ?_)))))
   refine o_mv rfl rfl ?_
   refine o_as rfl rfl ?_
   refine o_nil (q_then (c_region ?_))
   refine o_mv rfl rfl ?_
   refine o_mv rfl rfl ?_
   refine o_pure (p_addb (p := (k : Int)) (q := 1) rfl rfl (by omega)) rfl rfl rfl ?_
   refine o_buildSlice (m := 1) (T := tInt) (L := [((k : Int) + 1)]) (vs := [.int .i64 ((k : Int) + 1)]) rfl rfl rfl rfl Try.underlying22 sz3 (by decide) ze3 rfl (by decide) rfl (fun S11 a12 => ?_)
   refine o_append (i := 1) (L := out) (M := [((k : Int) + 1)]) (T := tInt) rfl rfl rfl (rd_own (i := 0) rfl) Try.underlying22 Try.underlying22 (by intro k h; cases h) el3 (by intro z; simp [tInt, one1]) (by decide) (by first | omega | (simp only [List.length_cons, List.length_nil]; omega) | (simp only [List.length_append, List.length_cons, List.length_nil, List.length_take, List.length_drop]; omega)) rfl (fun a14 c15 S16 => ?_)
   refine o_as rfl rfl ?_
   refine o_nil ?_
   refine q_block_normal (q_then ?_)
   refine c_region ?_
   refine o_pure (p_addb (p := (k : Int)) (q := 1) rfl rfl (by omega)) rfl rfl rfl ?_
   refine o_mv rfl rfl ?_
   refine o_nil ?_
   refine q_round hK9 ((out ++ [((k : Int) + 1)]), a14, c15, S16, k + 1) ?_ ?_ ?_ ?_
   ·clear hK9
    exact ⟨by omega, (congrArg (fun z => z ++ [_]) hI.2).trans (Cmp.map_next _ k)⟩
   ·(try dsimp only); omega
   ·exact Sub.cons rfl (Sub.cons rfl (Sub.cons rfl (Sub.cons rfl (Sub.nil _))))
   ·exact fun _ hw => HeapIs.pick hw [1, 2, 3, 4] (by decide) rfl
  ·simp only [decide_eq_false_iff_not, Int.not_lt] at hc10
   have hside := And.intro (Cmp.side (q := Cmp.hits l room) hI.2 (by omega)) (show (Cmp.hits l room).length ≤ 5 by omega)
   refine c_exit ?_
   refine q_then_exit (q_then_exit (q_block_exit (q_then ?_)))
   refine c_seq (c_region ?_)
   refine o_mv rfl rfl ?_
   refine o_pure (p_makeFunc (vs := [.pointer (some ⟨B6, 0, none⟩)]) rfl) rfl rfl rfl ?_
   refine o_callX (pre := [own tInt Sout aout cout out]) (R := [box B6 [.slice a3 (Cmp.hits l room).length c4] 22, own tInt S1 a3 c4 (Cmp.hits l room), base w0]) rfl (sortStable_ok out aout cout Sout B6 (Cmp.hits l room) a3 c4 (by first | assumption | omega) (by first | assumption | exact hside)) hf41 rfl (fun w hw => ⟨(rdX (i := 2) (js := [0]) rfl (by decide) rfl (fun _ hA => SlO.toR hA)) w hw, boxX (i := 1) (js := [0]) rfl (by decide) rfl w hw⟩) rfl ?_
   rintro ⟨⟩
   refine o_asH (H' := [own tInt Sout aout cout (St.isort (Cmp.cmp (Cmp.hits l room)) out), box B6 [.slice a3 (Cmp.hits l room).length c4] 22, own tInt S1 a3 c4 (Cmp.hits l room), base w0]) rfl ?_
   refine o_cast (F' := [(8, .slice aout (St.isort (Cmp.cmp (Cmp.hits l room)) out).length cout)]) (H := [own tInt Sout aout cout (St.isort (Cmp.cmp (Cmp.hits l room)) out), box B6 [.slice a3 (Cmp.hits l room).length c4] 22, own tInt S1 a3 c4 (Cmp.hits l room), base w0]) (H' := [own tInt Sout aout cout (St.isort (Cmp.cmp (Cmp.hits l room)) out), box B6 [.slice a3 (Cmp.hits l room).length c4] 22, own tInt S1 a3 c4 (Cmp.hits l room), base w0]) (Sub.cons (by simp only [List.length_set, List.length_reverse, St.isort_len]; rfl) (Sub.nil _)) (by rfl) ?_
   refine o_nil (q_then (c_seq (c_region ?_)))
   refine o_mv rfl rfl ?_
   refine o_as rfl rfl ?_
   refine o_as rfl rfl ?_
   refine o_nil (q_then (c_ret ?_))
   have hr0 : ((St.isort (Cmp.cmp (Cmp.hits l room)) out) : List Int) = (Cmp.rank l room) := by
    first | rfl | exact (Cmp.rank_bad (by assumption)).symm | exact hck.symm | (rw [Cmp.rank_ok hck, hI.2, show k = 5 by omega])
   have hr1 : (0 : Int) = (Cmp.check l room) := by
    first | rfl | exact (Cmp.rank_bad (by assumption)).symm | exact hck.symm | (rw [Cmp.rank_ok hck, hI.2, show k = 5 by omega])
   refine q_endM (p := (aout, cout)) Sout (rt2 rfl (r_tmp rfl) (r_tmp rfl)) (i := 3) rfl ?_ ?_ ?_
   ·exact (by have hcc := congr (congrArg (fun (y0 : List Int) (y1 : Int) => (.tuple #[.slice aout y0.length cout, .int .i64 y1] : Value)) hr0) hr1; exact hcc)
   ·exact fun w hw => hw.above (i := 3) (j := 0) (by decide) rfl rfl
   ·intro w hw; exact Eq.mp (congrArg (fun y => SlO tInt _ w aout cout y) hr0) ((hw.at (i := 0) rfl).here)
end Go.Proofs.Ytfncgfcehkalnaa

/- The walks, printed by a program from the translation and a specification. -/
namespace Go.Proofs.Ytfncgfcehkalnaa
open Go.Sx Go.RowKit
set_option maxHeartbeats 8000000 in
set_option maxRecDepth 100000 in
theorem belady_ok  : FnM Try.prog 44 [] (fun _ => True) (Option Addr × Nat) (fun p => .slice p.1 ([1, 2, 3, 4, 1, 2, 5, 1, 2, 3, 4, 5]).length p.2) (fun p S w => SlO tInt S w p.1 p.2 ([1, 2, 3, 4, 1, 2, 5, 1, 2, 3, 4, 5])) := by
 refine fnM (nt := 2) (F0 := []) Try.func44 rfl Try.ntmps44 rfl rfl (fun w0 hpre => ?_)
 refine c_seq (c_region ?_)
 refine o_as rfl rfl ?_
 refine o_nil (q_then (c_seq (c_region ?_)))
 refine o_buildSlice (m := 12) (T := tInt) (L := [1, 2, 3, 4, 1, 2, 5, 1, 2, 3, 4, 5]) (vs := [.int .i64 1, .int .i64 2, .int .i64 3, .int .i64 4, .int .i64 1, .int .i64 2, .int .i64 5, .int .i64 1, .int .i64 2, .int .i64 3, .int .i64 4, .int .i64 5]) rfl rfl rfl rfl Try.underlying22 sz3 (by decide) ze3 rfl (by decide) rfl (fun S1 a2 => ?_)
 refine o_as rfl rfl ?_
 refine o_nil (q_then (c_ret ?_))
 refine q_endM (p := (a2, [1, 2, 3, 4, 1, 2, 5, 1, 2, 3, 4, 5].length)) S1 (rt1 rfl (r_tmp rfl)) (i := 1) rfl ?_ ?_ ?_
 ·exact rfl
 ·exact fun w hw => hw.above (i := 1) (j := 0) (by decide) rfl rfl
 ·intro w hw; exact (hw.at (i := 0) rfl).here

set_option maxHeartbeats 8000000 in
set_option maxRecDepth 100000 in
theorem contestBegun_ok  : Fn0 Try.prog 25 [] (fun _ => True) (.bool true) := by
 refine fn0 (nt := 84) (F0 := []) Try.func25 rfl Try.ntmps25 rfl rfl (fun w0 hpre => ?_)
 have hh5 : (Cmp.hits [1, 2, 3, 4, 1, 2, 5, 1, 2, 3, 4, 5] 3).length = 5 := by decide +kernel
 have hr5 : (Cmp.rank [1, 2, 3, 4, 1, 2, 5, 1, 2, 3, 4, 5] 3).length = 5 := by decide +kernel
 refine c_seq (c_region ?_)
 refine o_as rfl rfl ?_
 refine o_nil (q_then (c_seq (c_region ?_)))
 refine o_callM rfl (belady_ok ) hf44 (fun _ _ => trivial) rfl (fun _ _ _ _ ha hA => SlO.agree ha hA) ?_
 rintro ⟨a3, c4⟩ S1
 refine o_know (fun w hw => own_len (i := 0) (T := tInt) hw rfl) (fun hlr5 => ?_)
 refine o_callM rfl (cphits_ok ([1, 2, 3, 4, 1, 2, 5, 1, 2, 3, 4, 5]) a3 c4 (3 : Int)) hf23 (fun w hw => (rd_own (i := 0) rfl) w hw) rfl (fun _ _ _ _ ha hA => SlO.agree ha hA) ?_
 rintro ⟨a8, c9⟩ S6
 refine o_know (fun w hw => own_len (i := 0) (T := tInt) hw rfl) (fun hlr10 => ?_)
 refine o_mv rfl rfl ?_
 refine o_ex rfl rfl rfl ?_
 refine o_ex rfl rfl rfl ?_
 refine o_as rfl rfl ?_
 refine o_as rfl rfl ?_
 refine o_nil (q_then (c_seq (c_region ?_)))
 refine o_callM rfl (belady_ok ) hf44 (fun _ _ => trivial) rfl (fun _ _ _ _ ha hA => SlO.agree ha hA) ?_
 rintro ⟨a13, c14⟩ S11
 refine o_know (fun w hw => own_len (i := 0) (T := tInt) hw rfl) (fun hlr15 => ?_)
 refine o_callM rfl (cprank_ok ([1, 2, 3, 4, 1, 2, 5, 1, 2, 3, 4, 5]) a13 c14 (3 : Int)) hf24 (fun w hw => (rd_own (i := 0) rfl) w hw) rfl (fun _ _ _ _ ha hA => SlO.agree ha hA) ?_
 rintro ⟨a18, c19⟩ S16
 refine o_know (fun w hw => own_len (i := 0) (T := tInt) hw rfl) (fun hlr20 => ?_)
 refine o_mv rfl rfl ?_
 refine o_ex rfl rfl rfl ?_
 refine o_ex rfl rfl rfl ?_
 refine o_as rfl rfl ?_
 refine o_as rfl rfl ?_
 refine o_nil (q_then (c_seq (c_region ?_)))
 refine o_callM rfl (belady_ok ) hf44 (fun _ _ => trivial) rfl (fun _ _ _ _ ha hA => SlO.agree ha hA) ?_
 rintro ⟨a23, c24⟩ S21
 refine o_know (fun w hw => own_len (i := 0) (T := tInt) hw rfl) (fun hlr25 => ?_)
 refine o_call0 (v := .tuple #[.int .i64 (Cmp.room ([1, 2, 3, 4, 1, 2, 5, 1, 2, 3, 4, 5]) (3 : Int) (1 : Int)), .int .i64 (Cmp.roomErr ([1, 2, 3, 4, 1, 2, 5, 1, 2, 3, 4, 5]) (3 : Int) (1 : Int))]) rfl (cproom_ok ([1, 2, 3, 4, 1, 2, 5, 1, 2, 3, 4, 5]) a23 c24 (3 : Int) (1 : Int)) hf45 (fun w hw => (rd_own (i := 0) rfl) w hw) rfl ?_
 refine o_mv rfl rfl ?_
 refine o_ex rfl rfl rfl ?_
 refine o_ex rfl rfl rfl ?_
 refine o_as rfl rfl ?_
 refine o_as rfl rfl ?_
 refine o_nil (q_then (c_seq (c_region ?_)))
 refine o_callM rfl (cpcurve_ok [] none 0 (6 : Int)) hf27 (fun w hw => rd_nil w hw) rfl (fun _ _ _ _ ha hA => SlO.agree ha hA) ?_
 rintro ⟨a28, c29⟩ S26
 refine o_know (fun w hw => own_len (i := 0) (T := tInt) hw rfl) (fun hlr30 => ?_)
 refine o_mv rfl rfl ?_
 refine o_ex rfl rfl rfl ?_
 refine o_ex rfl rfl rfl ?_
 refine o_as rfl rfl ?_
 refine o_as rfl rfl ?_
 refine o_nil (q_then (c_seq (c_region ?_)))
 refine o_callM rfl (cphits_ok [] none 0 (1 : Int)) hf23 (fun w hw => rd_nil w hw) rfl (fun _ _ _ _ ha hA => SlO.agree ha hA) ?_
 rintro ⟨a33, c34⟩ S31
 refine o_know (fun w hw => own_len (i := 0) (T := tInt) hw rfl) (fun hlr35 => ?_)
 refine o_mv rfl rfl ?_
 refine o_ex rfl rfl rfl ?_
 refine o_ex rfl rfl rfl ?_
 refine o_as rfl rfl ?_
 refine o_as rfl rfl ?_
 refine o_nil (q_then (c_seq (c_region ?_)))
 refine o_mv rfl rfl ?_
 refine o_pure (p_len_slice (len := (Cmp.hits ([1, 2, 3, 4, 1, 2, 5, 1, 2, 3, 4, 5]) (3 : Int)).length) rfl rfl Try.underlying22) rfl rfl rfl ?_
 refine o_pure (p_eq (p := ((Cmp.hits ([1, 2, 3, 4, 1, 2, 5, 1, 2, 3, 4, 5]) (3 : Int)).length : Int)) (q := 5) rfl rfl) rfl rfl rfl ?_
 refine o_mv rfl rfl ?_
 refine o_and (p := 42) 5 (((Cmp.hits ([1, 2, 3, 4, 1, 2, 5, 1, 2, 3, 4, 5]) (3 : Int)).getD 0 default) == 2) ?_ ?_ ?_
 ·intro hb36 hk
  simp only [beq_iff_eq] at hb36
  refine o_unguard 37 rfl rfl ?_
  refine o_mv rfl rfl ?_
  refine o_unguard 37 rfl rfl ?_
  refine o_pure (p_indexAddr (L := (Cmp.hits ([1, 2, 3, 4, 1, 2, 5, 1, 2, 3, 4, 5]) (3 : Int))) (T := tInt) (i := 0) rfl rfl (rd_own (i := 5) rfl) Try.underlying22 sz3 (by first | omega | decide +kernel) (by first | omega | decide +kernel)) rfl rfl rfl ?_
  refine o_unguard 37 rfl rfl ?_
  refine o_pure (p_loadE1 (i := 0) (T := tInt) (L := (Cmp.hits ([1, 2, 3, 4, 1, 2, 5, 1, 2, 3, 4, 5]) (3 : Int))) (v := .int .i64 ((Cmp.hits ([1, 2, 3, 4, 1, 2, 5, 1, 2, 3, 4, 5]) (3 : Int)).getD 0 default)) rfl (rd_own (i := 5) rfl) (by first | assumption | omega | decide +kernel) sh3 (congrArg tInt.enc (getd_at (by first | assumption | omega | decide +kernel) default))) rfl rfl rfl ?_
  refine o_unguard 37 rfl rfl ?_
  refine o_pure (p_eq (p := ((Cmp.hits ([1, 2, 3, 4, 1, 2, 5, 1, 2, 3, 4, 5]) (3 : Int)).getD 0 default)) (q := 2) rfl rfl) rfl rfl rfl ?_
  refine o_pt rfl rfl rfl ?_
  exact o_sub (Sub.cons rfl (Sub.skip rfl (Sub.skip rfl (Sub.skip rfl (Sub.skip rfl (Sub.skip rfl (Sub.skip rfl (Sub.refl _)))))))) hk
 ·intro hb36 hk
  refine o_guard_no rfl 37 rfl rfl rfl rfl rfl ?_
  refine o_guard_no rfl 37 rfl rfl rfl rfl rfl ?_
  refine o_guard_no rfl 37 rfl rfl rfl rfl rfl ?_
  refine o_guard_no rfl 37 rfl rfl rfl rfl rfl ?_
  refine o_pf rfl rfl rfl ?_
  exact o_sub (Sub.cons rfl (Sub.skip rfl (Sub.skip rfl (Sub.skip rfl (Sub.skip rfl (Sub.skip rfl (Sub.skip rfl (Sub.refl _)))))))) hk
 refine o_mv rfl rfl ?_
 refine o_and (p := 48) 5 (((Cmp.hits ([1, 2, 3, 4, 1, 2, 5, 1, 2, 3, 4, 5]) (3 : Int)).getD 4 default) == 5) ?_ ?_ ?_
 ·intro hb37 hk
  simp only [Bool.and_eq_true, beq_iff_eq] at hb37
  refine o_unguard 43 rfl rfl ?_
  refine o_mv rfl rfl ?_
  refine o_unguard 43 rfl rfl ?_
  refine o_pure (p_indexAddr (L := (Cmp.hits ([1, 2, 3, 4, 1, 2, 5, 1, 2, 3, 4, 5]) (3 : Int))) (T := tInt) (i := 4) rfl rfl (rd_own (i := 5) rfl) Try.underlying22 sz3 (by first | omega | decide +kernel) (by first | omega | decide +kernel)) rfl rfl rfl ?_
  refine o_unguard 43 rfl rfl ?_
  refine o_pure (p_loadE1 (i := 4) (T := tInt) (L := (Cmp.hits ([1, 2, 3, 4, 1, 2, 5, 1, 2, 3, 4, 5]) (3 : Int))) (v := .int .i64 ((Cmp.hits ([1, 2, 3, 4, 1, 2, 5, 1, 2, 3, 4, 5]) (3 : Int)).getD 4 default)) rfl (rd_own (i := 5) rfl) (by first | assumption | omega | decide +kernel) sh3 (congrArg tInt.enc (getd_at (by first | assumption | omega | decide +kernel) default))) rfl rfl rfl ?_
  refine o_unguard 43 rfl rfl ?_
  refine o_pure (p_eq (p := ((Cmp.hits ([1, 2, 3, 4, 1, 2, 5, 1, 2, 3, 4, 5]) (3 : Int)).getD 4 default)) (q := 5) rfl rfl) rfl rfl rfl ?_
  refine o_pt rfl rfl rfl ?_
  exact o_sub (Sub.cons rfl (Sub.skip rfl (Sub.skip rfl (Sub.skip rfl (Sub.skip rfl (Sub.skip rfl (Sub.skip rfl (Sub.refl _)))))))) hk
 ·intro hb37 hk
  refine o_guard_no rfl 43 rfl rfl rfl rfl rfl ?_
  refine o_guard_no rfl 43 rfl rfl rfl rfl rfl ?_
  refine o_guard_no rfl 43 rfl rfl rfl rfl rfl ?_
  refine o_guard_no rfl 43 rfl rfl rfl rfl rfl ?_
  refine o_pf rfl rfl rfl ?_
  exact o_sub (Sub.cons rfl (Sub.skip rfl (Sub.skip rfl (Sub.skip rfl (Sub.skip rfl (Sub.skip rfl (Sub.skip rfl (Sub.refl _)))))))) hk
 refine o_mv rfl rfl ?_
 refine o_and (p := 52) 3 ((Cmp.check ([1, 2, 3, 4, 1, 2, 5, 1, 2, 3, 4, 5]) (3 : Int)) == 0) ?_ ?_ ?_
 ·intro hb38 hk
  simp only [Bool.and_eq_true, beq_iff_eq] at hb38
  refine o_unguard 49 rfl rfl ?_
  refine o_mv rfl rfl ?_
  refine o_unguard 49 rfl rfl ?_
  refine o_pure (p_eq (p := (Cmp.check ([1, 2, 3, 4, 1, 2, 5, 1, 2, 3, 4, 5]) (3 : Int))) (q := 0) rfl rfl) rfl rfl rfl ?_
  refine o_pt rfl rfl rfl ?_
  exact o_sub (Sub.cons rfl (Sub.skip rfl (Sub.skip rfl (Sub.skip rfl (Sub.skip rfl (Sub.refl _)))))) hk
 ·intro hb38 hk
  refine o_guard_no rfl 49 rfl rfl rfl rfl rfl ?_
  refine o_guard_no rfl 49 rfl rfl rfl rfl rfl ?_
  refine o_pf rfl rfl rfl ?_
  exact o_sub (Sub.cons rfl (Sub.skip rfl (Sub.skip rfl (Sub.skip rfl (Sub.skip rfl (Sub.refl _)))))) hk
 refine o_mv rfl rfl ?_
 refine o_and (p := 57) 4 (((Cmp.rank ([1, 2, 3, 4, 1, 2, 5, 1, 2, 3, 4, 5]) (3 : Int)).length : Int) == 5) ?_ ?_ ?_
 ·intro hb39 hk
  simp only [Bool.and_eq_true, beq_iff_eq] at hb39
  refine o_unguard 53 rfl rfl ?_
  refine o_mv rfl rfl ?_
  refine o_unguard 53 rfl rfl ?_
  refine o_pure (p_len_slice (len := (Cmp.rank ([1, 2, 3, 4, 1, 2, 5, 1, 2, 3, 4, 5]) (3 : Int)).length) rfl rfl Try.underlying22) rfl rfl rfl ?_
  refine o_unguard 53 rfl rfl ?_
  refine o_pure (p_eq (p := ((Cmp.rank ([1, 2, 3, 4, 1, 2, 5, 1, 2, 3, 4, 5]) (3 : Int)).length : Int)) (q := 5) rfl rfl) rfl rfl rfl ?_
  refine o_pt rfl rfl rfl ?_
  exact o_sub (Sub.cons rfl (Sub.skip rfl (Sub.skip rfl (Sub.skip rfl (Sub.skip rfl (Sub.skip rfl (Sub.refl _))))))) hk
 ·intro hb39 hk
  refine o_guard_no rfl 53 rfl rfl rfl rfl rfl ?_
  refine o_guard_no rfl 53 rfl rfl rfl rfl rfl ?_
  refine o_guard_no rfl 53 rfl rfl rfl rfl rfl ?_
  refine o_pf rfl rfl rfl ?_
  exact o_sub (Sub.cons rfl (Sub.skip rfl (Sub.skip rfl (Sub.skip rfl (Sub.skip rfl (Sub.skip rfl (Sub.refl _))))))) hk
 refine o_mv rfl rfl ?_
 refine o_and (p := 63) 5 (((Cmp.rank ([1, 2, 3, 4, 1, 2, 5, 1, 2, 3, 4, 5]) (3 : Int)).getD 0 default) == 5) ?_ ?_ ?_
 ·intro hb40 hk
  simp only [Bool.and_eq_true, beq_iff_eq] at hb40
  refine o_unguard 58 rfl rfl ?_
  refine o_mv rfl rfl ?_
  refine o_unguard 58 rfl rfl ?_
  refine o_pure (p_indexAddr (L := (Cmp.rank ([1, 2, 3, 4, 1, 2, 5, 1, 2, 3, 4, 5]) (3 : Int))) (T := tInt) (i := 0) rfl rfl (rd_own (i := 3) rfl) Try.underlying22 sz3 (by first | omega | decide +kernel) (by first | omega | decide +kernel)) rfl rfl rfl ?_
  refine o_unguard 58 rfl rfl ?_
  refine o_pure (p_loadE1 (i := 0) (T := tInt) (L := (Cmp.rank ([1, 2, 3, 4, 1, 2, 5, 1, 2, 3, 4, 5]) (3 : Int))) (v := .int .i64 ((Cmp.rank ([1, 2, 3, 4, 1, 2, 5, 1, 2, 3, 4, 5]) (3 : Int)).getD 0 default)) rfl (rd_own (i := 3) rfl) (by first | assumption | omega | decide +kernel) sh3 (congrArg tInt.enc (getd_at (by first | assumption | omega | decide +kernel) default))) rfl rfl rfl ?_
  refine o_unguard 58 rfl rfl ?_
  refine o_pure (p_eq (p := ((Cmp.rank ([1, 2, 3, 4, 1, 2, 5, 1, 2, 3, 4, 5]) (3 : Int)).getD 0 default)) (q := 5) rfl rfl) rfl rfl rfl ?_
  refine o_pt rfl rfl rfl ?_
  exact o_sub (Sub.cons rfl (Sub.skip rfl (Sub.skip rfl (Sub.skip rfl (Sub.skip rfl (Sub.skip rfl (Sub.skip rfl (Sub.refl _)))))))) hk
 ·intro hb40 hk
  refine o_guard_no rfl 58 rfl rfl rfl rfl rfl ?_
  refine o_guard_no rfl 58 rfl rfl rfl rfl rfl ?_
  refine o_guard_no rfl 58 rfl rfl rfl rfl rfl ?_
  refine o_guard_no rfl 58 rfl rfl rfl rfl rfl ?_
  refine o_pf rfl rfl rfl ?_
  exact o_sub (Sub.cons rfl (Sub.skip rfl (Sub.skip rfl (Sub.skip rfl (Sub.skip rfl (Sub.skip rfl (Sub.skip rfl (Sub.refl _)))))))) hk
 refine o_mv rfl rfl ?_
 refine o_and (p := 67) 3 ((Cmp.check ([1, 2, 3, 4, 1, 2, 5, 1, 2, 3, 4, 5]) (3 : Int)) == 0) ?_ ?_ ?_
 ·intro hb41 hk
  simp only [Bool.and_eq_true, beq_iff_eq] at hb41
  refine o_unguard 64 rfl rfl ?_
  refine o_mv rfl rfl ?_
  refine o_unguard 64 rfl rfl ?_
  refine o_pure (p_eq (p := (Cmp.check ([1, 2, 3, 4, 1, 2, 5, 1, 2, 3, 4, 5]) (3 : Int))) (q := 0) rfl rfl) rfl rfl rfl ?_
  refine o_pt rfl rfl rfl ?_
  exact o_sub (Sub.cons rfl (Sub.skip rfl (Sub.skip rfl (Sub.skip rfl (Sub.skip rfl (Sub.refl _)))))) hk
 ·intro hb41 hk
  refine o_guard_no rfl 64 rfl rfl rfl rfl rfl ?_
  refine o_guard_no rfl 64 rfl rfl rfl rfl rfl ?_
  refine o_pf rfl rfl rfl ?_
  exact o_sub (Sub.cons rfl (Sub.skip rfl (Sub.skip rfl (Sub.skip rfl (Sub.skip rfl (Sub.refl _)))))) hk
 refine o_mv rfl rfl ?_
 refine o_and (p := 71) 3 ((Cmp.room ([1, 2, 3, 4, 1, 2, 5, 1, 2, 3, 4, 5]) (3 : Int) (1 : Int)) == 5) ?_ ?_ ?_
 ·intro hb42 hk
  simp only [Bool.and_eq_true, beq_iff_eq] at hb42
  refine o_unguard 68 rfl rfl ?_
  refine o_mv rfl rfl ?_
  refine o_unguard 68 rfl rfl ?_
  refine o_pure (p_eq (p := (Cmp.room ([1, 2, 3, 4, 1, 2, 5, 1, 2, 3, 4, 5]) (3 : Int) (1 : Int))) (q := 5) rfl rfl) rfl rfl rfl ?_
  refine o_pt rfl rfl rfl ?_
  exact o_sub (Sub.cons rfl (Sub.skip rfl (Sub.skip rfl (Sub.skip rfl (Sub.skip rfl (Sub.refl _)))))) hk
 ·intro hb42 hk
  refine o_guard_no rfl 68 rfl rfl rfl rfl rfl ?_
  refine o_guard_no rfl 68 rfl rfl rfl rfl rfl ?_
  refine o_pf rfl rfl rfl ?_
  exact o_sub (Sub.cons rfl (Sub.skip rfl (Sub.skip rfl (Sub.skip rfl (Sub.skip rfl (Sub.refl _)))))) hk
 refine o_mv rfl rfl ?_
 refine o_and (p := 75) 3 ((Cmp.roomErr ([1, 2, 3, 4, 1, 2, 5, 1, 2, 3, 4, 5]) (3 : Int) (1 : Int)) == 0) ?_ ?_ ?_
 ·intro hb43 hk
  simp only [Bool.and_eq_true, beq_iff_eq] at hb43
  refine o_unguard 72 rfl rfl ?_
  refine o_mv rfl rfl ?_
  refine o_unguard 72 rfl rfl ?_
  refine o_pure (p_eq (p := (Cmp.roomErr ([1, 2, 3, 4, 1, 2, 5, 1, 2, 3, 4, 5]) (3 : Int) (1 : Int))) (q := 0) rfl rfl) rfl rfl rfl ?_
  refine o_pt rfl rfl rfl ?_
  exact o_sub (Sub.cons rfl (Sub.skip rfl (Sub.skip rfl (Sub.skip rfl (Sub.skip rfl (Sub.refl _)))))) hk
 ·intro hb43 hk
  refine o_guard_no rfl 72 rfl rfl rfl rfl rfl ?_
  refine o_guard_no rfl 72 rfl rfl rfl rfl rfl ?_
  refine o_pf rfl rfl rfl ?_
  exact o_sub (Sub.cons rfl (Sub.skip rfl (Sub.skip rfl (Sub.skip rfl (Sub.skip rfl (Sub.refl _)))))) hk
 refine o_mv rfl rfl ?_
 refine o_and (p := 79) 3 ((Cmp.curveErr [] (6 : Int)) == 7) ?_ ?_ ?_
 ·intro hb44 hk
  simp only [Bool.and_eq_true, beq_iff_eq] at hb44
  refine o_unguard 76 rfl rfl ?_
  refine o_mv rfl rfl ?_
  refine o_unguard 76 rfl rfl ?_
  refine o_pure (p_eq (p := (Cmp.curveErr [] (6 : Int))) (q := 7) rfl rfl) rfl rfl rfl ?_
  refine o_pt rfl rfl rfl ?_
  exact o_sub (Sub.cons rfl (Sub.skip rfl (Sub.skip rfl (Sub.skip rfl (Sub.skip rfl (Sub.refl _)))))) hk
 ·intro hb44 hk
  refine o_guard_no rfl 76 rfl rfl rfl rfl rfl ?_
  refine o_guard_no rfl 76 rfl rfl rfl rfl rfl ?_
  refine o_pf rfl rfl rfl ?_
  exact o_sub (Sub.cons rfl (Sub.skip rfl (Sub.skip rfl (Sub.skip rfl (Sub.skip rfl (Sub.refl _)))))) hk
 refine o_mv rfl rfl ?_
 refine o_and (p := 83) 3 ((Cmp.check [] (1 : Int)) == 3) ?_ ?_ ?_
 ·intro hb45 hk
  simp only [Bool.and_eq_true, beq_iff_eq] at hb45
  refine o_unguard 80 rfl rfl ?_
  refine o_mv rfl rfl ?_
  refine o_unguard 80 rfl rfl ?_
  refine o_pure (p_eq (p := (Cmp.check [] (1 : Int))) (q := 3) rfl rfl) rfl rfl rfl ?_
  refine o_pt rfl rfl rfl ?_
  exact o_sub (Sub.cons rfl (Sub.skip rfl (Sub.skip rfl (Sub.skip rfl (Sub.skip rfl (Sub.refl _)))))) hk
 ·intro hb45 hk
  refine o_guard_no rfl 80 rfl rfl rfl rfl rfl ?_
  refine o_guard_no rfl 80 rfl rfl rfl rfl rfl ?_
  refine o_pf rfl rfl rfl ?_
  exact o_sub (Sub.cons rfl (Sub.skip rfl (Sub.skip rfl (Sub.skip rfl (Sub.skip rfl (Sub.refl _)))))) hk
 refine o_as rfl rfl ?_
 refine o_nil (q_then (c_ret ?_))
 have hr0 : ((((((((((((((Cmp.hits ([1, 2, 3, 4, 1, 2, 5, 1, 2, 3, 4, 5]) (3 : Int)).length : Int) == 5) && (((Cmp.hits ([1, 2, 3, 4, 1, 2, 5, 1, 2, 3, 4, 5]) (3 : Int)).getD 0 default) == 2)) && (((Cmp.hits ([1, 2, 3, 4, 1, 2, 5, 1, 2, 3, 4, 5]) (3 : Int)).getD 4 default) == 5)) && ((Cmp.check ([1, 2, 3, 4, 1, 2, 5, 1, 2, 3, 4, 5]) (3 : Int)) == 0)) && (((Cmp.rank ([1, 2, 3, 4, 1, 2, 5, 1, 2, 3, 4, 5]) (3 : Int)).length : Int) == 5)) && (((Cmp.rank ([1, 2, 3, 4, 1, 2, 5, 1, 2, 3, 4, 5]) (3 : Int)).getD 0 default) == 5)) && ((Cmp.check ([1, 2, 3, 4, 1, 2, 5, 1, 2, 3, 4, 5]) (3 : Int)) == 0)) && ((Cmp.room ([1, 2, 3, 4, 1, 2, 5, 1, 2, 3, 4, 5]) (3 : Int) (1 : Int)) == 5)) && ((Cmp.roomErr ([1, 2, 3, 4, 1, 2, 5, 1, 2, 3, 4, 5]) (3 : Int) (1 : Int)) == 0)) && ((Cmp.curveErr [] (6 : Int)) == 7)) && ((Cmp.check [] (1 : Int)) == 3)) : Bool) = true := by
  first | rfl | decide +kernel
 refine q_end0 (v := .bool (((((((((((((Cmp.hits ([1, 2, 3, 4, 1, 2, 5, 1, 2, 3, 4, 5]) (3 : Int)).length : Int) == 5) && (((Cmp.hits ([1, 2, 3, 4, 1, 2, 5, 1, 2, 3, 4, 5]) (3 : Int)).getD 0 default) == 2)) && (((Cmp.hits ([1, 2, 3, 4, 1, 2, 5, 1, 2, 3, 4, 5]) (3 : Int)).getD 4 default) == 5)) && ((Cmp.check ([1, 2, 3, 4, 1, 2, 5, 1, 2, 3, 4, 5]) (3 : Int)) == 0)) && (((Cmp.rank ([1, 2, 3, 4, 1, 2, 5, 1, 2, 3, 4, 5]) (3 : Int)).length : Int) == 5)) && (((Cmp.rank ([1, 2, 3, 4, 1, 2, 5, 1, 2, 3, 4, 5]) (3 : Int)).getD 0 default) == 5)) && ((Cmp.check ([1, 2, 3, 4, 1, 2, 5, 1, 2, 3, 4, 5]) (3 : Int)) == 0)) && ((Cmp.room ([1, 2, 3, 4, 1, 2, 5, 1, 2, 3, 4, 5]) (3 : Int) (1 : Int)) == 5)) && ((Cmp.roomErr ([1, 2, 3, 4, 1, 2, 5, 1, 2, 3, 4, 5]) (3 : Int) (1 : Int)) == 0)) && ((Cmp.curveErr [] (6 : Int)) == 7)) && ((Cmp.check [] (1 : Int)) == 3))) (rt1 rfl (r_tmp rfl)) (i := 7) rfl ?_
 exact (by have hcc := congrArg (fun (y0 : Bool) => (.bool y0 : Value)) hr0; exact hcc)
end Go.Proofs.Ytfncgfcehkalnaa

/- A comparison of policies: misses and different keys; policies that evict only when they must; segments. -/
namespace Go.Sx.Belady
/-- each different key that is not there misses once at least -/
theorem Run.distinct {room : Nat} {C t : List Int} {n : Nat} (h : Run room C t n) : ∀ {D : List Int}, D.Nodup → (∀ x ∈ D, x ∈ t ∧ x ∉ C) → D.length ≤ n := by
  induction h with
  | nil C =>
    intro D _ hD
    match D with
    | [] => exact Nat.le_refl _
    | x :: _ => exact absurd (hD x (by simp)).1 (by simp)
  | hit hk _ _ _ hs _ ih =>
    intro D hn hD
    refine ih hn fun x hx => ?_
    obtain ⟨h1, h2⟩ := hD x hx
    rcases List.mem_cons.1 h1 with e | h1
    · exact absurd (e ▸ hk) h2
    · exact ⟨h1, fun hc => h2 (hs x hc)⟩
  | @miss C C' k t n hk _ _ _ hs _ ih =>
    intro D hn hD
    have h1 := ih (D := D.erase k) (hn.erase k) fun x hx => by
      have hxD := List.mem_of_mem_erase hx
      have hne : x ≠ k := fun e => by subst e; exact (List.Nodup.not_mem_erase hn) hx
      obtain ⟨h1, h2⟩ := hD x hxD
      refine ⟨(List.mem_cons.1 h1).resolve_left hne, fun hc => ?_⟩
      rcases hs x hc with e | e
      · exact hne e
      · exact h2 e
    have h2 := List.length_erase_of_mem (a := k) (l := D)
    by_cases hm : k ∈ D
    · have := h2 hm; omega
    · rw [List.erase_of_not_mem hm] at h1; omega
/-- a policy that evicts only when there is no room -/
inductive Lazy (room : Nat) : List Int → List Int → Nat → Prop
  | nil (C : List Int) : Lazy room C [] 0
  | hit {C C' : List Int} {k : Int} {t : List Int} {n : Nat} : k ∈ C → C'.Nodup → (∀ x ∈ C', x ∈ C) → C'.length = C.length → Lazy room C' t n → Lazy room C (k :: t) n
  | miss {C C' : List Int} {k : Int} {t : List Int} {n : Nat} : k ∉ C → C'.Nodup → (∀ x ∈ C', x = k ∨ x ∈ C) → (C.length < room → C'.length = C.length + 1) → Lazy room C' t n → Lazy room C (k :: t) (n + 1)
theorem back {C D : List Int} (hC : C.Nodup) (hs : ∀ x ∈ C, x ∈ D) (hl : D.length ≤ C.length) : ∀ x ∈ D, x ∈ C := fun x hx => by
  by_cases h : x ∈ C
  · exact h
  · have := nodup_le (l := x :: C) (m := D) (List.nodup_cons.2 ⟨h, hC⟩) fun y hy => (List.mem_cons.1 hy).elim (fun e => e ▸ hx) (hs y)
    simp only [List.length_cons] at this; omega
theorem Lazy.fits {room : Nat} {C t : List Int} {n : Nat} (h : Lazy room C t n) : ∀ {D : List Int}, C.Nodup → D.Nodup → (∀ x ∈ C, x ∈ D) → (∀ x ∈ t, x ∈ D) → D.length ≤ room → (∀ x ∈ D, x ∈ C ∨ x ∈ t) → C.length + n = D.length := by
  induction h with
  | nil C =>
    intro D hC hD h1 _ _ h3
    have := nodup_le hC h1
    have := nodup_le hD fun x hx => (h3 x hx).resolve_right (by simp)
    omega
  | hit hk hn hs hl _ ih =>
    intro D hC hD h1 h2 hr h3
    have hb := back hn hs (by omega)
    rw [← hl]
    refine ih hn hD (fun x hx => h1 x (hs x hx)) (fun x hx => h2 x (by simp [hx])) hr fun x hx => ?_
    rcases h3 x hx with h | h
    · exact .inl (hb x h)
    · rcases List.mem_cons.1 h with e | h
      · exact .inl (hb x (e ▸ hk))
      · exact .inr h
  | @miss C C' k t n hk hn hs hl _ ih =>
    intro D hC hD h1 h2 hr h3
    have hlt := nodup_le (l := k :: C) (m := D) (List.nodup_cons.2 ⟨hk, hC⟩) fun y hy => (List.mem_cons.1 hy).elim (fun e => e ▸ h2 k (by simp)) (h1 y)
    simp only [List.length_cons] at hlt
    have e := hl (by omega)
    have hb := back (C := C') (D := k :: C) hn (fun x hx => by simpa using hs x hx) (by simp only [List.length_cons]; omega)
    have := ih hn hD (fun x hx => (hs x hx).elim (fun e => e ▸ h2 k (by simp)) (h1 x)) (fun x hx => h2 x (by simp [hx])) hr fun x hx => by
      rcases h3 x hx with h | h
      · exact .inl (hb x (by simp [h]))
      · rcases List.mem_cons.1 h with e | h
        · exact .inl (hb x (by simp [e]))
        · exact .inr h
    omega
end Go.Sx.Belady
namespace Go.Sx.Opt
open Belady (Run Lazy)
theorem lru_lazy {l : List Int} : ∀ {c : DCache} {n : Int}, Lru.Ok c → (∀ x ∈ l, Lru.okKey x = true) → ∃ m : Nat, Lazy c.room.toNat c.keys l m ∧ (Lru.runGo c n l).2 + m = n + l.length := by
  induction l with
  | nil => intro c n _ _; exact ⟨0, .nil _, by simp [Lru.runGo]⟩
  | cons k l ih =>
    intro c n h hk
    have h2 := h.touch (hk k (by simp))
    have hr := h.room; have hl := h.len
    have e : (Lru.touch c k).1.room = c.room := rfl
    have hsub : ∀ x ∈ (Lru.touch c k).1.keys, x = k ∨ x ∈ c.keys := fun x hx => Lru.mem_front hx
    by_cases hm : k ∈ c.keys
    · obtain ⟨m, h3, h4⟩ := ih (c := (Lru.touch c k).1) (n := n + 1) h2 (fun x hx => hk x (by simp [hx]))
      refine ⟨m, .hit hm h2.once (fun x hx => (hsub x hx).elim (fun e => e ▸ hm) id) ?_ (by rw [e] at h3; exact h3), ?_⟩
      · show (Lru.front c.room.toNat c.keys k).length = _
        have := List.length_erase_of_mem hm; have := List.length_pos_of_mem hm
        unfold Lru.front; rw [List.length_take, List.length_cons]; omega
      · rw [Lru.runGo, show (Lru.touch c k).2.1 = true from decide_eq_true hm]; simp only [if_true, List.length_cons]; omega
    · obtain ⟨m, h3, h4⟩ := ih (c := (Lru.touch c k).1) (n := n) h2 (fun x hx => hk x (by simp [hx]))
      refine ⟨m + 1, .miss hm h2.once hsub (fun hlt => ?_) (by rw [e] at h3; exact h3), ?_⟩
      · show (Lru.front c.room.toNat c.keys k).length = _
        unfold Lru.front; rw [List.erase_of_not_mem hm, List.length_take, List.length_cons]; omega
      · rw [Lru.runGo, show (Lru.touch c k).2.1 = false from decide_eq_false hm]; simp only [Bool.false_eq_true, if_false, List.length_cons]; omega
theorem lfu_lazy {l : List Int} : ∀ {c : DUses} {n : Int}, Lfu.Ok c → (∀ x ∈ l, Lru.okKey x = true) → ∃ m : Nat, Lazy c.room.toNat (Lfu.keysOf c.list) l m ∧ (Lfu.runGo c n l).2 + m = n + l.length := by
  induction l with
  | nil => intro c n _ _; exact ⟨0, .nil _, by simp [Lfu.runGo]⟩
  | cons k l ih =>
    intro c n h hk
    have h2 := h.touch (hk k (by simp))
    have hr := h.room; have hl := h.len
    have e := Lfu.touch_room c k
    obtain ⟨s1, s2, s3, s4⟩ := lfu_step (c := c) (k := k)
    by_cases hm : k ∈ Lfu.keysOf c.list
    · obtain ⟨m, h3, h4⟩ := ih (c := (Lfu.touch c k).1) (n := n + 1) h2 (fun x hx => hk x (by simp [hx]))
      refine ⟨m, .hit hm h2.once (s1 hm).2 ?_ (by rw [e] at h3; exact h3), ?_⟩
      · have hp : 0 ≤ Lfu.at_ c.list k := by
          rcases Int.lt_or_le (Lfu.at_ c.list k) 0 with h9 | h9
          · obtain ⟨x, hx, hxk⟩ := List.mem_map.1 hm
            exact absurd hxk (Lfu.at_neg.1 h9 x hx)
          · exact h9
        obtain ⟨hlt, _⟩ := Lfu.at_pos hp
        rw [Lfu.touch_hit hp hlt]
        simp only [Lfu.keysOf, List.map_cons, List.length_cons, List.length_map, List.length_eraseIdx]
        rw [if_pos hlt]; omega
      · rw [Lfu.runGo, (s1 hm).1]; simp only [if_true, List.length_cons]; omega
    · obtain ⟨m, h3, h4⟩ := ih (c := (Lfu.touch c k).1) (n := n) h2 (fun x hx => hk x (by simp [hx]))
      refine ⟨m + 1, .miss hm h2.once s4 (fun hlt => ?_) (by rw [e] at h3; exact h3), ?_⟩
      · have hp : Lfu.at_ c.list k < 0 := by
          rcases Int.lt_or_le (Lfu.at_ c.list k) 0 with h9 | h9
          · exact h9
          · obtain ⟨hlt, hx⟩ := Lfu.at_pos h9
            exact absurd (List.mem_map.2 ⟨_, List.getElem_mem hlt, hx⟩) hm
        have hlen : (Lfu.keysOf c.list).length = c.list.length := by simp [Lfu.keysOf]
        rw [Lfu.t_add hp (by omega)]
        simp [Lfu.keysOf]
      · rw [Lfu.runGo, s2 hm]; simp only [Bool.false_eq_true, if_false, List.length_cons]; omega
theorem ck_lazy {l : List Int} : ∀ {c : DClock} {n : Int}, Clock.check c = 0 → (∀ x ∈ l, Lru.okKey x = true) → ∃ m : Nat, Lazy c.room.toNat (Clock.keysOf c.frames) l m ∧ (Clock.runGo c n l).2 + m = n + l.length := by
  induction l with
  | nil => intro c n _ _; exact ⟨0, .nil _, by simp [Clock.runGo]⟩
  | cons k l ih =>
    intro c n h hk
    have h2 := Clock.check_touch h (hk k (by simp))
    have hr := (Clock.ok_of h).room; have hl := (Clock.ok_of h).len; have hnd := (Clock.ok_keys h2).2
    have e := ck_room c k
    obtain ⟨s1, s2, s3, s4⟩ := ck_step (k := k) (Clock.ok_of h)
    by_cases hm : k ∈ Clock.keysOf c.frames
    · obtain ⟨m, h3, h4⟩ := ih (c := (Clock.touch c k).1) (n := n + 1) h2 (fun x hx => hk x (by simp [hx]))
      refine ⟨m, .hit hm hnd (s1 hm).2 ?_ (by rw [e] at h3; exact h3), ?_⟩
      · have hp : 0 ≤ Clock.at_ c.frames k := by
          rcases Int.lt_or_le (Clock.at_ c.frames k) 0 with h9 | h9
          · exact absurd hm (Clock.at_mem h9)
          · exact h9
        rw [Clock.touch_hit hp]
        simp [Clock.keysOf]
      · rw [Clock.runGo, (s1 hm).1]; simp only [if_true, List.length_cons]; omega
    · obtain ⟨m, h3, h4⟩ := ih (c := (Clock.touch c k).1) (n := n) h2 (fun x hx => hk x (by simp [hx]))
      refine ⟨m + 1, .miss hm hnd s4 (fun hlt => ?_) (by rw [e] at h3; exact h3), ?_⟩
      · have hp : Clock.at_ c.frames k < 0 := by
          rcases Int.lt_or_le (Clock.at_ c.frames k) 0 with h9 | h9
          · exact h9
          · exfalso
            rcases idxF_cases (fun x : DFrame => (x.key == k)) c.frames with ⟨j, hj, _, h1, _⟩ | ⟨e, _⟩
            · exact hm (List.mem_map.2 ⟨_, List.getElem_mem hj, by simpa using h1⟩)
            · unfold Clock.at_ at h9; omega
        have hlen : (Clock.keysOf c.frames).length = c.frames.length := by simp [Clock.keysOf]
        rw [Clock.touch_room hp (by omega)]
        simp [Clock.keysOf]
      · rw [Clock.runGo, s2 hm]; simp only [Bool.false_eq_true, if_false, List.length_cons]; omega
/-! ### segments as a run -/
theorem seg_room (c : DHalls) (k : Int) : (Seg.touch c k).1.first = c.first ∧ (Seg.touch c k).1.second = c.second := by unfold Seg.touch; split <;> exact ⟨rfl, rfl⟩
theorem seg_sub {c : DHalls} {k : Int} : ∀ x ∈ (Seg.touch c k).1.young ++ (Seg.touch c k).1.old, x = k ∨ x ∈ c.young ++ c.old := by
  intro x hx
  unfold Seg.touch at hx
  split at hx
  · rcases List.mem_append.1 hx with h | h
    · exact .inr (List.mem_append.2 (.inl (List.mem_of_mem_erase h)))
    · rcases List.mem_cons.1 (List.mem_of_mem_take h) with h | h
      · exact .inl h
      · exact .inr (List.mem_append.2 (.inr (List.mem_of_mem_erase h)))
  · rcases List.mem_append.1 hx with h | h
    · rcases List.mem_cons.1 (List.mem_of_mem_take h) with h | h
      · exact .inl h
      · exact .inr (List.mem_append.2 (.inl h))
    · exact .inr (List.mem_append.2 (.inr h))
theorem seg_run {l : List Int} : ∀ {c : DHalls} {n : Int}, Seg.Ok c → (∀ x ∈ l, Lru.okKey x = true) → ∃ m : Nat, Run (c.first + c.second).toNat (c.young ++ c.old) l m ∧ (Seg.runGo c n l).2 + m = n + l.length := by
  induction l with
  | nil => intro c n _ _; exact ⟨0, .nil _, by simp [Seg.runGo]⟩
  | cons k l ih =>
    intro c n h hk
    have h2 := h.touch (hk k (by simp))
    obtain ⟨e1, e2⟩ := seg_room c k
    have hl1 := h2.len1; have hl2 := h2.len2
    obtain ⟨N, _, _, _, _, hin, hit, _⟩ := Seg.kept h (key := k)
    have hlen : ((Seg.touch c k).1.young ++ (Seg.touch c k).1.old).length ≤ (c.first + c.second).toNat := by rw [List.length_append]; omega
    by_cases hm : k ∈ c.young ++ c.old
    · obtain ⟨m, h3, h4⟩ := ih (c := (Seg.touch c k).1) (n := n + 1) h2 (fun x hx => hk x (by simp [hx]))
      refine ⟨m, .hit hm h2.once hlen hin (fun x hx => (seg_sub x hx).elim (fun e => e ▸ hm) id) (by rw [e1, e2] at h3; exact h3), ?_⟩
      rw [Seg.runGo, show (Seg.touch c k).2.1 = true by rw [hit]; exact decide_eq_true hm]; simp only [if_true, List.length_cons]; omega
    · obtain ⟨m, h3, h4⟩ := ih (c := (Seg.touch c k).1) (n := n) h2 (fun x hx => hk x (by simp [hx]))
      refine ⟨m + 1, .miss hm h2.once hlen hin seg_sub (by rw [e1, e2] at h3; exact h3), ?_⟩
      rw [Seg.runGo, show (Seg.touch c k).2.1 = false by rw [hit]; exact decide_eq_false hm]; simp only [Bool.false_eq_true, if_false, List.length_cons]; omega
end Go.Sx.Opt

/- A comparison of policies: the optimal one, rankings, more room. -/
namespace Go.Sx.Cmp
open Belady (Run Lazy)
theorem lru_err {l : List Int} {room : Int} (h : Lru.trace l = 0) (hr : 1 ≤ room ∧ room ≤ 40) : Lru.runErr ⟨room, []⟩ l = 0 := by
  have hc : Lru.check ⟨room, []⟩ = 0 := by
    unfold Lru.check; rw [if_neg (by rw [Opt.room_yes hr]; simp), if_neg (by simp; omega)]; rfl
  exact (Lru.run3 hc h).2
theorem lfu_err {l : List Int} {room : Int} (h : Lru.trace l = 0) (hr : 1 ≤ room ∧ room ≤ 40) : Lfu.runErr ⟨room, []⟩ l = 0 := by
  have hc : Lfu.check ⟨room, []⟩ = 0 := by
    unfold Lfu.check; rw [if_neg (by rw [Opt.room_yes hr]; simp), if_neg (by simp; omega)]; rfl
  exact (Lfu.run3 hc h).2
theorem ck_check {room : Int} (hr : 1 ≤ room ∧ room ≤ 40) : Clock.check ⟨room, 0, []⟩ = 0 :=
  Clock.check_of (by constructor <;> simp <;> omega) (by simp [Clock.keysOf]) (by simp [Clock.keysOf])
theorem ck_err {l : List Int} {room : Int} (h : Lru.trace l = 0) (hr : 1 ≤ room ∧ room ≤ 40) : Clock.runErr ⟨room, 0, []⟩ l = 0 := by
  unfold Clock.runErr; rw [if_pos (ck_check hr)]; exact h
theorem seg_check {room : Int} (hr : 2 ≤ room ∧ room ≤ 40) : Seg.check ⟨room.tdiv 2, room - room.tdiv 2, [], []⟩ = 0 := by
  have e : room.tdiv 2 = room / 2 := Int.tdiv_eq_ediv_of_nonneg (by omega)
  exact Seg.check_ok.2 ⟨by simp only; omega, by simp only; omega, by simp only [List.length_nil]; omega, by simp only [List.length_nil]; omega, by simp, by simp⟩
theorem pol_run {l : List Int} {room k : Int} (h : Lru.trace l = 0) (hr : 2 ≤ room ∧ room ≤ 40) (hk : 1 ≤ k ∧ k ≤ 4) : ∃ m : Nat, Run room.toNat [] l m ∧ by_ l room k + m = l.length := by
  have hr1 : 1 ≤ room ∧ room ≤ 40 := ⟨by omega, hr.2⟩
  have hkeys := (Lru.trace_ok.1 h).2
  unfold by_
  by_cases k1 : k = 1
  · rw [if_pos k1]; exact Opt.lru_zero (lru_err h hr1)
  · rw [if_neg k1]
    by_cases k2 : k = 2
    · rw [if_pos k2]
      obtain ⟨a1, a2, a3⟩ := Clock.run_err (ck_err h hr1)
      obtain ⟨m, h3, h4⟩ := Opt.ck_run (n := 0) a1 hkeys
      exact ⟨m, h3, by rw [a3]; omega⟩
    · rw [if_neg k2]
      by_cases k3 : k = 3
      · rw [if_pos k3]
        obtain ⟨a1, a2, a3⟩ := Lfu.run_ok (lfu_err h hr1)
        obtain ⟨m, h3, h4⟩ := Opt.lfu_run (n := 0) (Lfu.ok_of a1) hkeys
        exact ⟨m, h3, by rw [a3]; omega⟩
      · rw [if_neg k3, if_pos (by omega)]
        obtain ⟨a3, _⟩ := Seg.run3 (seg_check hr) h
        obtain ⟨m, h3, h4⟩ := Opt.seg_run (n := 0) (Seg.ok_of (seg_check hr)) hkeys
        refine ⟨m, ?_, by rw [a3]; omega⟩
        have e : (room.tdiv 2 + (room - room.tdiv 2)).toNat = room.toNat := by congr 1; omega
        simp only [e] at h3
        exact h3
theorem pol_lazy {l : List Int} {room k : Int} (h : Lru.trace l = 0) (hr : 2 ≤ room ∧ room ≤ 40) (hk : 1 ≤ k ∧ k ≤ 3) : ∃ m : Nat, Lazy room.toNat [] l m ∧ by_ l room k + m = l.length := by
  have hr1 : 1 ≤ room ∧ room ≤ 40 := ⟨by omega, hr.2⟩
  have hkeys := (Lru.trace_ok.1 h).2
  unfold by_
  by_cases k1 : k = 1
  · rw [if_pos k1]
    obtain ⟨a1, a2, a3⟩ := Lru.run_ok (lru_err h hr1)
    obtain ⟨m, h3, h4⟩ := Opt.lru_lazy (n := 0) (Lru.ok_of a1) hkeys
    exact ⟨m, h3, by rw [a3]; omega⟩
  · rw [if_neg k1]
    by_cases k2 : k = 2
    · rw [if_pos k2]
      obtain ⟨a1, a2, a3⟩ := Clock.run_err (ck_err h hr1)
      obtain ⟨m, h3, h4⟩ := Opt.ck_lazy (n := 0) a1 hkeys
      exact ⟨m, h3, by rw [a3]; omega⟩
    · rw [if_neg k2, if_pos (by omega)]
      obtain ⟨a1, a2, a3⟩ := Lfu.run_ok (lfu_err h hr1)
      obtain ⟨m, h3, h4⟩ := Opt.lfu_lazy (n := 0) (Lfu.ok_of a1) hkeys
      exact ⟨m, h3, by rw [a3]; omega⟩
theorem by5 (l : List Int) (room : Int) : by_ l room 5 = (l.length : Int) - (Opt.ev l room).2 := by
  unfold by_; rw [if_neg (by decide), if_neg (by decide), if_neg (by decide), if_neg (by decide)]
theorem run_le {room : Nat} {C t : List Int} {n : Nat} (h : Run room C t n) : n ≤ t.length := by
  induction h with
  | nil => exact Nat.zero_le _
  | hit _ _ _ _ _ _ ih => simp only [List.length_cons]; omega
  | miss _ _ _ _ _ _ ih => simp only [List.length_cons]; omega
theorem by_bd {l : List Int} {room k : Int} (h : Lru.trace l = 0) (hr : 2 ≤ room ∧ room ≤ 40) (hk : 1 ≤ k ∧ k ≤ 5) : 0 ≤ by_ l room k ∧ by_ l room k ≤ l.length ∧ by_ l room k ≤ by_ l room 5 := by
  have hb := Opt.ev_bd2 h (room := room) ⟨by omega, hr.2⟩
  by_cases h5 : k = 5
  · rw [h5, by5]; omega
  · obtain ⟨m, h1, h2⟩ := pol_run (k := k) h hr (by omega)
    have h3 := Opt.least (Opt.evErr_ok h ⟨by omega, hr.2⟩) h1
    have h4 : (Opt.ev l room).2 ≤ l.length := hb.2
    rw [by5]
    have h6 := run_le h1
    omega
/-- the different keys -/
structure UL (l u : List Int) (i : Nat) : Prop where
  le : i ≤ l.length
  once : u.Nodup
  mem : ∀ x, x ∈ u ↔ x ∈ l.take i
  len : u.length ≤ i
theorem UL.start (l : List Int) : UL l [] 0 := ⟨Nat.zero_le _, List.nodup_nil, fun x => by simp, Nat.le_refl _⟩
theorem UL.add {l u : List Int} {i : Nat} (h : UL l u i) (hi : i < l.length) (hn : Ref.hasInt u (l.getD i default) = false) : UL l (u ++ [l.getD i default]) (i + 1) := by
  have hn' : l.getD i default ∉ u := of_decide_eq_false hn
  refine ⟨by omega, ?_, fun x => ?_, by have := h.len; simp; omega⟩
  · rw [List.nodup_append]
    refine ⟨h.once, by simp, fun a ha b hb e => ?_⟩
    rw [List.mem_singleton.1 hb] at e; subst e; exact hn' ha
  · rw [List.take_succ_eq_append_getElem hi, List.mem_append, List.mem_append, h.mem x, getd_at hi default]
theorem UL.skip {l u : List Int} {i : Nat} (h : UL l u i) (hi : i < l.length) (hn : Ref.hasInt u (l.getD i default) = true) : UL l u (i + 1) := by
  have hn' : l.getD i default ∈ u := of_decide_eq_true hn
  refine ⟨by omega, h.once, fun x => ?_, by have := h.len; omega⟩
  rw [List.take_succ_eq_append_getElem hi, List.mem_append, h.mem x, getd_at hi default, List.mem_singleton]
  constructor
  · exact .inl
  · rintro (h1 | h1)
    · exact h1
    · rw [h1]; exact (h.mem _).1 hn'
theorem UL.all {l u : List Int} {i : Nat} (h : UL l u i) (hi : l.length ≤ i) : u.Nodup ∧ ∀ x, x ∈ u ↔ x ∈ l := ⟨h.once, fun x => by rw [h.mem x, List.take_of_length_le hi]⟩
structure Best (l : List Int) (room : Int) (u : List Int) (i : Nat) : Prop where
  top : (hits l room).getD i default ≤ (hits l room).getD 4 default
  most : (hits l room).getD i default ≤ (l.length : Int) - (u.length : Int)
  all : (u.length : Int) ≤ room → i ≠ 3 → (hits l room).getD i default = (l.length : Int) - (u.length : Int)
theorem best {l u : List Int} {room : Int} (h : check l room = 0) (hu : u.Nodup ∧ ∀ x, x ∈ u ↔ x ∈ l) {i : Nat} (hi : i < 5) : Best l room u i := by
  obtain ⟨htr, hr⟩ := chk_ok.1 h
  have hr1 : 1 ≤ room ∧ room ≤ 40 := ⟨by omega, hr.2⟩
  have h4 : (hits l room).getD 4 default = by_ l room 5 := hits_at h (by decide)
  have hi' := hits_at h hi
  obtain ⟨_, _, b3⟩ := by_bd htr hr (k := (i : Int) + 1) (by omega)
  have hev := Opt.evErr_ok htr hr1
  have hb := Opt.ev_bd2 htr hr1
  obtain ⟨g1, g2, g3, _⟩ := Opt.go_n hev
  have hd := (g3.run List.nodup_nil (Nat.zero_le _)).distinct hu.1 fun x hx => ⟨(hu.2 x).1 hx, by simp⟩
  have hm : by_ l room 5 ≤ (l.length : Int) - (u.length : Int) := by rw [by5]; omega
  have hall : ∀ k : Int, 1 ≤ k → k ≤ 3 → (u.length : Int) ≤ room → by_ l room k = (l.length : Int) - (u.length : Int) := fun k k1 k2 hf => by
    obtain ⟨m, l1, l2⟩ := pol_lazy htr hr ⟨k1, k2⟩
    have := l1.fits (D := u) List.nodup_nil hu.1 (by simp) (fun x hx => (hu.2 x).2 hx) (by omega) (fun x hx => .inr ((hu.2 x).1 hx))
    simp only [List.length_nil] at this
    omega
  refine ⟨by rw [hi', h4]; exact b3, by rw [hi']; omega, fun hf h3 => ?_⟩
  rw [hi']
  by_cases h5 : i = 4
  · have h1 := hall 1 (by decide) (by decide) hf
    obtain ⟨_, _, b1⟩ := by_bd htr hr (k := 1) (by omega)
    rw [h5, show (((4 : Nat) : Int) + 1) = 5 from rfl]
    omega
  · exact hall _ (by omega) (by omega) hf
/-! ### the ranking -/
def R (q : List Int) (a b : Int) : Prop := q.getD (b - 1).toNat default < q.getD (a - 1).toNat default ∨ (q.getD (a - 1).toNat default = q.getD (b - 1).toNat default ∧ a < b)
theorem rank_sorted {l : List Int} {room : Int} (h : check l room = 0) : (rank l room).Pairwise (R (hits l room)) := by
  rw [rank_ok h]
  refine St.isort_sorted (O := (· < ·)) (fun a b c h1 h2 => by unfold R at *; omega) (fun {x p} _ hn => .inl (cmpI_neg.1 hn)) (fun {x p} ho hn => ?_) _ ?_
  · have h2 : ¬ _ := fun e => hn (cmpI_neg.2 e)
    unfold R; omega
  · rw [List.pairwise_map]; exact List.pairwise_lt_range.imp fun h => by omega
theorem rank_at {l : List Int} {room : Int} (h : check l room = 0) {i : Nat} (hi : i < 5) : 1 ≤ (rank l room).getD i default ∧ (rank l room).getD i default ≤ 5 := by
  have hl := rank_len h
  rw [← getd_at (show i < (rank l room).length by omega) default]
  have hm := List.getElem_mem (show i < (rank l room).length by omega)
  generalize (rank l room)[i]'(by omega) = x at *
  rw [rank_ok h, St.isort_mem, List.mem_map] at hm
  obtain ⟨j, hj, rfl⟩ := hm
  have := List.mem_range.1 hj
  omega
theorem rank_lt {l : List Int} {room : Int} (h : check l room = 0) {i : Nat} (h0 : 0 < i) (hi : i < 5) : R (hits l room) ((rank l room).getD ((i : Int) - 1).toNat default) ((rank l room).getD i default) := by
  have hl := rank_len h
  have := List.pairwise_iff_getElem.1 (rank_sorted h) (i - 1) i (by omega) (by omega) (by omega)
  rw [getd_at (show i - 1 < (rank l room).length by omega) default, getd_at (show i < (rank l room).length by omega) default] at this
  rw [show ((i : Int) - 1).toNat = i - 1 by omega]; exact this
theorem hits_bad2 {l : List Int} {room : Int} (h : check l room ≠ 0) : (((((hits l room).length : Int) + ((rank l room).length : Int)) == 0) && (check l room == check l room)) = true := by
  rw [hits_bad h, rank_bad h]; simp
/-! ### more room -/
structure Mono (l : List Int) (i : Nat) : Prop where
  a : 0 < i → (curve l 1).getD ((i : Int) - 1).toNat default ≤ (curve l 1).getD i default
  b : 0 < i → (curve l 5).getD ((i : Int) - 1).toNat default ≤ (curve l 5).getD i default
  c : (curve l 1).getD i default ≤ (curve l 5).getD i default
theorem err15 (l : List Int) : curveErr l 1 = Lru.trace l ∧ curveErr l 5 = Lru.trace l := by
  constructor <;> (unfold curveErr; rw [if_neg (by simp [okPol])])
theorem mono {l : List Int} (h : curveErr l 1 = 0) {i : Nat} (hi : i < 39) : Mono l i := by
  have htr : Lru.trace l = 0 := (err15 l).1 ▸ h
  have h5 : curveErr l 5 = 0 := (err15 l).2.trans htr
  have e1 : by_ l ((i : Int) + 2) 1 = (Lru.run ⟨(i : Int) + 2, []⟩ l).2 := by unfold by_; rw [if_pos rfl]
  refine ⟨fun h0 => ?_, fun h0 => ?_, ?_⟩
  · rw [show ((i : Int) - 1).toNat = i - 1 by omega, curve_at h (show i - 1 < 39 by omega), curve_at h hi]
    have e2 : by_ l (((i - 1 : Nat) : Int) + 2) 1 = (Lru.run ⟨((i - 1 : Nat) : Int) + 2, []⟩ l).2 := by unfold by_; rw [if_pos rfl]
    rw [e1, e2]
    exact (Lru.incl (lru_err htr ⟨by omega, by omega⟩) (lru_err htr ⟨by omega, by omega⟩) (by omega)).1
  · rw [show ((i : Int) - 1).toNat = i - 1 by omega, curve_at h5 (show i - 1 < 39 by omega), curve_at h5 hi, by5, by5]
    have := Opt.more (Opt.evErr_ok htr (room := ((i - 1 : Nat) : Int) + 2) ⟨by omega, by omega⟩) (Opt.evErr_ok htr (room := (i : Int) + 2) ⟨by omega, by omega⟩) (by omega)
    omega
  · rw [curve_at h hi, curve_at h5 hi]
    exact (by_bd htr ⟨by omega, by omega⟩ ⟨by omega, by omega⟩).2.2
theorem mono_bad {l : List Int} (h : curveErr l 1 ≠ 0) : ((curveErr l 5 == curveErr l 1) && ((((curve l 1).length : Int) + ((curve l 5).length : Int)) == 0)) = true := by
  have e : curveErr l 5 = curveErr l 1 := by rw [(err15 l).1, (err15 l).2]
  rw [curve_bad h, curve_bad (by rw [e]; exact h), e]; simp
end Go.Sx.Cmp

/- The walks, printed by a program from the translation and a specification. -/
namespace Go.Proofs.Ytfncgfcehkalnaa
open Go.Sx Go.RowKit
set_option maxHeartbeats 8000000 in
set_option maxRecDepth 100000 in
theorem compareMonotone_ok (l : List Int) (al : Option Addr) (cl : Nat) : Fn0 Try.prog 8 [.slice al l.length cl] (fun w => Rd tInt w al cl l) (.bool true) := by
 refine fn0 (nt := 93) (F0 := [(0, .slice al l.length cl)]) Try.func8 rfl Try.ntmps8 rfl rfl (fun w0 hpre => ?_)
 have hl := hpre
 have hlhl := hl.2.1
 refine c_seq (c_region ?_)
 refine o_as rfl rfl ?_
 refine o_nil (q_then (c_seq (c_region ?_)))
 refine o_mv rfl rfl ?_
 refine o_callM rfl (cpcurve_ok l al cl (1 : Int)) hf27 (fun w hw => (rd_base (i := 0) rfl hl) w hw) rfl (fun _ _ _ _ ha hA => SlO.agree ha hA) ?_
 rintro ⟨a3, c4⟩ S1
 refine o_know (fun w hw => own_len (i := 0) (T := tInt) hw rfl) (fun hlr5 => ?_)
 refine o_mv rfl rfl ?_
 refine o_ex rfl rfl rfl ?_
 refine o_ex rfl rfl rfl ?_
 refine o_as rfl rfl ?_
 refine o_as rfl rfl ?_
 refine o_nil (q_then (c_seq (c_region ?_)))
 refine o_mv rfl rfl ?_
 refine o_callM rfl (cpcurve_ok l al cl (5 : Int)) hf27 (fun w hw => (rd_base (i := 1) rfl hl) w hw) rfl (fun _ _ _ _ ha hA => SlO.agree ha hA) ?_
 rintro ⟨a8, c9⟩ S6
 refine o_know (fun w hw => own_len (i := 0) (T := tInt) hw rfl) (fun hlr10 => ?_)
 refine o_mv rfl rfl ?_
 refine o_ex rfl rfl rfl ?_
 refine o_ex rfl rfl rfl ?_
 refine o_as rfl rfl ?_
 refine o_as rfl rfl ?_
 refine o_nil (q_then (c_seq (c_seq (c_region ?_))))
 refine o_call0 (v := .bool true) rfl (contestBegun_ok ) hf25 (fun _ _ => trivial) rfl ?_
 refine o_pure (p_not (b := true) rfl) rfl rfl rfl ?_
 refine o_nil (q_then ?_)
 refine c_false rfl ?_
 refine c_skip (q_then (c_seq (c_seq (c_region ?_))))
 refine o_mv rfl rfl ?_
 refine o_pure (p_ne (p := (Cmp.curveErr l (1 : Int))) (q := 0) rfl rfl) rfl rfl rfl ?_
 refine o_nil (q_then ?_)
 refine c_cond (b := ((Cmp.curveErr l (1 : Int)) != 0)) rfl (fun hc11 => ?_) (fun hc11 => ?_)
 ·simp only [bne_iff_ne, ne_eq] at hc11
  have hbad := hc11
  refine c_seq (c_region ?_)
  refine o_mv rfl rfl ?_
  refine o_mv rfl rfl ?_
  refine o_pure (p_eq (p := (Cmp.curveErr l (5 : Int))) (q := (Cmp.curveErr l (1 : Int))) rfl rfl) rfl rfl rfl ?_
  refine o_mv rfl rfl ?_
  refine o_and (p := 32) 7 ((((Cmp.curve l (1 : Int)).length : Int) + ((Cmp.curve l (5 : Int)).length : Int)) == 0) ?_ ?_ ?_
  ·intro hb12 hk
   simp only [beq_iff_eq] at hb12
   refine o_unguard 25 rfl rfl ?_
   refine o_mv rfl rfl ?_
   refine o_unguard 25 rfl rfl ?_
   refine o_pure (p_len_slice (len := (Cmp.curve l (1 : Int)).length) rfl rfl Try.underlying22) rfl rfl rfl ?_
   refine o_unguard 25 rfl rfl ?_
   refine o_mv rfl rfl ?_
   refine o_unguard 25 rfl rfl ?_
   refine o_pure (p_len_slice (len := (Cmp.curve l (5 : Int)).length) rfl rfl Try.underlying22) rfl rfl rfl ?_
   refine o_unguard 25 rfl rfl ?_
   refine o_pure (p_addb (p := ((Cmp.curve l (1 : Int)).length : Int)) (q := ((Cmp.curve l (5 : Int)).length : Int)) rfl rfl (by omega)) rfl rfl rfl ?_
   refine o_unguard 25 rfl rfl ?_
   refine o_pure (p_eq (p := (((Cmp.curve l (1 : Int)).length : Int) + ((Cmp.curve l (5 : Int)).length : Int))) (q := 0) rfl rfl) rfl rfl rfl ?_
   refine o_pt rfl rfl rfl ?_
   exact o_sub (Sub.cons rfl (Sub.skip rfl (Sub.skip rfl (Sub.skip rfl (Sub.skip rfl (Sub.skip rfl (Sub.skip rfl (Sub.skip rfl (Sub.skip rfl (Sub.refl _)))))))))) hk
  ·intro hb12 hk
   refine o_guard_no rfl 25 rfl rfl rfl rfl rfl ?_
   refine o_guard_no rfl 25 rfl rfl rfl rfl rfl ?_
   refine o_guard_no rfl 25 rfl rfl rfl rfl rfl ?_
   refine o_guard_no rfl 25 rfl rfl rfl rfl rfl ?_
   refine o_guard_no rfl 25 rfl rfl rfl rfl rfl ?_
   refine o_guard_no rfl 25 rfl rfl rfl rfl rfl ?_
   refine o_pf rfl rfl rfl ?_
   exact o_sub (Sub.cons rfl (Sub.skip rfl (Sub.skip rfl (Sub.skip rfl (Sub.skip rfl (Sub.skip rfl (Sub.skip rfl (Sub.skip rfl (Sub.skip rfl (Sub.refl _)))))))))) hk
  refine o_as rfl rfl ?_
  refine o_nil (q_then (c_ret ?_))
  refine q_then_ret ?_
  have hr0 : ((((Cmp.curveErr l (5 : Int)) == (Cmp.curveErr l (1 : Int))) && ((((Cmp.curve l (1 : Int)).length : Int) + ((Cmp.curve l (5 : Int)).length : Int)) == 0)) : Bool) = true := by
   first | exact Cmp.mono_bad hbad | (rw [hc5, ha, hb]; rfl)
  refine q_end0 (v := .bool (((Cmp.curveErr l (5 : Int)) == (Cmp.curveErr l (1 : Int))) && ((((Cmp.curve l (1 : Int)).length : Int) + ((Cmp.curve l (5 : Int)).length : Int)) == 0))) (rt1 rfl (r_tmp rfl)) (i := 2) rfl ?_
  exact (by have hcc := congrArg (fun (y0 : Bool) => (.bool y0 : Value)) hr0; exact hcc)
 ·simp only [bne_eq_false_iff_eq] at hc11
  have hc1 := hc11
  have hc5 : Cmp.curveErr l 5 = 0 := by rw [(Cmp.err15 l).2, ← (Cmp.err15 l).1]; exact hc11
  have ha := Cmp.curve_len hc1
  have hb := Cmp.curve_len hc5
  refine c_skip (q_then (c_seq (c_seq (c_region ?_))))
  refine o_mv rfl rfl ?_
  refine o_pure (p_len_slice (len := (Cmp.curve l (1 : Int)).length) rfl rfl Try.underlying22) rfl rfl rfl ?_
  refine o_mv rfl rfl ?_
  refine o_pure (p_len_slice (len := (Cmp.curve l (5 : Int)).length) rfl rfl Try.underlying22) rfl rfl rfl ?_
  refine o_pure (p_ne (p := ((Cmp.curve l (1 : Int)).length : Int)) (q := ((Cmp.curve l (5 : Int)).length : Int)) rfl rfl) rfl rfl rfl ?_
  refine o_nil (q_then ?_)
  refine c_cond (b := (((Cmp.curve l (1 : Int)).length : Int) != ((Cmp.curve l (5 : Int)).length : Int))) rfl (fun hc13 => ?_) (fun hc13 => ?_)
  ·simp only [bne_iff_ne, ne_eq] at hc13
   exfalso; omega
  ·simp only [bne_eq_false_iff_eq] at hc13
   refine c_skip (q_then (c_seq (c_seq (c_region ?_))))
   refine o_as rfl rfl ?_
   refine o_nil (q_then (c_block ?_))
   refine c_loop (St := Nat)
    (fun i => [(3, .slice a3 (Cmp.curve l (1 : Int)).length c4), (5, .slice a8 (Cmp.curve l (5 : Int)).length c9), (6, .int .i64 (Cmp.curveErr l (5 : Int))), (7, .int .i64 (i : Int))])
    (fun i => [own tInt S6 a8 c9 (Cmp.curve l (5 : Int)), own tInt S1 a3 c4 (Cmp.curve l (1 : Int)), base w0])
    (fun i => i ≤ 39)
    (fun i => 39 - i)
    0 ?_ (Sub.cons rfl (Sub.cons rfl (Sub.cons rfl (Sub.cons rfl (Sub.nil _))))) (fun _ hw => hw) ?_
   ·exact Nat.zero_le _
   rintro i hI K hK14
   show SC _ _ Try.prog 93 w0 _ _ [(3, .slice a3 (Cmp.curve l (1 : Int)).length c4), (5, .slice a8 (Cmp.curve l (5 : Int)).length c9), (6, .int .i64 (Cmp.curveErr l (5 : Int))), (7, .int .i64 (i : Int))] [own tInt S6 a8 c9 (Cmp.curve l (5 : Int)), own tInt S1 a3 c4 (Cmp.curve l (1 : Int)), base w0]
   refine c_seq (c_seq (c_region ?_))
   refine o_mv rfl rfl ?_
   refine o_mv rfl rfl ?_
   refine o_pure (p_len_slice (len := (Cmp.curve l (1 : Int)).length) rfl rfl Try.underlying22) rfl rfl rfl ?_
   refine o_pure (p_lt (p := (i : Int)) (q := ((Cmp.curve l (1 : Int)).length : Int)) rfl rfl) rfl rfl rfl ?_
   refine o_nil (q_then ?_)
   refine c_cond (b := decide ((i : Int) < ((Cmp.curve l (1 : Int)).length : Int))) rfl (fun hc15 => ?_) (fun hc15 => ?_)
   ·simp only [decide_eq_true_eq] at hc15
    refine c_skip (q_then (c_seq (c_block (c_seq ?_))))
    refine c_draw hmix (by kernel_rfl) ?_
    refine w_mv rfl rfl ?_
    refine w_pure (p_gt (p := (i : Int)) (q := 0) rfl rfl) rfl rfl rfl ?_
    refine w_mv rfl rfl ?_
    refine w_and (p := 69) 23 (decide (((Cmp.curve l (1 : Int)).getD i default) < ((Cmp.curve l (1 : Int)).getD (((i : Int) - 1).toNat) default)) || decide (((Cmp.curve l (5 : Int)).getD i default) < ((Cmp.curve l (5 : Int)).getD (((i : Int) - 1).toNat) default))) ?_ ?_ ?_
    ·intro hb16 hk
     simp only [decide_eq_true_eq] at hb16
     refine w_unguard 46 rfl rfl ?_
     refine w_mv rfl rfl ?_
     refine w_unguard 46 rfl rfl ?_
     refine w_mv rfl rfl ?_
     refine w_unguard 46 rfl rfl ?_
     refine w_pure (p_indexAddr (L := (Cmp.curve l (1 : Int))) (T := tInt) (i := (i : Int)) rfl rfl (rd_own (i := 1) rfl) Try.underlying22 sz3 (by omega) (by omega)) rfl rfl rfl ?_
     refine w_unguard 46 rfl rfl ?_
     refine w_pure (p_loadE1 (i := i) (T := tInt) (L := (Cmp.curve l (1 : Int))) (v := .int .i64 ((Cmp.curve l (1 : Int)).getD i default)) rfl (rd_own (i := 1) rfl) (by first | assumption | omega) sh3 (congrArg tInt.enc (getd_at (by first | assumption | omega) default))) rfl rfl rfl ?_
     refine w_unguard 46 rfl rfl ?_
     refine w_mv rfl rfl ?_
     refine w_unguard 46 rfl rfl ?_
     refine w_mv rfl rfl ?_
     refine w_unguard 46 rfl rfl ?_
     refine w_pure (p_subb (p := (i : Int)) (q := 1) rfl rfl (by omega)) rfl rfl rfl ?_
     refine w_unguard 46 rfl rfl ?_
     refine w_pure (p_indexAddr (L := (Cmp.curve l (1 : Int))) (T := tInt) (i := ((i : Int) - 1)) rfl rfl (rd_own (i := 1) rfl) Try.underlying22 sz3 (by omega) (by omega)) rfl rfl rfl ?_
     refine w_unguard 46 rfl rfl ?_
     refine w_pure (p_loadE1 (i := ((i : Int) - 1).toNat) (T := tInt) (L := (Cmp.curve l (1 : Int))) (v := .int .i64 ((Cmp.curve l (1 : Int)).getD (((i : Int) - 1).toNat) default)) rfl (rd_own (i := 1) rfl) (by first | assumption | omega) sh3 (congrArg tInt.enc (getd_at (by first | assumption | omega) default))) rfl rfl rfl ?_
     refine w_unguard 46 rfl rfl ?_
     refine w_pure (p_lt (p := ((Cmp.curve l (1 : Int)).getD i default)) (q := ((Cmp.curve l (1 : Int)).getD (((i : Int) - 1).toNat) default)) rfl rfl) rfl rfl rfl ?_
     refine w_unguard 46 rfl rfl ?_
     refine w_mv rfl rfl ?_
     refine w_or (p := 68) 11 (decide (((Cmp.curve l (5 : Int)).getD i default) < ((Cmp.curve l (5 : Int)).getD (((i : Int) - 1).toNat) default))) ?_ ?_ ?_
     ·intro hb17 hk
      simp only [decide_eq_false_iff_not, Int.not_lt] at hb17
      refine w_unguard 57 rfl rfl ?_
      refine w_mv rfl rfl ?_
      refine w_unguard 57 rfl rfl ?_
      refine w_mv rfl rfl ?_
      refine w_unguard 57 rfl rfl ?_
      refine w_pure (p_indexAddr (L := (Cmp.curve l (5 : Int))) (T := tInt) (i := (i : Int)) rfl rfl (rd_own (i := 0) rfl) Try.underlying22 sz3 (by omega) (by omega)) rfl rfl rfl ?_
      refine w_unguard 57 rfl rfl ?_
      refine w_pure (p_loadE1 (i := i) (T := tInt) (L := (Cmp.curve l (5 : Int))) (v := .int .i64 ((Cmp.curve l (5 : Int)).getD i default)) rfl (rd_own (i := 0) rfl) (by first | assumption | omega) sh3 (congrArg tInt.enc (getd_at (by first | assumption | omega) default))) rfl rfl rfl ?_
      refine w_unguard 57 rfl rfl ?_
      refine w_mv rfl rfl ?_
      refine w_unguard 57 rfl rfl ?_
      refine w_mv rfl rfl ?_
      refine w_unguard 57 rfl rfl ?_
      refine w_pure (p_subb (p := (i : Int)) (q := 1) rfl rfl (by omega)) rfl rfl rfl ?_
      refine w_unguard 57 rfl rfl ?_
      refine w_pure (p_indexAddr (L := (Cmp.curve l (5 : Int))) (T := tInt) (i := ((i : Int) - 1)) rfl rfl (rd_own (i := 0) rfl) Try.underlying22 sz3 (by omega) (by omega)) rfl rfl rfl ?_
      refine w_unguard 57 rfl rfl ?_
      refine w_pure (p_loadE1 (i := ((i : Int) - 1).toNat) (T := tInt) (L := (Cmp.curve l (5 : Int))) (v := .int .i64 ((Cmp.curve l (5 : Int)).getD (((i : Int) - 1).toNat) default)) rfl (rd_own (i := 0) rfl) (by first | assumption | omega) sh3 (congrArg tInt.enc (getd_at (by first | assumption | omega) default))) rfl rfl rfl ?_
      refine w_unguard 57 rfl rfl ?_
      refine w_pure (p_lt (p := ((Cmp.curve l (5 : Int)).getD i default)) (q := ((Cmp.curve l (5 : Int)).getD (((i : Int) - 1).toNat) default)) rfl rfl) rfl rfl rfl ?_
      refine w_unguard 46 rfl rfl ?_
      refine w_pf rfl rfl rfl ?_
      exact w_sub (Sub.cons rfl (Sub.skip rfl (Sub.skip rfl (Sub.skip rfl (Sub.skip rfl (Sub.skip rfl (Sub.skip rfl (Sub.skip rfl (Sub.skip rfl (Sub.skip rfl (Sub.skip rfl (Sub.skip rfl (Sub.skip rfl (Sub.refl _)))))))))))))) hk
     ·intro hb17 hk
      refine w_guard_no rfl 57 rfl rfl rfl rfl rfl ?_
      refine w_guard_no rfl 57 rfl rfl rfl rfl rfl ?_
      refine w_guard_no rfl 57 rfl rfl rfl rfl rfl ?_
      refine w_guard_no rfl 57 rfl rfl rfl rfl rfl ?_
      refine w_guard_no rfl 57 rfl rfl rfl rfl rfl ?_
      refine w_guard_no rfl 57 rfl rfl rfl rfl rfl ?_
      refine w_guard_no rfl 57 rfl rfl rfl rfl rfl ?_
      refine w_guard_no rfl 57 rfl rfl rfl rfl rfl ?_
      refine w_guard_no rfl 57 rfl rfl rfl rfl rfl ?_
      refine w_guard_no rfl 57 rfl rfl rfl rfl rfl ?_
      refine w_unguard 46 rfl rfl ?_
      refine w_pt rfl rfl rfl ?_
      exact w_sub (Sub.cons rfl (Sub.skip rfl (Sub.skip rfl (Sub.skip rfl (Sub.skip rfl (Sub.skip rfl (Sub.skip rfl (Sub.skip rfl (Sub.skip rfl (Sub.skip rfl (Sub.skip rfl (Sub.skip rfl (Sub.skip rfl (Sub.refl _)))))))))))))) hk
     refine w_pt rfl rfl rfl ?_
     exact w_sub (Sub.cons rfl (Sub.skip rfl (Sub.skip rfl (Sub.skip rfl (Sub.skip rfl (Sub.skip rfl (Sub.skip rfl (Sub.skip rfl (Sub.skip rfl (Sub.skip rfl (Sub.skip rfl (Sub.skip rfl (Sub.skip rfl (Sub.skip rfl (Sub.refl _))))))))))))))) hk
    ·intro hb16 hk
     refine w_guard_no rfl 46 rfl rfl rfl rfl rfl ?_
     refine w_guard_no rfl 46 rfl rfl rfl rfl rfl ?_
     refine w_guard_no rfl 46 rfl rfl rfl rfl rfl ?_
     refine w_guard_no rfl 46 rfl rfl rfl rfl rfl ?_
     refine w_guard_no rfl 46 rfl rfl rfl rfl rfl ?_
     refine w_guard_no rfl 46 rfl rfl rfl rfl rfl ?_
     refine w_guard_no rfl 46 rfl rfl rfl rfl rfl ?_
     refine w_guard_no rfl 46 rfl rfl rfl rfl rfl ?_
     refine w_guard_no rfl 46 rfl rfl rfl rfl rfl ?_
     refine w_guard_no rfl 46 rfl rfl rfl rfl rfl ?_
     refine w_guard_no rfl 46 rfl rfl rfl rfl rfl ?_
     refine w_guard_no rfl 57 rfl rfl rfl rfl rfl ?_
     refine w_guard_no rfl 57 rfl rfl rfl rfl rfl ?_
     refine w_guard_no rfl 57 rfl rfl rfl rfl rfl ?_
     refine w_guard_no rfl 57 rfl rfl rfl rfl rfl ?_
     refine w_guard_no rfl 57 rfl rfl rfl rfl rfl ?_
     refine w_guard_no rfl 57 rfl rfl rfl rfl rfl ?_
     refine w_guard_no rfl 57 rfl rfl rfl rfl rfl ?_
     refine w_guard_no rfl 57 rfl rfl rfl rfl rfl ?_
     refine w_guard_no rfl 57 rfl rfl rfl rfl rfl ?_
     refine w_guard_no rfl 57 rfl rfl rfl rfl rfl ?_
     refine w_guard_no rfl 46 rfl rfl rfl rfl rfl ?_
     refine w_pf rfl rfl rfl ?_
     exact w_sub (Sub.cons rfl (Sub.skip rfl (Sub.skip rfl (Sub.skip rfl (Sub.skip rfl (Sub.skip rfl (Sub.skip rfl (Sub.skip rfl (Sub.skip rfl (Sub.skip rfl (Sub.skip rfl (Sub.skip rfl (Sub.skip rfl (Sub.skip rfl (Sub.skip rfl (Sub.skip rfl (Sub.skip rfl (Sub.skip rfl (Sub.skip rfl (Sub.skip rfl (Sub.skip rfl (Sub.skip rfl (Sub.skip rfl (Sub.skip rfl (Sub.skip rfl (Sub.refl _)))))))))))))))))))))))))) hk
    refine w_mv rfl rfl ?_
    refine w_or (p := 80) 10 (decide (((Cmp.curve l (5 : Int)).getD i default) < ((Cmp.curve l (1 : Int)).getD i default))) ?_ ?_ ?_
    ·intro hb18 hk
     simp only [Bool.and_eq_false_iff, decide_eq_false_iff_not, Int.not_lt, Bool.or_eq_false_iff] at hb18
     refine w_unguard 70 rfl rfl ?_
     refine w_mv rfl rfl ?_
     refine w_unguard 70 rfl rfl ?_
     refine w_mv rfl rfl ?_
     refine w_unguard 70 rfl rfl ?_
     refine w_pure (p_indexAddr (L := (Cmp.curve l (1 : Int))) (T := tInt) (i := (i : Int)) rfl rfl (rd_own (i := 1) rfl) Try.underlying22 sz3 (by omega) (by omega)) rfl rfl rfl ?_
     refine w_unguard 70 rfl rfl ?_
     refine w_pure (p_loadE1 (i := i) (T := tInt) (L := (Cmp.curve l (1 : Int))) (v := .int .i64 ((Cmp.curve l (1 : Int)).getD i default)) rfl (rd_own (i := 1) rfl) (by first | assumption | omega) sh3 (congrArg tInt.enc (getd_at (by first | assumption | omega) default))) rfl rfl rfl ?_
     refine w_unguard 70 rfl rfl ?_
     refine w_mv rfl rfl ?_
     refine w_unguard 70 rfl rfl ?_
     refine w_mv rfl rfl ?_
     refine w_unguard 70 rfl rfl ?_
     refine w_pure (p_indexAddr (L := (Cmp.curve l (5 : Int))) (T := tInt) (i := (i : Int)) rfl rfl (rd_own (i := 0) rfl) Try.underlying22 sz3 (by omega) (by omega)) rfl rfl rfl ?_
     refine w_unguard 70 rfl rfl ?_
     refine w_pure (p_loadE1 (i := i) (T := tInt) (L := (Cmp.curve l (5 : Int))) (v := .int .i64 ((Cmp.curve l (5 : Int)).getD i default)) rfl (rd_own (i := 0) rfl) (by first | assumption | omega) sh3 (congrArg tInt.enc (getd_at (by first | assumption | omega) default))) rfl rfl rfl ?_
     refine w_unguard 70 rfl rfl ?_
     refine w_pure (p_gt (p := ((Cmp.curve l (1 : Int)).getD i default)) (q := ((Cmp.curve l (5 : Int)).getD i default)) rfl rfl) rfl rfl rfl ?_
     refine w_pf rfl rfl rfl ?_
     exact w_sub (Sub.cons rfl (Sub.skip rfl (Sub.skip rfl (Sub.skip rfl (Sub.skip rfl (Sub.skip rfl (Sub.skip rfl (Sub.skip rfl (Sub.skip rfl (Sub.skip rfl (Sub.skip rfl (Sub.skip rfl (Sub.refl _))))))))))))) hk
    ·intro hb18 hk
     refine w_guard_no rfl 70 rfl rfl rfl rfl rfl ?_
     refine w_guard_no rfl 70 rfl rfl rfl rfl rfl ?_
     refine w_guard_no rfl 70 rfl rfl rfl rfl rfl ?_
     refine w_guard_no rfl 70 rfl rfl rfl rfl rfl ?_
     refine w_guard_no rfl 70 rfl rfl rfl rfl rfl ?_
     refine w_guard_no rfl 70 rfl rfl rfl rfl rfl ?_
     refine w_guard_no rfl 70 rfl rfl rfl rfl rfl ?_
     refine w_guard_no rfl 70 rfl rfl rfl rfl rfl ?_
     refine w_guard_no rfl 70 rfl rfl rfl rfl rfl ?_
     refine w_pt rfl rfl rfl ?_
     exact w_sub (Sub.cons rfl (Sub.skip rfl (Sub.skip rfl (Sub.skip rfl (Sub.skip rfl (Sub.skip rfl (Sub.skip rfl (Sub.skip rfl (Sub.skip rfl (Sub.skip rfl (Sub.skip rfl (Sub.skip rfl (Sub.refl _))))))))))))) hk
    refine w_nil (q_then ?_)
    refine c_cond (b := ((decide (0 < (i : Int)) && (decide (((Cmp.curve l (1 : Int)).getD i default) < ((Cmp.curve l (1 : Int)).getD (((i : Int) - 1).toNat) default)) || decide (((Cmp.curve l (5 : Int)).getD i default) < ((Cmp.curve l (5 : Int)).getD (((i : Int) - 1).toNat) default)))) || decide (((Cmp.curve l (5 : Int)).getD i default) < ((Cmp.curve l (1 : Int)).getD i default)))) rfl (fun hc19 => ?_) (fun hc19 => ?_)
    ·simp only [Bool.or_eq_true, Bool.and_eq_true, decide_eq_true_eq] at hc19
     exfalso; have hq := hc19; have hm := Cmp.mono hc1 (i := i) (by omega); have q1 := hm.a; have q2 := hm.b; have q3 := hm.c; omega
    ·simp only [Bool.or_eq_false_iff, Bool.and_eq_false_iff, decide_eq_false_iff_not, Int.not_lt] at hc19
     refine c_skip ?_
     refine q_block_normal (q_then ?_)
     refine c_region ?_
     refine o_mv rfl rfl ?_
     refine o_pure (p_addb (p := (i : Int)) (q := 1) rfl rfl (by omega)) rfl rfl rfl ?_
     refine o_as rfl rfl ?_
     refine o_nil ?_
     refine q_round hK14 (i + 1) ?_ ?_ ?_ ?_
     ·clear hK14
      (try dsimp only); omega
     ·(try dsimp only); omega
     ·exact Sub.cons rfl (Sub.cons rfl (Sub.cons rfl (Sub.cons rfl (Sub.nil _))))
     ·exact fun _ hw => HeapIs.pick hw [0, 1, 2] (by decide) rfl
   ·simp only [decide_eq_false_iff_not, Int.not_lt] at hc15
    refine c_exit ?_
    refine q_then_exit (q_then_exit (q_block_exit (q_then ?_)))
    refine c_seq (c_region ?_)
    refine o_mv rfl rfl ?_
    refine o_pure (p_eq (p := (Cmp.curveErr l (5 : Int))) (q := 0) rfl rfl) rfl rfl rfl ?_
    refine o_mv rfl rfl ?_
    refine o_and (p := 87) 4 (((Cmp.curve l (1 : Int)).length : Int) == 39) ?_ ?_ ?_
    ·intro hb20 hk
     simp only [beq_iff_eq] at hb20
     refine o_unguard 83 rfl rfl ?_
     refine o_mv rfl rfl ?_
     refine o_unguard 83 rfl rfl ?_
     refine o_pure (p_len_slice (len := (Cmp.curve l (1 : Int)).length) rfl rfl Try.underlying22) rfl rfl rfl ?_
     refine o_unguard 83 rfl rfl ?_
     refine o_pure (p_eq (p := ((Cmp.curve l (1 : Int)).length : Int)) (q := 39) rfl rfl) rfl rfl rfl ?_
     refine o_pt rfl rfl rfl ?_
     exact o_sub (Sub.cons rfl (Sub.skip rfl (Sub.skip rfl (Sub.skip rfl (Sub.skip rfl (Sub.skip rfl (Sub.refl _))))))) hk
    ·intro hb20 hk
     refine o_guard_no rfl 83 rfl rfl rfl rfl rfl ?_
     refine o_guard_no rfl 83 rfl rfl rfl rfl rfl ?_
     refine o_guard_no rfl 83 rfl rfl rfl rfl rfl ?_
     refine o_pf rfl rfl rfl ?_
     exact o_sub (Sub.cons rfl (Sub.skip rfl (Sub.skip rfl (Sub.skip rfl (Sub.skip rfl (Sub.skip rfl (Sub.refl _))))))) hk
    refine o_mv rfl rfl ?_
    refine o_and (p := 92) 4 (((Cmp.curve l (5 : Int)).length : Int) == 39) ?_ ?_ ?_
    ·intro hb21 hk
     simp only [Bool.and_eq_true, beq_iff_eq] at hb21
     refine o_unguard 88 rfl rfl ?_
     refine o_mv rfl rfl ?_
     refine o_unguard 88 rfl rfl ?_
     refine o_pure (p_len_slice (len := (Cmp.curve l (5 : Int)).length) rfl rfl Try.underlying22) rfl rfl rfl ?_
     refine o_unguard 88 rfl rfl ?_
     refine o_pure (p_eq (p := ((Cmp.curve l (5 : Int)).length : Int)) (q := 39) rfl rfl) rfl rfl rfl ?_
     refine o_pt rfl rfl rfl ?_
     exact o_sub (Sub.cons rfl (Sub.skip rfl (Sub.skip rfl (Sub.skip rfl (Sub.skip rfl (Sub.skip rfl (Sub.refl _))))))) hk
    ·intro hb21 hk
     refine o_guard_no rfl 88 rfl rfl rfl rfl rfl ?_
     refine o_guard_no rfl 88 rfl rfl rfl rfl rfl ?_
     refine o_guard_no rfl 88 rfl rfl rfl rfl rfl ?_
     refine o_pf rfl rfl rfl ?_
     exact o_sub (Sub.cons rfl (Sub.skip rfl (Sub.skip rfl (Sub.skip rfl (Sub.skip rfl (Sub.skip rfl (Sub.refl _))))))) hk
    refine o_as rfl rfl ?_
    refine o_nil (q_then (c_ret ?_))
    have hr0 : (((((Cmp.curveErr l (5 : Int)) == 0) && (((Cmp.curve l (1 : Int)).length : Int) == 39)) && (((Cmp.curve l (5 : Int)).length : Int) == 39)) : Bool) = true := by
     first | exact Cmp.mono_bad hbad | (rw [hc5, ha, hb]; rfl)
    refine q_end0 (v := .bool ((((Cmp.curveErr l (5 : Int)) == 0) && (((Cmp.curve l (1 : Int)).length : Int) == 39)) && (((Cmp.curve l (5 : Int)).length : Int) == 39))) (rt1 rfl (r_tmp rfl)) (i := 2) rfl ?_
    exact (by have hcc := congrArg (fun (y0 : Bool) => (.bool y0 : Value)) hr0; exact hcc)
end Go.Proofs.Ytfncgfcehkalnaa

/- How the arguments read. -/
namespace Go.Proofs.Ytfncgfcehkalnaa
open Go.ChangeShapes Go.WideShapes Go.ChangeAt Go.RowKit Go.Sx

end Go.Proofs.Ytfncgfcehkalnaa
