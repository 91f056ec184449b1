/- The walks, printed by a program from the translation and a specification. -/
import Derived.Test.YthecfjipaepcgaaShF
import Derived.Test.YthecfjipaepcgaaShLaw
import Derived.Test.YthecfjipaepcgaaShW4
import Derived.Test.YthecfjipaepcgaaShW5
namespace Go.Proofs.Ythecfjipaepcgaa
open Go.Sx Go.RowKit
set_option maxHeartbeats 8000000 in
set_option maxRecDepth 100000 in
theorem shardSpec_ok (l : List DShard) (al : Option Addr) (cl : Nat) (key : ByteArray) (at_ : Int) (many : Int) : Fn0 Try.prog 9 [.slice al l.length cl, .string key, .int .i64 at_, .int .i64 many] (fun w => Rd tShard w al cl l) (.bool true) := by
  refine fn0 (nt := 130) (F0 := [(0, .slice al l.length cl), (1, .string key), (2, .int .i64 at_), (3, .int .i64 many)]) Try.func9 rfl Try.ntmps9 rfl rfl (fun w0 hpre => ?_)
  have hl := hpre
  have hlhl := hl.2.1
  refine c_seq ?_
  refine c_region ?_
  refine o_pure (p_assign (v := .bool false) rfl) rfl rfl rfl ?_
  refine o_nil ?_
  refine q_then ?_
  refine c_seq ?_
  refine c_region ?_
  refine o_pure (p_move (v := .slice al l.length cl) rfl) rfl rfl rfl ?_
  refine o_pure (p_move (v := .string key) rfl) rfl rfl rfl ?_
  refine o_call0 (v := .tuple #[.int .i64 (Shd.owner l key), .int .i64 (Shd.ownErr l key)]) rfl (sowner_ok l al cl key) hf33 (fun w hw => (rd_base (i := 0) rfl hl) w hw) rfl ?_
  refine o_pure (p_move (v := .tuple #[.int .i64 (Shd.owner l key), .int .i64 (Shd.ownErr l key)]) rfl) rfl rfl rfl ?_
  refine o_pure (p_extract (vs := [.int .i64 (Shd.owner l key), .int .i64 (Shd.ownErr l key)]) (v := .int .i64 (Shd.owner l key)) rfl rfl) rfl rfl rfl ?_
  refine o_pure (p_extract (vs := [.int .i64 (Shd.owner l key), .int .i64 (Shd.ownErr l key)]) (v := .int .i64 (Shd.ownErr l key)) rfl rfl) rfl rfl rfl ?_
  refine o_pure (p_assign (v := .int .i64 (Shd.owner l key)) rfl) rfl rfl rfl ?_
  refine o_pure (p_assign (v := .int .i64 (Shd.ownErr l key)) rfl) rfl rfl rfl ?_
  refine o_nil ?_
  refine q_then ?_
  refine c_seq ?_
  refine c_region ?_
  refine o_pure (p_move (v := .slice al l.length cl) rfl) rfl rfl rfl ?_
  refine o_pure (p_move (v := .string key) rfl) rfl rfl rfl ?_
  refine o_pure (p_move (v := .int .i64 many) rfl) rfl rfl rfl ?_
  refine o_callM rfl (sowners_ok l al cl key many) hf32 (fun w hw => (rd_base (i := 0) rfl hl) w hw) rfl (fun _ _ _ _ ha hA => SlO.agree ha hA) ?_
  rintro ⟨a3, c4⟩ S1
  refine o_know (fun w hw => own_len (i := 0) (T := tInt) hw rfl) (fun hlr5 => ?_)
  refine o_pure (p_move (v := .tuple #[.slice a3 (Shd.owners l key many).length c4, .int .i64 (Shd.ownsErr l key many)]) rfl) rfl rfl rfl ?_
  refine o_pure (p_extract (vs := [.slice a3 (Shd.owners l key many).length c4, .int .i64 (Shd.ownsErr l key many)]) (v := .slice a3 (Shd.owners l key many).length c4) rfl rfl) rfl rfl rfl ?_
  refine o_pure (p_extract (vs := [.slice a3 (Shd.owners l key many).length c4, .int .i64 (Shd.ownsErr l key many)]) (v := .int .i64 (Shd.ownsErr l key many)) rfl rfl) rfl rfl rfl ?_
  refine o_pure (p_assign (v := .slice a3 (Shd.owners l key many).length c4) rfl) rfl rfl rfl ?_
  refine o_pure (p_assign (v := .int .i64 (Shd.ownsErr l key many)) rfl) rfl rfl rfl ?_
  refine o_nil ?_
  refine q_then ?_
  refine c_seq ?_
  refine c_region ?_
  refine o_pure (p_move (v := .slice al l.length cl) rfl) rfl rfl rfl ?_
  refine o_pure (p_move (v := .string key) rfl) rfl rfl rfl ?_
  refine o_call0 (v := .int .i64 (Shd.ownErr l key)) rfl (ownerErr_ok l al cl key) hf28 (fun w hw => (rd_base (i := 1) rfl hl) w hw) rfl ?_
  refine o_pure (p_assign (v := .int .i64 (Shd.ownErr l key)) rfl) rfl rfl rfl ?_
  refine o_nil ?_
  refine q_then ?_
  refine c_seq ?_
  refine c_region ?_
  refine o_pure (p_move (v := .int .i64 (Shd.ownErr l key)) rfl) rfl rfl rfl ?_
  refine o_pure (p_assign (v := .int .i64 (Shd.ownErr l key)) rfl) rfl rfl rfl ?_
  refine o_pure (p_assign (v := .int .i64 0) rfl) rfl rfl rfl ?_
  refine o_nil ?_
  refine q_then ?_
  refine c_seq ?_
  refine c_region ?_
  refine o_pure (p_assign (v := .slice none 0 0) rfl) rfl rfl rfl ?_
  refine o_nil ?_
  refine q_then ?_
  refine c_seq ?_
  refine c_seq ?_
  refine c_region ?_
  refine o_pure (p_move (v := .int .i64 (Shd.ownErr l key)) rfl) rfl rfl rfl ?_
  refine o_pure (p_eq (p := (Shd.ownErr l key)) (q := 0) rfl rfl) rfl rfl rfl ?_
  refine o_nil ?_
  refine q_then ?_
  refine c_heap (H' := [loose tInt (False) (fun _ => False) none 0 ([] : List Int), own tInt S1 a3 c4 (Shd.owners l key many), base w0]) (fun w hw => HeapIs.looseNil tInt hw) ?_
  refine c_join (G := Int × Int × List Int × Option Addr × Nat × (Nat → Prop))
    (fun ⟨v, best, owners, aowners, cowners, Sowners⟩ => [(0, .slice al l.length cl), (1, .string key), (2, .int .i64 at_), (9, .int .i64 (Shd.owner l key)), (10, .int .i64 (Shd.ownErr l key)), (11, .slice a3 (Shd.owners l key many).length c4), (12, .int .i64 (Shd.ownsErr l key many)), (13, .int .i64 (Shd.ownErr l key)), (14, .int .i64 v), (15, .int .i64 best), (16, .slice aowners owners.length cowners)])
    (fun ⟨v, best, owners, aowners, cowners, Sowners⟩ => [loose tInt (False) Sowners aowners cowners owners, own tInt S1 a3 c4 (Shd.owners l key many), base w0])
    (fun ⟨v, best, owners, aowners, cowners, Sowners⟩ => best = Shd.owner l key ∧ v = Shd.ownsErr l key many ∧ owners = Shd.owners l key many)
    (fun K hK7 => ?_) ?_
  · refine c_cond (b := ((Shd.ownErr l key) == 0)) rfl (fun hc8 => ?_) (fun hc8 => ?_)
    · simp only [beq_iff_eq] at hc8
      have hw0 := hc8
      have hok := Shd.own_ok hc8
      have ht1 := Shd.take_len (key := key) hok.2.2
      refine c_seq ?_
      refine c_region ?_
      refine o_pure (p_move (v := .slice al l.length cl) rfl) rfl rfl rfl ?_
      refine o_pure (p_move (v := .string key) rfl) rfl rfl rfl ?_
      refine o_callM rfl (shardOwners_ok l al cl key (1 : Int) (by first | assumption | exact ⟨hok.1, hok.2.1, by omega, by omega⟩ | exact ⟨hokl.1, hokl.2.1, by omega, by omega⟩ | exact ⟨hokm.1, hokm.2.1, by omega, by omega⟩)) hf29 (fun w hw => (rd_base (i := 2) rfl hl) w hw) rfl (fun _ _ _ _ ha hA => SlO.agree ha hA) ?_
      rintro ⟨a11, c12⟩ S9
      refine o_know (fun w hw => own_len (i := 0) (T := tInt) hw rfl) (fun hlr13 => ?_)
      refine o_pure (p_indexAddr (L := ((Shd.ranked l key).take (1 : Int).toNat)) (T := tInt) (i := 0) rfl rfl (rd_own (i := 0) rfl) Try.underlying45 sz3 (by omega) (by omega)) rfl rfl rfl ?_
      refine o_pure (p_loadE1 (i := 0) (T := tInt) (L := ((Shd.ranked l key).take (1 : Int).toNat)) (v := .int .i64 (((Shd.ranked l key).take (1 : Int).toNat).getD 0 default)) rfl (rd_own (i := 0) rfl) (by first | assumption | omega) sh3 (congrArg tInt.enc (getd_at (by first | assumption | omega) default))) rfl rfl rfl ?_
      refine o_pure (p_assign (v := .int .i64 (((Shd.ranked l key).take (1 : Int).toNat).getD 0 default)) rfl) rfl rfl rfl ?_
      refine o_nil ?_
      refine q_then ?_
      refine c_seq ?_
      refine c_region ?_
      refine o_pure (p_move (v := .int .i64 many) rfl) rfl rfl rfl ?_
      refine o_pure (p_lt (p := many) (q := 1) rfl rfl) rfl rfl rfl ?_
      refine o_pure (p_move (v := .bool (decide (many < 1))) rfl) rfl rfl rfl ?_
      refine o_or (p := 52) 5 (decide ((l.length : Int) < many)) ?_ ?_ ?_
      · intro hb14 hk
        simp only [decide_eq_false_iff_not, Int.not_lt] at hb14
        refine o_unguard 47 rfl rfl ?_
        refine o_pure (p_move (v := .int .i64 many) rfl) rfl rfl rfl ?_
        refine o_unguard 47 rfl rfl ?_
        refine o_pure (p_move (v := .slice al l.length cl) rfl) rfl rfl rfl ?_
        refine o_unguard 47 rfl rfl ?_
        refine o_pure (p_len_slice (len := l.length) rfl rfl Try.underlying43) rfl rfl rfl ?_
        refine o_unguard 47 rfl rfl ?_
        refine o_pure (p_gt (p := many) (q := (l.length : Int)) rfl rfl) rfl rfl rfl ?_
        refine o_pure (p_pick_false (v := .bool (decide ((l.length : Int) < many))) rfl rfl) rfl rfl rfl ?_
        exact o_sub (Sub.cons rfl (Sub.skip rfl (Sub.skip rfl (Sub.skip rfl (Sub.skip rfl (Sub.skip rfl (Sub.skip rfl (Sub.refl _)))))))) hk
      · intro hb14 hk
        refine o_guard_no rfl 47 rfl rfl rfl rfl rfl ?_
        refine o_guard_no rfl 47 rfl rfl rfl rfl rfl ?_
        refine o_guard_no rfl 47 rfl rfl rfl rfl rfl ?_
        refine o_guard_no rfl 47 rfl rfl rfl rfl rfl ?_
        refine o_pure (p_pick_true (u := .bool true) rfl rfl) rfl rfl rfl ?_
        exact o_sub (Sub.cons rfl (Sub.skip rfl (Sub.skip rfl (Sub.skip rfl (Sub.skip rfl (Sub.skip rfl (Sub.skip rfl (Sub.refl _)))))))) hk
      refine o_nil ?_
      refine q_then ?_
      refine c_cond (b := (decide (many < 1) || decide ((l.length : Int) < many))) rfl (fun hc15 => ?_) (fun hc15 => ?_)
      · simp only [Bool.or_eq_true, decide_eq_true_eq] at hc15
        refine c_region ?_
        refine o_pure (p_assign (v := .int .i64 3) rfl) rfl rfl rfl ?_
        refine o_nil ?_
        refine q_join hK7 (3, (((Shd.ranked l key).take (1 : Int).toNat).getD 0 default), ([] : List Int), none, 0, (fun _ => False)) ?_ (Sub.cons rfl (Sub.cons rfl (Sub.cons rfl (Sub.cons rfl (Sub.cons rfl (Sub.cons rfl (Sub.cons rfl (Sub.cons rfl (Sub.cons rfl (Sub.cons rfl (Sub.cons rfl (Sub.nil _)))))))))))) (fun _ hw => HeapIs.pick hw [1, 2, 3] (by decide) rfl)
        clear hK7
        first | exact Shd.sp_bad hw0 | exact Shd.sp_range hw0 (by omega) | exact Shd.sp_good hw0 (by omega)
      · simp only [Bool.or_eq_false_iff, decide_eq_false_iff_not, Int.not_lt] at hc15
        refine c_region ?_
        refine o_pure (p_move (v := .slice al l.length cl) rfl) rfl rfl rfl ?_
        refine o_pure (p_move (v := .string key) rfl) rfl rfl rfl ?_
        refine o_pure (p_move (v := .int .i64 many) rfl) rfl rfl rfl ?_
        refine o_callM rfl (shardOwners_ok l al cl key many (by first | assumption | exact ⟨hok.1, hok.2.1, by omega, by omega⟩ | exact ⟨hokl.1, hokl.2.1, by omega, by omega⟩ | exact ⟨hokm.1, hokm.2.1, by omega, by omega⟩)) hf29 (fun w hw => (rd_base (i := 3) rfl hl) w hw) rfl (fun _ _ _ _ ha hA => SlO.agree ha hA) ?_
        rintro ⟨a18, c19⟩ S16
        refine o_know (fun w hw => own_len (i := 0) (T := tInt) hw rfl) (fun hlr20 => ?_)
        refine o_pure (p_assign (v := .slice a18 ((Shd.ranked l key).take many.toNat).length c19) rfl) rfl rfl rfl ?_
        refine o_nil ?_
        refine q_heap (H' := [loose tInt (False) S16 a18 c19 ((Shd.ranked l key).take many.toNat), own tInt S9 a11 c12 ((Shd.ranked l key).take (1 : Int).toNat), loose tInt (False) (fun _ => False) none 0 ([] : List Int), own tInt S1 a3 c4 (Shd.owners l key many), base w0]) (fun w hw => HeapIs.toLoose (i := 0) (T := tInt) rfl hw) ?_
        refine q_join hK7 ((Shd.ownErr l key), (((Shd.ranked l key).take (1 : Int).toNat).getD 0 default), ((Shd.ranked l key).take many.toNat), a18, c19, S16) ?_ (Sub.cons rfl (Sub.cons rfl (Sub.cons rfl (Sub.cons rfl (Sub.cons rfl (Sub.cons rfl (Sub.cons rfl (Sub.cons rfl (Sub.cons rfl (Sub.cons rfl (Sub.cons rfl (Sub.nil _)))))))))))) (fun _ hw => HeapIs.pick hw [0, 3, 4] (by decide) rfl)
        clear hK7
        first | exact Shd.sp_bad hw0 | exact Shd.sp_range hw0 (by omega) | exact Shd.sp_good hw0 (by omega)
    · simp only [beq_eq_false_iff_ne, ne_eq] at hc8
      have hw0 := hc8
      refine c_skip ?_
      refine q_join hK7 ((Shd.ownErr l key), 0, ([] : List Int), none, 0, (fun _ => False)) ?_ (Sub.cons rfl (Sub.cons rfl (Sub.cons rfl (Sub.cons rfl (Sub.cons rfl (Sub.cons rfl (Sub.cons rfl (Sub.cons rfl (Sub.cons rfl (Sub.cons rfl (Sub.cons rfl (Sub.nil _)))))))))))) (fun _ hw => HeapIs.pick hw [0, 1, 2] (by decide) rfl)
      clear hK7
      first | exact Shd.sp_bad hw0 | exact Shd.sp_range hw0 (by omega) | exact Shd.sp_good hw0 (by omega)
  rintro ⟨v, best, owners, aowners, cowners, Sowners⟩ hj1
  show SQ _ 130 w0 _ _ [(0, .slice al l.length cl), (1, .string key), (2, .int .i64 at_), (9, .int .i64 (Shd.owner l key)), (10, .int .i64 (Shd.ownErr l key)), (11, .slice a3 (Shd.owners l key many).length c4), (12, .int .i64 (Shd.ownsErr l key many)), (13, .int .i64 (Shd.ownErr l key)), (14, .int .i64 v), (15, .int .i64 best), (16, .slice aowners owners.length cowners)] [loose tInt (False) Sowners aowners cowners owners, own tInt S1 a3 c4 (Shd.owners l key many), base w0]
  refine q_then ?_
  refine c_seq ?_
  refine c_seq ?_
  refine c_region ?_
  refine o_pure (p_move (v := .int .i64 at_) rfl) rfl rfl rfl ?_
  refine o_pure (p_ge (p := at_) (q := 0) rfl rfl) rfl rfl rfl ?_
  refine o_pure (p_move (v := .bool (decide (0 ≤ at_))) rfl) rfl rfl rfl ?_
  refine o_and (p := 64) 5 (decide (at_ < (l.length : Int))) ?_ ?_ ?_
  · intro hb21 hk
    simp only [decide_eq_true_eq] at hb21
    refine o_unguard 59 rfl rfl ?_
    refine o_pure (p_move (v := .int .i64 at_) rfl) rfl rfl rfl ?_
    refine o_unguard 59 rfl rfl ?_
    refine o_pure (p_move (v := .slice al l.length cl) rfl) rfl rfl rfl ?_
    refine o_unguard 59 rfl rfl ?_
    refine o_pure (p_len_slice (len := l.length) rfl rfl Try.underlying43) rfl rfl rfl ?_
    refine o_unguard 59 rfl rfl ?_
    refine o_pure (p_lt (p := at_) (q := (l.length : Int)) rfl rfl) rfl rfl rfl ?_
    refine o_pure (p_pick_true (u := .bool (decide (at_ < (l.length : Int)))) rfl rfl) rfl rfl rfl ?_
    exact o_sub (Sub.cons rfl (Sub.skip rfl (Sub.skip rfl (Sub.skip rfl (Sub.skip rfl (Sub.skip rfl (Sub.skip rfl (Sub.refl _)))))))) hk
  · intro hb21 hk
    refine o_guard_no rfl 59 rfl rfl rfl rfl rfl ?_
    refine o_guard_no rfl 59 rfl rfl rfl rfl rfl ?_
    refine o_guard_no rfl 59 rfl rfl rfl rfl rfl ?_
    refine o_guard_no rfl 59 rfl rfl rfl rfl rfl ?_
    refine o_pure (p_pick_false (v := .bool false) rfl rfl) rfl rfl rfl ?_
    exact o_sub (Sub.cons rfl (Sub.skip rfl (Sub.skip rfl (Sub.skip rfl (Sub.skip rfl (Sub.skip rfl (Sub.skip rfl (Sub.refl _)))))))) hk
  refine o_nil ?_
  refine q_then ?_
  refine c_cond (b := (decide (0 ≤ at_) && decide (at_ < (l.length : Int)))) rfl (fun hc22 => ?_) (fun hc22 => ?_)
  · simp only [Bool.and_eq_true, decide_eq_true_eq] at hc22
    refine c_seq ?_
    refine c_region ?_
    refine o_pure (p_move (v := .slice al l.length cl) rfl) rfl rfl rfl ?_
    refine o_pure (p_move (v := .int .i64 at_) rfl) rfl rfl rfl ?_
    refine o_pure (p_indexAddr (L := l) (T := tShard) (i := at_) rfl rfl (rd_base (i := 2) rfl hl) Try.underlying43 sz50 (by omega) (by omega)) rfl rfl rfl ?_
    refine o_pure (p_loadEn (i := at_.toNat) (T := tShard) (L := l) (vs := [.string ((l.getD at_.toNat default).name), .int .i64 ((l.getD at_.toNat default).weight)]) rfl (rd_base (i := 2) rfl hl) (by first | assumption | omega) sh50 (congrArg tShard.enc (getd_at (by first | assumption | omega) default))) rfl rfl rfl ?_
    refine o_pure (p_move (v := .string key) rfl) rfl rfl rfl ?_
    refine o_call0 (v := .tuple #[.int .u64 ((Shd.scoreR (l.getD at_.toNat default) key).toNat : Int), .int .i64 (Shd.scoreErr (l.getD at_.toNat default) key)]) rfl (sScore_ok (l.getD at_.toNat default) key) hf35 (fun _ _ => trivial) rfl ?_
    refine o_pure (p_move (v := .tuple #[.int .u64 ((Shd.scoreR (l.getD at_.toNat default) key).toNat : Int), .int .i64 (Shd.scoreErr (l.getD at_.toNat default) key)]) rfl) rfl rfl rfl ?_
    refine o_pure (p_extract (vs := [.int .u64 ((Shd.scoreR (l.getD at_.toNat default) key).toNat : Int), .int .i64 (Shd.scoreErr (l.getD at_.toNat default) key)]) (v := .int .u64 ((Shd.scoreR (l.getD at_.toNat default) key).toNat : Int)) rfl rfl) rfl rfl rfl ?_
    refine o_pure (p_extract (vs := [.int .u64 ((Shd.scoreR (l.getD at_.toNat default) key).toNat : Int), .int .i64 (Shd.scoreErr (l.getD at_.toNat default) key)]) (v := .int .i64 (Shd.scoreErr (l.getD at_.toNat default) key)) rfl rfl) rfl rfl rfl ?_
    refine o_pure (p_assign (v := .int .u64 ((Shd.scoreR (l.getD at_.toNat default) key).toNat : Int)) rfl) rfl rfl rfl ?_
    refine o_pure (p_assign (v := .int .i64 (Shd.scoreErr (l.getD at_.toNat default) key)) rfl) rfl rfl rfl ?_
    refine o_nil ?_
    refine q_then ?_
    refine c_seq ?_
    refine c_region ?_
    refine o_pure (p_move (v := .slice al l.length cl) rfl) rfl rfl rfl ?_
    refine o_pure (p_move (v := .int .i64 at_) rfl) rfl rfl rfl ?_
    refine o_pure (p_indexAddr (L := l) (T := tShard) (i := at_) rfl rfl (rd_base (i := 2) rfl hl) Try.underlying43 sz50 (by omega) (by omega)) rfl rfl rfl ?_
    refine o_pure (p_loadEn (i := at_.toNat) (T := tShard) (L := l) (vs := [.string ((l.getD at_.toNat default).name), .int .i64 ((l.getD at_.toNat default).weight)]) rfl (rd_base (i := 2) rfl hl) (by first | assumption | omega) sh50 (congrArg tShard.enc (getd_at (by first | assumption | omega) default))) rfl rfl rfl ?_
    refine o_call0 (v := .int .i64 (Shd.one (l.getD at_.toNat default))) rfl (shardErr_ok (l.getD at_.toNat default)) hf36 (fun _ _ => trivial) rfl ?_
    refine o_pure (p_assign (v := .int .i64 (Shd.one (l.getD at_.toNat default))) rfl) rfl rfl rfl ?_
    refine o_pure (p_assign (v := .int .u64 ((0 : UInt64).toNat : Int)) rfl) rfl rfl rfl ?_
    refine o_nil ?_
    refine q_then ?_
    refine c_seq ?_
    refine c_seq ?_
    refine c_region ?_
    refine o_pure (p_move (v := .int .i64 (Shd.one (l.getD at_.toNat default))) rfl) rfl rfl rfl ?_
    refine o_pure (p_eq (p := (Shd.one (l.getD at_.toNat default))) (q := 0) rfl rfl) rfl rfl rfl ?_
    refine o_pure (p_move (v := .bool ((Shd.one (l.getD at_.toNat default)) == 0)) rfl) rfl rfl rfl ?_
    refine o_and (p := 85) 4 (decide (40 < (key.size : Int))) ?_ ?_ ?_
    · intro hb23 hk
      simp only [beq_iff_eq] at hb23
      refine o_unguard 81 rfl rfl ?_
      refine o_pure (p_move (v := .string key) rfl) rfl rfl rfl ?_
      refine o_unguard 81 rfl rfl ?_
      refine o_pure (p_len_string rfl rfl Try.underlying9) rfl rfl rfl ?_
      refine o_unguard 81 rfl rfl ?_
      refine o_pure (p_gt (p := (key.size : Int)) (q := 40) rfl rfl) rfl rfl rfl ?_
      refine o_pure (p_pick_true (u := .bool (decide (40 < (key.size : Int)))) rfl rfl) rfl rfl rfl ?_
      exact o_sub (Sub.cons rfl (Sub.skip rfl (Sub.skip rfl (Sub.skip rfl (Sub.skip rfl (Sub.skip rfl (Sub.refl _))))))) hk
    · intro hb23 hk
      refine o_guard_no rfl 81 rfl rfl rfl rfl rfl ?_
      refine o_guard_no rfl 81 rfl rfl rfl rfl rfl ?_
      refine o_guard_no rfl 81 rfl rfl rfl rfl rfl ?_
      refine o_pure (p_pick_false (v := .bool false) rfl rfl) rfl rfl rfl ?_
      exact o_sub (Sub.cons rfl (Sub.skip rfl (Sub.skip rfl (Sub.skip rfl (Sub.skip rfl (Sub.skip rfl (Sub.refl _))))))) hk
    refine o_nil ?_
    refine q_then ?_
    refine c_cond (b := (((Shd.one (l.getD at_.toNat default)) == 0) && decide (40 < (key.size : Int)))) rfl (fun hc24 => ?_) (fun hc24 => ?_)
    · simp only [Bool.and_eq_true, beq_iff_eq, decide_eq_true_eq] at hc24
      refine c_region ?_
      refine o_pure (p_assign (v := .int .i64 2) rfl) rfl rfl rfl ?_
      refine o_nil ?_
      refine q_then ?_
      refine c_seq ?_
      refine c_seq ?_
      refine c_region ?_
      refine o_pure (p_move (v := .int .i64 2) rfl) rfl rfl rfl ?_
      refine o_pure (p_eq (p := 2) (q := 0) rfl rfl) rfl rfl rfl ?_
      refine o_nil ?_
      refine q_then ?_
      refine c_false rfl ?_
      refine c_skip ?_
      refine q_then ?_
      refine c_seq ?_
      refine c_region ?_
      refine o_pure (p_move (v := .int .u64 ((Shd.scoreR (l.getD at_.toNat default) key).toNat : Int)) rfl) rfl rfl rfl ?_
      refine o_pure (p_move (v := .int .u64 ((0 : UInt64).toNat : Int)) rfl) rfl rfl rfl ?_
      refine o_pure (pu_ne (p := (Shd.scoreR (l.getD at_.toNat default) key)) (q := (0 : UInt64)) rfl rfl) rfl rfl rfl ?_
      refine o_pure (p_move (v := .bool ((Shd.scoreR (l.getD at_.toNat default) key) != (0 : UInt64))) rfl) rfl rfl rfl ?_
      refine o_or (p := 101) 4 ((Shd.scoreErr (l.getD at_.toNat default) key) != 2) ?_ ?_ ?_
      · intro hb25 hk
        simp only [bne_eq_false_iff_eq] at hb25
        refine o_unguard 97 rfl rfl ?_
        refine o_pure (p_move (v := .int .i64 (Shd.scoreErr (l.getD at_.toNat default) key)) rfl) rfl rfl rfl ?_
        refine o_unguard 97 rfl rfl ?_
        refine o_pure (p_move (v := .int .i64 2) rfl) rfl rfl rfl ?_
        refine o_unguard 97 rfl rfl ?_
        refine o_pure (p_ne (p := (Shd.scoreErr (l.getD at_.toNat default) key)) (q := 2) rfl rfl) rfl rfl rfl ?_
        refine o_pure (p_pick_false (v := .bool ((Shd.scoreErr (l.getD at_.toNat default) key) != 2)) rfl rfl) rfl rfl rfl ?_
        exact o_sub (Sub.cons rfl (Sub.skip rfl (Sub.skip rfl (Sub.skip rfl (Sub.skip rfl (Sub.skip rfl (Sub.refl _))))))) hk
      · intro hb25 hk
        refine o_guard_no rfl 97 rfl rfl rfl rfl rfl ?_
        refine o_guard_no rfl 97 rfl rfl rfl rfl rfl ?_
        refine o_guard_no rfl 97 rfl rfl rfl rfl rfl ?_
        refine o_pure (p_pick_true (u := .bool true) rfl rfl) rfl rfl rfl ?_
        exact o_sub (Sub.cons rfl (Sub.skip rfl (Sub.skip rfl (Sub.skip rfl (Sub.skip rfl (Sub.skip rfl (Sub.refl _))))))) hk
      refine o_nil ?_
      refine q_then ?_
      refine c_cond (b := (((Shd.scoreR (l.getD at_.toNat default) key) != (0 : UInt64)) || ((Shd.scoreErr (l.getD at_.toNat default) key) != 2))) rfl (fun hc26 => ?_) (fun hc26 => ?_)
      · simp only [Bool.or_eq_true, bne_iff_ne, ne_eq] at hc26
        exfalso; have hbad := hc26
        rcases Shd.sc_cases (l.getD at_.toNat default) key with ⟨c1, c2, c3⟩ | ⟨c1, c4, c2, c3⟩ | ⟨c1, c4, c2, c3⟩ <;> first | (exfalso; omega) | (simp only [c2, c3] at hbad; simp_all; done) | (rw [c2, c3] at hbad; rcases hbad with h9 | h9 <;> first | exact h9 rfl | omega)
      · simp only [Bool.or_eq_false_iff, bne_eq_false_iff_eq] at hc26
        refine c_skip ?_
        refine q_then ?_
        refine c_seq ?_
        refine c_region ?_
        refine o_call0 (v := .bool true) rfl (shardBegun_ok ) hf30 (fun _ _ => trivial) rfl ?_
        refine o_pure (p_move (v := .bool true) rfl) rfl rfl rfl ?_
        refine o_unguard 103 rfl rfl ?_
        refine o_pure (p_move (v := .slice al l.length cl) rfl) rfl rfl rfl ?_
        refine o_unguard 103 rfl rfl ?_
        refine o_call0 (v := .int .i64 (Shd.check l)) rfl (scheck_ok l al cl) hf38 (fun w hw => (rd_base (i := 2) rfl hl) w hw) rfl ?_
        refine o_unguard 103 rfl rfl ?_
        refine o_pure (p_move (v := .slice al l.length cl) rfl) rfl rfl rfl ?_
        refine o_unguard 103 rfl rfl ?_
        refine o_call0 (v := .int .i64 (Shd.check l)) rfl (shardCheck_ok l al cl) hf39 (fun w hw => (rd_base (i := 2) rfl hl) w hw) rfl ?_
        refine o_unguard 103 rfl rfl ?_
        refine o_pure (p_eq (p := (Shd.check l)) (q := (Shd.check l)) rfl rfl) rfl rfl rfl ?_
        refine o_pure (p_pick_true (u := .bool ((Shd.check l) == (Shd.check l))) rfl rfl) rfl rfl rfl ?_
        refine o_pure (p_move (v := .bool ((Shd.check l) == (Shd.check l))) rfl) rfl rfl rfl ?_
        refine o_and (p := 114) 4 ((Shd.owner l key) == best) ?_ ?_ ?_
        · intro hb27 hk
          simp only [beq_iff_eq] at hb27
          refine o_unguard 110 rfl rfl ?_
          refine o_pure (p_move (v := .int .i64 (Shd.owner l key)) rfl) rfl rfl rfl ?_
          refine o_unguard 110 rfl rfl ?_
          refine o_pure (p_move (v := .int .i64 best) rfl) rfl rfl rfl ?_
          refine o_unguard 110 rfl rfl ?_
          refine o_pure (p_eq (p := (Shd.owner l key)) (q := best) rfl rfl) rfl rfl rfl ?_
          refine o_pure (p_pick_true (u := .bool ((Shd.owner l key) == best)) rfl rfl) rfl rfl rfl ?_
          exact o_sub (Sub.cons rfl (Sub.skip rfl (Sub.skip rfl (Sub.skip rfl (Sub.skip rfl (Sub.skip rfl (Sub.refl _))))))) hk
        · intro hb27 hk
          refine o_guard_no rfl 110 rfl rfl rfl rfl rfl ?_
          refine o_guard_no rfl 110 rfl rfl rfl rfl rfl ?_
          refine o_guard_no rfl 110 rfl rfl rfl rfl rfl ?_
          refine o_pure (p_pick_false (v := .bool false) rfl rfl) rfl rfl rfl ?_
          exact o_sub (Sub.cons rfl (Sub.skip rfl (Sub.skip rfl (Sub.skip rfl (Sub.skip rfl (Sub.skip rfl (Sub.refl _))))))) hk
        refine o_pure (p_move (v := .bool (((Shd.check l) == (Shd.check l)) && ((Shd.owner l key) == best))) rfl) rfl rfl rfl ?_
        refine o_and (p := 119) 4 ((Shd.ownErr l key) == (Shd.ownErr l key)) ?_ ?_ ?_
        · intro hb28 hk
          simp only [Bool.and_eq_true, beq_iff_eq] at hb28
          refine o_unguard 115 rfl rfl ?_
          refine o_pure (p_move (v := .int .i64 (Shd.ownErr l key)) rfl) rfl rfl rfl ?_
          refine o_unguard 115 rfl rfl ?_
          refine o_pure (p_move (v := .int .i64 (Shd.ownErr l key)) rfl) rfl rfl rfl ?_
          refine o_unguard 115 rfl rfl ?_
          refine o_pure (p_eq (p := (Shd.ownErr l key)) (q := (Shd.ownErr l key)) rfl rfl) rfl rfl rfl ?_
          refine o_pure (p_pick_true (u := .bool ((Shd.ownErr l key) == (Shd.ownErr l key))) rfl rfl) rfl rfl rfl ?_
          exact o_sub (Sub.cons rfl (Sub.skip rfl (Sub.skip rfl (Sub.skip rfl (Sub.skip rfl (Sub.skip rfl (Sub.refl _))))))) hk
        · intro hb28 hk
          refine o_guard_no rfl 115 rfl rfl rfl rfl rfl ?_
          refine o_guard_no rfl 115 rfl rfl rfl rfl rfl ?_
          refine o_guard_no rfl 115 rfl rfl rfl rfl rfl ?_
          refine o_pure (p_pick_false (v := .bool false) rfl rfl) rfl rfl rfl ?_
          exact o_sub (Sub.cons rfl (Sub.skip rfl (Sub.skip rfl (Sub.skip rfl (Sub.skip rfl (Sub.skip rfl (Sub.refl _))))))) hk
        refine o_pure (p_move (v := .bool ((((Shd.check l) == (Shd.check l)) && ((Shd.owner l key) == best)) && ((Shd.ownErr l key) == (Shd.ownErr l key)))) rfl) rfl rfl rfl ?_
        refine o_and (p := 124) 4 (Ref.sameInts (Shd.owners l key many) owners) ?_ ?_ ?_
        · intro hb29 hk
          simp only [Bool.and_eq_true, beq_iff_eq] at hb29
          refine o_unguard 120 rfl rfl ?_
          refine o_pure (p_move (v := .slice a3 (Shd.owners l key many).length c4) rfl) rfl rfl rfl ?_
          refine o_unguard 120 rfl rfl ?_
          refine o_pure (p_move (v := .slice aowners owners.length cowners) rfl) rfl rfl rfl ?_
          refine o_unguard 120 rfl rfl ?_
          refine o_call0 (v := .bool (Ref.sameInts (Shd.owners l key many) owners)) rfl (sameInts_ok (Shd.owners l key many) a3 c4 owners aowners cowners) hf31 (fun w hw => ⟨(rd_own (i := 1) rfl) w hw, (rd_loose (i := 0) rfl (fun hφ => hφ.elim)) w hw⟩) rfl ?_
          refine o_pure (p_pick_true (u := .bool (Ref.sameInts (Shd.owners l key many) owners)) rfl rfl) rfl rfl rfl ?_
          exact o_sub (Sub.cons rfl (Sub.skip rfl (Sub.skip rfl (Sub.skip rfl (Sub.skip rfl (Sub.skip rfl (Sub.refl _))))))) hk
        · intro hb29 hk
          refine o_guard_no rfl 120 rfl rfl rfl rfl rfl ?_
          refine o_guard_no rfl 120 rfl rfl rfl rfl rfl ?_
          refine o_guard_no rfl 120 rfl rfl rfl rfl rfl ?_
          refine o_pure (p_pick_false (v := .bool false) rfl rfl) rfl rfl rfl ?_
          exact o_sub (Sub.cons rfl (Sub.skip rfl (Sub.skip rfl (Sub.skip rfl (Sub.skip rfl (Sub.skip rfl (Sub.refl _))))))) hk
        refine o_pure (p_move (v := .bool (((((Shd.check l) == (Shd.check l)) && ((Shd.owner l key) == best)) && ((Shd.ownErr l key) == (Shd.ownErr l key))) && (Ref.sameInts (Shd.owners l key many) owners))) rfl) rfl rfl rfl ?_
        refine o_and (p := 129) 4 ((Shd.ownsErr l key many) == v) ?_ ?_ ?_
        · intro hb30 hk
          simp only [Bool.and_eq_true, beq_iff_eq] at hb30
          refine o_unguard 125 rfl rfl ?_
          refine o_pure (p_move (v := .int .i64 (Shd.ownsErr l key many)) rfl) rfl rfl rfl ?_
          refine o_unguard 125 rfl rfl ?_
          refine o_pure (p_move (v := .int .i64 v) rfl) rfl rfl rfl ?_
          refine o_unguard 125 rfl rfl ?_
          refine o_pure (p_eq (p := (Shd.ownsErr l key many)) (q := v) rfl rfl) rfl rfl rfl ?_
          refine o_pure (p_pick_true (u := .bool ((Shd.ownsErr l key many) == v)) rfl rfl) rfl rfl rfl ?_
          exact o_sub (Sub.cons rfl (Sub.skip rfl (Sub.skip rfl (Sub.skip rfl (Sub.skip rfl (Sub.skip rfl (Sub.refl _))))))) hk
        · intro hb30 hk
          refine o_guard_no rfl 125 rfl rfl rfl rfl rfl ?_
          refine o_guard_no rfl 125 rfl rfl rfl rfl rfl ?_
          refine o_guard_no rfl 125 rfl rfl rfl rfl rfl ?_
          refine o_pure (p_pick_false (v := .bool false) rfl rfl) rfl rfl rfl ?_
          exact o_sub (Sub.cons rfl (Sub.skip rfl (Sub.skip rfl (Sub.skip rfl (Sub.skip rfl (Sub.skip rfl (Sub.refl _))))))) hk
        refine o_pure (p_assign (v := .bool ((((((Shd.check l) == (Shd.check l)) && ((Shd.owner l key) == best)) && ((Shd.ownErr l key) == (Shd.ownErr l key))) && (Ref.sameInts (Shd.owners l key many) owners)) && ((Shd.ownsErr l key many) == v))) rfl) rfl rfl rfl ?_
        refine o_nil ?_
        refine q_then ?_
        refine c_ret ?_
        have hr0 : (((((((Shd.check l) == (Shd.check l)) && ((Shd.owner l key) == best)) && ((Shd.ownErr l key) == (Shd.ownErr l key))) && (Ref.sameInts (Shd.owners l key many) owners)) && ((Shd.ownsErr l key many) == v)) : Bool) = true := by
          obtain ⟨rfl, rfl, rfl⟩ := hj1; simp [Ref.sameInts]
        refine q_end0 (v := .bool ((((((Shd.check l) == (Shd.check l)) && ((Shd.owner l key) == best)) && ((Shd.ownErr l key) == (Shd.ownErr l key))) && (Ref.sameInts (Shd.owners l key many) owners)) && ((Shd.ownsErr l key many) == v))) (rt1 rfl (r_tmp rfl)) (i := 2) rfl ?_
        exact (by have hcc := congrArg (fun (y0 : Bool) => (.bool y0 : Value)) hr0; exact hcc)
    · simp only [Bool.and_eq_false_iff, beq_eq_false_iff_ne, ne_eq, decide_eq_false_iff_not, Int.not_lt] at hc24
      refine c_skip ?_
      refine q_then ?_
      refine c_seq ?_
      refine c_seq ?_
      refine c_region ?_
      refine o_pure (p_move (v := .int .i64 (Shd.one (l.getD at_.toNat default))) rfl) rfl rfl rfl ?_
      refine o_pure (p_eq (p := (Shd.one (l.getD at_.toNat default))) (q := 0) rfl rfl) rfl rfl rfl ?_
      refine o_nil ?_
      refine q_then ?_
      refine c_cond (b := ((Shd.one (l.getD at_.toNat default)) == 0)) rfl (fun hc31 => ?_) (fun hc31 => ?_)
      · simp only [beq_iff_eq] at hc31
        refine c_region ?_
        refine o_pure (p_move (v := .slice al l.length cl) rfl) rfl rfl rfl ?_
        refine o_pure (p_move (v := .int .i64 at_) rfl) rfl rfl rfl ?_
        refine o_pure (p_indexAddr (L := l) (T := tShard) (i := at_) rfl rfl (rd_base (i := 2) rfl hl) Try.underlying43 sz50 (by omega) (by omega)) rfl rfl rfl ?_
        refine o_pure (p_loadEn (i := at_.toNat) (T := tShard) (L := l) (vs := [.string ((l.getD at_.toNat default).name), .int .i64 ((l.getD at_.toNat default).weight)]) rfl (rd_base (i := 2) rfl hl) (by first | assumption | omega) sh50 (congrArg tShard.enc (getd_at (by first | assumption | omega) default))) rfl rfl rfl ?_
        refine o_pure (p_move (v := .string key) rfl) rfl rfl rfl ?_
        refine o_call0 (v := .int .u64 ((Shd.score (l.getD at_.toNat default) (Hash.raw key)).toNat : Int)) rfl (shardScore_ok (l.getD at_.toNat default) key (by first | assumption | (have h9 := Shd.one_ok.1 (by assumption); omega) | (have h9 := hy1.1.getd (i := i) (by omega); omega) | (have h9 := hy1.1.getd (i := best.toNat) (by omega); omega) | (have h9 := Shd.one_ok.1 (And.left (by assumption)); omega)) (by first | assumption | omega | exact hy1.2.1)) hf37 (fun _ _ => trivial) rfl ?_
        refine o_pure (p_assign (v := .int .u64 ((Shd.score (l.getD at_.toNat default) (Hash.raw key)).toNat : Int)) rfl) rfl rfl rfl ?_
        refine o_nil ?_
        refine q_then ?_
        refine c_seq ?_
        refine c_region ?_
        refine o_pure (p_move (v := .int .u64 ((Shd.scoreR (l.getD at_.toNat default) key).toNat : Int)) rfl) rfl rfl rfl ?_
        refine o_pure (p_move (v := .int .u64 ((Shd.score (l.getD at_.toNat default) (Hash.raw key)).toNat : Int)) rfl) rfl rfl rfl ?_
        refine o_pure (pu_ne (p := (Shd.scoreR (l.getD at_.toNat default) key)) (q := (Shd.score (l.getD at_.toNat default) (Hash.raw key))) rfl rfl) rfl rfl rfl ?_
        refine o_pure (p_move (v := .bool ((Shd.scoreR (l.getD at_.toNat default) key) != (Shd.score (l.getD at_.toNat default) (Hash.raw key)))) rfl) rfl rfl rfl ?_
        refine o_or (p := 101) 4 ((Shd.scoreErr (l.getD at_.toNat default) key) != (Shd.one (l.getD at_.toNat default))) ?_ ?_ ?_
        · intro hb32 hk
          simp only [bne_eq_false_iff_eq] at hb32
          refine o_unguard 97 rfl rfl ?_
          refine o_pure (p_move (v := .int .i64 (Shd.scoreErr (l.getD at_.toNat default) key)) rfl) rfl rfl rfl ?_
          refine o_unguard 97 rfl rfl ?_
          refine o_pure (p_move (v := .int .i64 (Shd.one (l.getD at_.toNat default))) rfl) rfl rfl rfl ?_
          refine o_unguard 97 rfl rfl ?_
          refine o_pure (p_ne (p := (Shd.scoreErr (l.getD at_.toNat default) key)) (q := (Shd.one (l.getD at_.toNat default))) rfl rfl) rfl rfl rfl ?_
          refine o_pure (p_pick_false (v := .bool ((Shd.scoreErr (l.getD at_.toNat default) key) != (Shd.one (l.getD at_.toNat default)))) rfl rfl) rfl rfl rfl ?_
          exact o_sub (Sub.cons rfl (Sub.skip rfl (Sub.skip rfl (Sub.skip rfl (Sub.skip rfl (Sub.skip rfl (Sub.refl _))))))) hk
        · intro hb32 hk
          refine o_guard_no rfl 97 rfl rfl rfl rfl rfl ?_
          refine o_guard_no rfl 97 rfl rfl rfl rfl rfl ?_
          refine o_guard_no rfl 97 rfl rfl rfl rfl rfl ?_
          refine o_pure (p_pick_true (u := .bool true) rfl rfl) rfl rfl rfl ?_
          exact o_sub (Sub.cons rfl (Sub.skip rfl (Sub.skip rfl (Sub.skip rfl (Sub.skip rfl (Sub.skip rfl (Sub.refl _))))))) hk
        refine o_nil ?_
        refine q_then ?_
        refine c_cond (b := (((Shd.scoreR (l.getD at_.toNat default) key) != (Shd.score (l.getD at_.toNat default) (Hash.raw key))) || ((Shd.scoreErr (l.getD at_.toNat default) key) != (Shd.one (l.getD at_.toNat default))))) rfl (fun hc33 => ?_) (fun hc33 => ?_)
        · simp only [Bool.or_eq_true, bne_iff_ne, ne_eq] at hc33
          exfalso; have hbad := hc33
          rcases Shd.sc_cases (l.getD at_.toNat default) key with ⟨c1, c2, c3⟩ | ⟨c1, c4, c2, c3⟩ | ⟨c1, c4, c2, c3⟩ <;> first | (exfalso; omega) | (simp only [c2, c3] at hbad; simp_all; done) | (rw [c2, c3] at hbad; rcases hbad with h9 | h9 <;> first | exact h9 rfl | omega)
        · simp only [Bool.or_eq_false_iff, bne_eq_false_iff_eq] at hc33
          refine c_skip ?_
          refine q_then ?_
          refine c_seq ?_
          refine c_region ?_
          refine o_call0 (v := .bool true) rfl (shardBegun_ok ) hf30 (fun _ _ => trivial) rfl ?_
          refine o_pure (p_move (v := .bool true) rfl) rfl rfl rfl ?_
          refine o_unguard 103 rfl rfl ?_
          refine o_pure (p_move (v := .slice al l.length cl) rfl) rfl rfl rfl ?_
          refine o_unguard 103 rfl rfl ?_
          refine o_call0 (v := .int .i64 (Shd.check l)) rfl (scheck_ok l al cl) hf38 (fun w hw => (rd_base (i := 2) rfl hl) w hw) rfl ?_
          refine o_unguard 103 rfl rfl ?_
          refine o_pure (p_move (v := .slice al l.length cl) rfl) rfl rfl rfl ?_
          refine o_unguard 103 rfl rfl ?_
          refine o_call0 (v := .int .i64 (Shd.check l)) rfl (shardCheck_ok l al cl) hf39 (fun w hw => (rd_base (i := 2) rfl hl) w hw) rfl ?_
          refine o_unguard 103 rfl rfl ?_
          refine o_pure (p_eq (p := (Shd.check l)) (q := (Shd.check l)) rfl rfl) rfl rfl rfl ?_
          refine o_pure (p_pick_true (u := .bool ((Shd.check l) == (Shd.check l))) rfl rfl) rfl rfl rfl ?_
          refine o_pure (p_move (v := .bool ((Shd.check l) == (Shd.check l))) rfl) rfl rfl rfl ?_
          refine o_and (p := 114) 4 ((Shd.owner l key) == best) ?_ ?_ ?_
          · intro hb34 hk
            simp only [beq_iff_eq] at hb34
            refine o_unguard 110 rfl rfl ?_
            refine o_pure (p_move (v := .int .i64 (Shd.owner l key)) rfl) rfl rfl rfl ?_
            refine o_unguard 110 rfl rfl ?_
            refine o_pure (p_move (v := .int .i64 best) rfl) rfl rfl rfl ?_
            refine o_unguard 110 rfl rfl ?_
            refine o_pure (p_eq (p := (Shd.owner l key)) (q := best) rfl rfl) rfl rfl rfl ?_
            refine o_pure (p_pick_true (u := .bool ((Shd.owner l key) == best)) rfl rfl) rfl rfl rfl ?_
            exact o_sub (Sub.cons rfl (Sub.skip rfl (Sub.skip rfl (Sub.skip rfl (Sub.skip rfl (Sub.skip rfl (Sub.refl _))))))) hk
          · intro hb34 hk
            refine o_guard_no rfl 110 rfl rfl rfl rfl rfl ?_
            refine o_guard_no rfl 110 rfl rfl rfl rfl rfl ?_
            refine o_guard_no rfl 110 rfl rfl rfl rfl rfl ?_
            refine o_pure (p_pick_false (v := .bool false) rfl rfl) rfl rfl rfl ?_
            exact o_sub (Sub.cons rfl (Sub.skip rfl (Sub.skip rfl (Sub.skip rfl (Sub.skip rfl (Sub.skip rfl (Sub.refl _))))))) hk
          refine o_pure (p_move (v := .bool (((Shd.check l) == (Shd.check l)) && ((Shd.owner l key) == best))) rfl) rfl rfl rfl ?_
          refine o_and (p := 119) 4 ((Shd.ownErr l key) == (Shd.ownErr l key)) ?_ ?_ ?_
          · intro hb35 hk
            simp only [Bool.and_eq_true, beq_iff_eq] at hb35
            refine o_unguard 115 rfl rfl ?_
            refine o_pure (p_move (v := .int .i64 (Shd.ownErr l key)) rfl) rfl rfl rfl ?_
            refine o_unguard 115 rfl rfl ?_
            refine o_pure (p_move (v := .int .i64 (Shd.ownErr l key)) rfl) rfl rfl rfl ?_
            refine o_unguard 115 rfl rfl ?_
            refine o_pure (p_eq (p := (Shd.ownErr l key)) (q := (Shd.ownErr l key)) rfl rfl) rfl rfl rfl ?_
            refine o_pure (p_pick_true (u := .bool ((Shd.ownErr l key) == (Shd.ownErr l key))) rfl rfl) rfl rfl rfl ?_
            exact o_sub (Sub.cons rfl (Sub.skip rfl (Sub.skip rfl (Sub.skip rfl (Sub.skip rfl (Sub.skip rfl (Sub.refl _))))))) hk
          · intro hb35 hk
            refine o_guard_no rfl 115 rfl rfl rfl rfl rfl ?_
            refine o_guard_no rfl 115 rfl rfl rfl rfl rfl ?_
            refine o_guard_no rfl 115 rfl rfl rfl rfl rfl ?_
            refine o_pure (p_pick_false (v := .bool false) rfl rfl) rfl rfl rfl ?_
            exact o_sub (Sub.cons rfl (Sub.skip rfl (Sub.skip rfl (Sub.skip rfl (Sub.skip rfl (Sub.skip rfl (Sub.refl _))))))) hk
          refine o_pure (p_move (v := .bool ((((Shd.check l) == (Shd.check l)) && ((Shd.owner l key) == best)) && ((Shd.ownErr l key) == (Shd.ownErr l key)))) rfl) rfl rfl rfl ?_
          refine o_and (p := 124) 4 (Ref.sameInts (Shd.owners l key many) owners) ?_ ?_ ?_
          · intro hb36 hk
            simp only [Bool.and_eq_true, beq_iff_eq] at hb36
            refine o_unguard 120 rfl rfl ?_
            refine o_pure (p_move (v := .slice a3 (Shd.owners l key many).length c4) rfl) rfl rfl rfl ?_
            refine o_unguard 120 rfl rfl ?_
            refine o_pure (p_move (v := .slice aowners owners.length cowners) rfl) rfl rfl rfl ?_
            refine o_unguard 120 rfl rfl ?_
            refine o_call0 (v := .bool (Ref.sameInts (Shd.owners l key many) owners)) rfl (sameInts_ok (Shd.owners l key many) a3 c4 owners aowners cowners) hf31 (fun w hw => ⟨(rd_own (i := 1) rfl) w hw, (rd_loose (i := 0) rfl (fun hφ => hφ.elim)) w hw⟩) rfl ?_
            refine o_pure (p_pick_true (u := .bool (Ref.sameInts (Shd.owners l key many) owners)) rfl rfl) rfl rfl rfl ?_
            exact o_sub (Sub.cons rfl (Sub.skip rfl (Sub.skip rfl (Sub.skip rfl (Sub.skip rfl (Sub.skip rfl (Sub.refl _))))))) hk
          · intro hb36 hk
            refine o_guard_no rfl 120 rfl rfl rfl rfl rfl ?_
            refine o_guard_no rfl 120 rfl rfl rfl rfl rfl ?_
            refine o_guard_no rfl 120 rfl rfl rfl rfl rfl ?_
            refine o_pure (p_pick_false (v := .bool false) rfl rfl) rfl rfl rfl ?_
            exact o_sub (Sub.cons rfl (Sub.skip rfl (Sub.skip rfl (Sub.skip rfl (Sub.skip rfl (Sub.skip rfl (Sub.refl _))))))) hk
          refine o_pure (p_move (v := .bool (((((Shd.check l) == (Shd.check l)) && ((Shd.owner l key) == best)) && ((Shd.ownErr l key) == (Shd.ownErr l key))) && (Ref.sameInts (Shd.owners l key many) owners))) rfl) rfl rfl rfl ?_
          refine o_and (p := 129) 4 ((Shd.ownsErr l key many) == v) ?_ ?_ ?_
          · intro hb37 hk
            simp only [Bool.and_eq_true, beq_iff_eq] at hb37
            refine o_unguard 125 rfl rfl ?_
            refine o_pure (p_move (v := .int .i64 (Shd.ownsErr l key many)) rfl) rfl rfl rfl ?_
            refine o_unguard 125 rfl rfl ?_
            refine o_pure (p_move (v := .int .i64 v) rfl) rfl rfl rfl ?_
            refine o_unguard 125 rfl rfl ?_
            refine o_pure (p_eq (p := (Shd.ownsErr l key many)) (q := v) rfl rfl) rfl rfl rfl ?_
            refine o_pure (p_pick_true (u := .bool ((Shd.ownsErr l key many) == v)) rfl rfl) rfl rfl rfl ?_
            exact o_sub (Sub.cons rfl (Sub.skip rfl (Sub.skip rfl (Sub.skip rfl (Sub.skip rfl (Sub.skip rfl (Sub.refl _))))))) hk
          · intro hb37 hk
            refine o_guard_no rfl 125 rfl rfl rfl rfl rfl ?_
            refine o_guard_no rfl 125 rfl rfl rfl rfl rfl ?_
            refine o_guard_no rfl 125 rfl rfl rfl rfl rfl ?_
            refine o_pure (p_pick_false (v := .bool false) rfl rfl) rfl rfl rfl ?_
            exact o_sub (Sub.cons rfl (Sub.skip rfl (Sub.skip rfl (Sub.skip rfl (Sub.skip rfl (Sub.skip rfl (Sub.refl _))))))) hk
          refine o_pure (p_assign (v := .bool ((((((Shd.check l) == (Shd.check l)) && ((Shd.owner l key) == best)) && ((Shd.ownErr l key) == (Shd.ownErr l key))) && (Ref.sameInts (Shd.owners l key many) owners)) && ((Shd.ownsErr l key many) == v))) rfl) rfl rfl rfl ?_
          refine o_nil ?_
          refine q_then ?_
          refine c_ret ?_
          have hr0 : (((((((Shd.check l) == (Shd.check l)) && ((Shd.owner l key) == best)) && ((Shd.ownErr l key) == (Shd.ownErr l key))) && (Ref.sameInts (Shd.owners l key many) owners)) && ((Shd.ownsErr l key many) == v)) : Bool) = true := by
            obtain ⟨rfl, rfl, rfl⟩ := hj1; simp [Ref.sameInts]
          refine q_end0 (v := .bool ((((((Shd.check l) == (Shd.check l)) && ((Shd.owner l key) == best)) && ((Shd.ownErr l key) == (Shd.ownErr l key))) && (Ref.sameInts (Shd.owners l key many) owners)) && ((Shd.ownsErr l key many) == v))) (rt1 rfl (r_tmp rfl)) (i := 2) rfl ?_
          exact (by have hcc := congrArg (fun (y0 : Bool) => (.bool y0 : Value)) hr0; exact hcc)
      · simp only [beq_eq_false_iff_ne, ne_eq] at hc31
        refine c_skip ?_
        refine q_then ?_
        refine c_seq ?_
        refine c_region ?_
        refine o_pure (p_move (v := .int .u64 ((Shd.scoreR (l.getD at_.toNat default) key).toNat : Int)) rfl) rfl rfl rfl ?_
        refine o_pure (p_move (v := .int .u64 ((0 : UInt64).toNat : Int)) rfl) rfl rfl rfl ?_
        refine o_pure (pu_ne (p := (Shd.scoreR (l.getD at_.toNat default) key)) (q := (0 : UInt64)) rfl rfl) rfl rfl rfl ?_
        refine o_pure (p_move (v := .bool ((Shd.scoreR (l.getD at_.toNat default) key) != (0 : UInt64))) rfl) rfl rfl rfl ?_
        refine o_or (p := 101) 4 ((Shd.scoreErr (l.getD at_.toNat default) key) != (Shd.one (l.getD at_.toNat default))) ?_ ?_ ?_
        · intro hb38 hk
          simp only [bne_eq_false_iff_eq] at hb38
          refine o_unguard 97 rfl rfl ?_
          refine o_pure (p_move (v := .int .i64 (Shd.scoreErr (l.getD at_.toNat default) key)) rfl) rfl rfl rfl ?_
          refine o_unguard 97 rfl rfl ?_
          refine o_pure (p_move (v := .int .i64 (Shd.one (l.getD at_.toNat default))) rfl) rfl rfl rfl ?_
          refine o_unguard 97 rfl rfl ?_
          refine o_pure (p_ne (p := (Shd.scoreErr (l.getD at_.toNat default) key)) (q := (Shd.one (l.getD at_.toNat default))) rfl rfl) rfl rfl rfl ?_
          refine o_pure (p_pick_false (v := .bool ((Shd.scoreErr (l.getD at_.toNat default) key) != (Shd.one (l.getD at_.toNat default)))) rfl rfl) rfl rfl rfl ?_
          exact o_sub (Sub.cons rfl (Sub.skip rfl (Sub.skip rfl (Sub.skip rfl (Sub.skip rfl (Sub.skip rfl (Sub.refl _))))))) hk
        · intro hb38 hk
          refine o_guard_no rfl 97 rfl rfl rfl rfl rfl ?_
          refine o_guard_no rfl 97 rfl rfl rfl rfl rfl ?_
          refine o_guard_no rfl 97 rfl rfl rfl rfl rfl ?_
          refine o_pure (p_pick_true (u := .bool true) rfl rfl) rfl rfl rfl ?_
          exact o_sub (Sub.cons rfl (Sub.skip rfl (Sub.skip rfl (Sub.skip rfl (Sub.skip rfl (Sub.skip rfl (Sub.refl _))))))) hk
        refine o_nil ?_
        refine q_then ?_
        refine c_cond (b := (((Shd.scoreR (l.getD at_.toNat default) key) != (0 : UInt64)) || ((Shd.scoreErr (l.getD at_.toNat default) key) != (Shd.one (l.getD at_.toNat default))))) rfl (fun hc39 => ?_) (fun hc39 => ?_)
        · simp only [Bool.or_eq_true, bne_iff_ne, ne_eq] at hc39
          exfalso; have hbad := hc39
          rcases Shd.sc_cases (l.getD at_.toNat default) key with ⟨c1, c2, c3⟩ | ⟨c1, c4, c2, c3⟩ | ⟨c1, c4, c2, c3⟩ <;> first | (exfalso; omega) | (simp only [c2, c3] at hbad; simp_all; done) | (rw [c2, c3] at hbad; rcases hbad with h9 | h9 <;> first | exact h9 rfl | omega)
        · simp only [Bool.or_eq_false_iff, bne_eq_false_iff_eq] at hc39
          refine c_skip ?_
          refine q_then ?_
          refine c_seq ?_
          refine c_region ?_
          refine o_call0 (v := .bool true) rfl (shardBegun_ok ) hf30 (fun _ _ => trivial) rfl ?_
          refine o_pure (p_move (v := .bool true) rfl) rfl rfl rfl ?_
          refine o_unguard 103 rfl rfl ?_
          refine o_pure (p_move (v := .slice al l.length cl) rfl) rfl rfl rfl ?_
          refine o_unguard 103 rfl rfl ?_
          refine o_call0 (v := .int .i64 (Shd.check l)) rfl (scheck_ok l al cl) hf38 (fun w hw => (rd_base (i := 2) rfl hl) w hw) rfl ?_
          refine o_unguard 103 rfl rfl ?_
          refine o_pure (p_move (v := .slice al l.length cl) rfl) rfl rfl rfl ?_
          refine o_unguard 103 rfl rfl ?_
          refine o_call0 (v := .int .i64 (Shd.check l)) rfl (shardCheck_ok l al cl) hf39 (fun w hw => (rd_base (i := 2) rfl hl) w hw) rfl ?_
          refine o_unguard 103 rfl rfl ?_
          refine o_pure (p_eq (p := (Shd.check l)) (q := (Shd.check l)) rfl rfl) rfl rfl rfl ?_
          refine o_pure (p_pick_true (u := .bool ((Shd.check l) == (Shd.check l))) rfl rfl) rfl rfl rfl ?_
          refine o_pure (p_move (v := .bool ((Shd.check l) == (Shd.check l))) rfl) rfl rfl rfl ?_
          refine o_and (p := 114) 4 ((Shd.owner l key) == best) ?_ ?_ ?_
          · intro hb40 hk
            simp only [beq_iff_eq] at hb40
            refine o_unguard 110 rfl rfl ?_
            refine o_pure (p_move (v := .int .i64 (Shd.owner l key)) rfl) rfl rfl rfl ?_
            refine o_unguard 110 rfl rfl ?_
            refine o_pure (p_move (v := .int .i64 best) rfl) rfl rfl rfl ?_
            refine o_unguard 110 rfl rfl ?_
            refine o_pure (p_eq (p := (Shd.owner l key)) (q := best) rfl rfl) rfl rfl rfl ?_
            refine o_pure (p_pick_true (u := .bool ((Shd.owner l key) == best)) rfl rfl) rfl rfl rfl ?_
            exact o_sub (Sub.cons rfl (Sub.skip rfl (Sub.skip rfl (Sub.skip rfl (Sub.skip rfl (Sub.skip rfl (Sub.refl _))))))) hk
          · intro hb40 hk
            refine o_guard_no rfl 110 rfl rfl rfl rfl rfl ?_
            refine o_guard_no rfl 110 rfl rfl rfl rfl rfl ?_
            refine o_guard_no rfl 110 rfl rfl rfl rfl rfl ?_
            refine o_pure (p_pick_false (v := .bool false) rfl rfl) rfl rfl rfl ?_
            exact o_sub (Sub.cons rfl (Sub.skip rfl (Sub.skip rfl (Sub.skip rfl (Sub.skip rfl (Sub.skip rfl (Sub.refl _))))))) hk
          refine o_pure (p_move (v := .bool (((Shd.check l) == (Shd.check l)) && ((Shd.owner l key) == best))) rfl) rfl rfl rfl ?_
          refine o_and (p := 119) 4 ((Shd.ownErr l key) == (Shd.ownErr l key)) ?_ ?_ ?_
          · intro hb41 hk
            simp only [Bool.and_eq_true, beq_iff_eq] at hb41
            refine o_unguard 115 rfl rfl ?_
            refine o_pure (p_move (v := .int .i64 (Shd.ownErr l key)) rfl) rfl rfl rfl ?_
            refine o_unguard 115 rfl rfl ?_
            refine o_pure (p_move (v := .int .i64 (Shd.ownErr l key)) rfl) rfl rfl rfl ?_
            refine o_unguard 115 rfl rfl ?_
            refine o_pure (p_eq (p := (Shd.ownErr l key)) (q := (Shd.ownErr l key)) rfl rfl) rfl rfl rfl ?_
            refine o_pure (p_pick_true (u := .bool ((Shd.ownErr l key) == (Shd.ownErr l key))) rfl rfl) rfl rfl rfl ?_
            exact o_sub (Sub.cons rfl (Sub.skip rfl (Sub.skip rfl (Sub.skip rfl (Sub.skip rfl (Sub.skip rfl (Sub.refl _))))))) hk
          · intro hb41 hk
            refine o_guard_no rfl 115 rfl rfl rfl rfl rfl ?_
            refine o_guard_no rfl 115 rfl rfl rfl rfl rfl ?_
            refine o_guard_no rfl 115 rfl rfl rfl rfl rfl ?_
            refine o_pure (p_pick_false (v := .bool false) rfl rfl) rfl rfl rfl ?_
            exact o_sub (Sub.cons rfl (Sub.skip rfl (Sub.skip rfl (Sub.skip rfl (Sub.skip rfl (Sub.skip rfl (Sub.refl _))))))) hk
          refine o_pure (p_move (v := .bool ((((Shd.check l) == (Shd.check l)) && ((Shd.owner l key) == best)) && ((Shd.ownErr l key) == (Shd.ownErr l key)))) rfl) rfl rfl rfl ?_
          refine o_and (p := 124) 4 (Ref.sameInts (Shd.owners l key many) owners) ?_ ?_ ?_
          · intro hb42 hk
            simp only [Bool.and_eq_true, beq_iff_eq] at hb42
            refine o_unguard 120 rfl rfl ?_
            refine o_pure (p_move (v := .slice a3 (Shd.owners l key many).length c4) rfl) rfl rfl rfl ?_
            refine o_unguard 120 rfl rfl ?_
            refine o_pure (p_move (v := .slice aowners owners.length cowners) rfl) rfl rfl rfl ?_
            refine o_unguard 120 rfl rfl ?_
            refine o_call0 (v := .bool (Ref.sameInts (Shd.owners l key many) owners)) rfl (sameInts_ok (Shd.owners l key many) a3 c4 owners aowners cowners) hf31 (fun w hw => ⟨(rd_own (i := 1) rfl) w hw, (rd_loose (i := 0) rfl (fun hφ => hφ.elim)) w hw⟩) rfl ?_
            refine o_pure (p_pick_true (u := .bool (Ref.sameInts (Shd.owners l key many) owners)) rfl rfl) rfl rfl rfl ?_
            exact o_sub (Sub.cons rfl (Sub.skip rfl (Sub.skip rfl (Sub.skip rfl (Sub.skip rfl (Sub.skip rfl (Sub.refl _))))))) hk
          · intro hb42 hk
            refine o_guard_no rfl 120 rfl rfl rfl rfl rfl ?_
            refine o_guard_no rfl 120 rfl rfl rfl rfl rfl ?_
            refine o_guard_no rfl 120 rfl rfl rfl rfl rfl ?_
            refine o_pure (p_pick_false (v := .bool false) rfl rfl) rfl rfl rfl ?_
            exact o_sub (Sub.cons rfl (Sub.skip rfl (Sub.skip rfl (Sub.skip rfl (Sub.skip rfl (Sub.skip rfl (Sub.refl _))))))) hk
          refine o_pure (p_move (v := .bool (((((Shd.check l) == (Shd.check l)) && ((Shd.owner l key) == best)) && ((Shd.ownErr l key) == (Shd.ownErr l key))) && (Ref.sameInts (Shd.owners l key many) owners))) rfl) rfl rfl rfl ?_
          refine o_and (p := 129) 4 ((Shd.ownsErr l key many) == v) ?_ ?_ ?_
          · intro hb43 hk
            simp only [Bool.and_eq_true, beq_iff_eq] at hb43
            refine o_unguard 125 rfl rfl ?_
            refine o_pure (p_move (v := .int .i64 (Shd.ownsErr l key many)) rfl) rfl rfl rfl ?_
            refine o_unguard 125 rfl rfl ?_
            refine o_pure (p_move (v := .int .i64 v) rfl) rfl rfl rfl ?_
            refine o_unguard 125 rfl rfl ?_
            refine o_pure (p_eq (p := (Shd.ownsErr l key many)) (q := v) rfl rfl) rfl rfl rfl ?_
            refine o_pure (p_pick_true (u := .bool ((Shd.ownsErr l key many) == v)) rfl rfl) rfl rfl rfl ?_
            exact o_sub (Sub.cons rfl (Sub.skip rfl (Sub.skip rfl (Sub.skip rfl (Sub.skip rfl (Sub.skip rfl (Sub.refl _))))))) hk
          · intro hb43 hk
            refine o_guard_no rfl 125 rfl rfl rfl rfl rfl ?_
            refine o_guard_no rfl 125 rfl rfl rfl rfl rfl ?_
            refine o_guard_no rfl 125 rfl rfl rfl rfl rfl ?_
            refine o_pure (p_pick_false (v := .bool false) rfl rfl) rfl rfl rfl ?_
            exact o_sub (Sub.cons rfl (Sub.skip rfl (Sub.skip rfl (Sub.skip rfl (Sub.skip rfl (Sub.skip rfl (Sub.refl _))))))) hk
          refine o_pure (p_assign (v := .bool ((((((Shd.check l) == (Shd.check l)) && ((Shd.owner l key) == best)) && ((Shd.ownErr l key) == (Shd.ownErr l key))) && (Ref.sameInts (Shd.owners l key many) owners)) && ((Shd.ownsErr l key many) == v))) rfl) rfl rfl rfl ?_
          refine o_nil ?_
          refine q_then ?_
          refine c_ret ?_
          have hr0 : (((((((Shd.check l) == (Shd.check l)) && ((Shd.owner l key) == best)) && ((Shd.ownErr l key) == (Shd.ownErr l key))) && (Ref.sameInts (Shd.owners l key many) owners)) && ((Shd.ownsErr l key many) == v)) : Bool) = true := by
            obtain ⟨rfl, rfl, rfl⟩ := hj1; simp [Ref.sameInts]
          refine q_end0 (v := .bool ((((((Shd.check l) == (Shd.check l)) && ((Shd.owner l key) == best)) && ((Shd.ownErr l key) == (Shd.ownErr l key))) && (Ref.sameInts (Shd.owners l key many) owners)) && ((Shd.ownsErr l key many) == v))) (rt1 rfl (r_tmp rfl)) (i := 2) rfl ?_
          exact (by have hcc := congrArg (fun (y0 : Bool) => (.bool y0 : Value)) hr0; exact hcc)
  · simp only [Bool.and_eq_false_iff, decide_eq_false_iff_not, Int.not_le, Int.not_lt] at hc22
    refine c_skip ?_
    refine q_then ?_
    refine c_seq ?_
    refine c_region ?_
    refine o_call0 (v := .bool true) rfl (shardBegun_ok ) hf30 (fun _ _ => trivial) rfl ?_
    refine o_pure (p_move (v := .bool true) rfl) rfl rfl rfl ?_
    refine o_unguard 103 rfl rfl ?_
    refine o_pure (p_move (v := .slice al l.length cl) rfl) rfl rfl rfl ?_
    refine o_unguard 103 rfl rfl ?_
    refine o_call0 (v := .int .i64 (Shd.check l)) rfl (scheck_ok l al cl) hf38 (fun w hw => (rd_base (i := 2) rfl hl) w hw) rfl ?_
    refine o_unguard 103 rfl rfl ?_
    refine o_pure (p_move (v := .slice al l.length cl) rfl) rfl rfl rfl ?_
    refine o_unguard 103 rfl rfl ?_
    refine o_call0 (v := .int .i64 (Shd.check l)) rfl (shardCheck_ok l al cl) hf39 (fun w hw => (rd_base (i := 2) rfl hl) w hw) rfl ?_
    refine o_unguard 103 rfl rfl ?_
    refine o_pure (p_eq (p := (Shd.check l)) (q := (Shd.check l)) rfl rfl) rfl rfl rfl ?_
    refine o_pure (p_pick_true (u := .bool ((Shd.check l) == (Shd.check l))) rfl rfl) rfl rfl rfl ?_
    refine o_pure (p_move (v := .bool ((Shd.check l) == (Shd.check l))) rfl) rfl rfl rfl ?_
    refine o_and (p := 114) 4 ((Shd.owner l key) == best) ?_ ?_ ?_
    · intro hb44 hk
      simp only [beq_iff_eq] at hb44
      refine o_unguard 110 rfl rfl ?_
      refine o_pure (p_move (v := .int .i64 (Shd.owner l key)) rfl) rfl rfl rfl ?_
      refine o_unguard 110 rfl rfl ?_
      refine o_pure (p_move (v := .int .i64 best) rfl) rfl rfl rfl ?_
      refine o_unguard 110 rfl rfl ?_
      refine o_pure (p_eq (p := (Shd.owner l key)) (q := best) rfl rfl) rfl rfl rfl ?_
      refine o_pure (p_pick_true (u := .bool ((Shd.owner l key) == best)) rfl rfl) rfl rfl rfl ?_
      exact o_sub (Sub.cons rfl (Sub.skip rfl (Sub.skip rfl (Sub.skip rfl (Sub.skip rfl (Sub.skip rfl (Sub.refl _))))))) hk
    · intro hb44 hk
      refine o_guard_no rfl 110 rfl rfl rfl rfl rfl ?_
      refine o_guard_no rfl 110 rfl rfl rfl rfl rfl ?_
      refine o_guard_no rfl 110 rfl rfl rfl rfl rfl ?_
      refine o_pure (p_pick_false (v := .bool false) rfl rfl) rfl rfl rfl ?_
      exact o_sub (Sub.cons rfl (Sub.skip rfl (Sub.skip rfl (Sub.skip rfl (Sub.skip rfl (Sub.skip rfl (Sub.refl _))))))) hk
    refine o_pure (p_move (v := .bool (((Shd.check l) == (Shd.check l)) && ((Shd.owner l key) == best))) rfl) rfl rfl rfl ?_
    refine o_and (p := 119) 4 ((Shd.ownErr l key) == (Shd.ownErr l key)) ?_ ?_ ?_
    · intro hb45 hk
      simp only [Bool.and_eq_true, beq_iff_eq] at hb45
      refine o_unguard 115 rfl rfl ?_
      refine o_pure (p_move (v := .int .i64 (Shd.ownErr l key)) rfl) rfl rfl rfl ?_
      refine o_unguard 115 rfl rfl ?_
      refine o_pure (p_move (v := .int .i64 (Shd.ownErr l key)) rfl) rfl rfl rfl ?_
      refine o_unguard 115 rfl rfl ?_
      refine o_pure (p_eq (p := (Shd.ownErr l key)) (q := (Shd.ownErr l key)) rfl rfl) rfl rfl rfl ?_
      refine o_pure (p_pick_true (u := .bool ((Shd.ownErr l key) == (Shd.ownErr l key))) rfl rfl) rfl rfl rfl ?_
      exact o_sub (Sub.cons rfl (Sub.skip rfl (Sub.skip rfl (Sub.skip rfl (Sub.skip rfl (Sub.skip rfl (Sub.refl _))))))) hk
    · intro hb45 hk
      refine o_guard_no rfl 115 rfl rfl rfl rfl rfl ?_
      refine o_guard_no rfl 115 rfl rfl rfl rfl rfl ?_
      refine o_guard_no rfl 115 rfl rfl rfl rfl rfl ?_
      refine o_pure (p_pick_false (v := .bool false) rfl rfl) rfl rfl rfl ?_
      exact o_sub (Sub.cons rfl (Sub.skip rfl (Sub.skip rfl (Sub.skip rfl (Sub.skip rfl (Sub.skip rfl (Sub.refl _))))))) hk
    refine o_pure (p_move (v := .bool ((((Shd.check l) == (Shd.check l)) && ((Shd.owner l key) == best)) && ((Shd.ownErr l key) == (Shd.ownErr l key)))) rfl) rfl rfl rfl ?_
    refine o_and (p := 124) 4 (Ref.sameInts (Shd.owners l key many) owners) ?_ ?_ ?_
    · intro hb46 hk
      simp only [Bool.and_eq_true, beq_iff_eq] at hb46
      refine o_unguard 120 rfl rfl ?_
      refine o_pure (p_move (v := .slice a3 (Shd.owners l key many).length c4) rfl) rfl rfl rfl ?_
      refine o_unguard 120 rfl rfl ?_
      refine o_pure (p_move (v := .slice aowners owners.length cowners) rfl) rfl rfl rfl ?_
      refine o_unguard 120 rfl rfl ?_
      refine o_call0 (v := .bool (Ref.sameInts (Shd.owners l key many) owners)) rfl (sameInts_ok (Shd.owners l key many) a3 c4 owners aowners cowners) hf31 (fun w hw => ⟨(rd_own (i := 1) rfl) w hw, (rd_loose (i := 0) rfl (fun hφ => hφ.elim)) w hw⟩) rfl ?_
      refine o_pure (p_pick_true (u := .bool (Ref.sameInts (Shd.owners l key many) owners)) rfl rfl) rfl rfl rfl ?_
      exact o_sub (Sub.cons rfl (Sub.skip rfl (Sub.skip rfl (Sub.skip rfl (Sub.skip rfl (Sub.skip rfl (Sub.refl _))))))) hk
    · intro hb46 hk
      refine o_guard_no rfl 120 rfl rfl rfl rfl rfl ?_
      refine o_guard_no rfl 120 rfl rfl rfl rfl rfl ?_
      refine o_guard_no rfl 120 rfl rfl rfl rfl rfl ?_
      refine o_pure (p_pick_false (v := .bool false) rfl rfl) rfl rfl rfl ?_
      exact o_sub (Sub.cons rfl (Sub.skip rfl (Sub.skip rfl (Sub.skip rfl (Sub.skip rfl (Sub.skip rfl (Sub.refl _))))))) hk
    refine o_pure (p_move (v := .bool (((((Shd.check l) == (Shd.check l)) && ((Shd.owner l key) == best)) && ((Shd.ownErr l key) == (Shd.ownErr l key))) && (Ref.sameInts (Shd.owners l key many) owners))) rfl) rfl rfl rfl ?_
    refine o_and (p := 129) 4 ((Shd.ownsErr l key many) == v) ?_ ?_ ?_
    · intro hb47 hk
      simp only [Bool.and_eq_true, beq_iff_eq] at hb47
      refine o_unguard 125 rfl rfl ?_
      refine o_pure (p_move (v := .int .i64 (Shd.ownsErr l key many)) rfl) rfl rfl rfl ?_
      refine o_unguard 125 rfl rfl ?_
      refine o_pure (p_move (v := .int .i64 v) rfl) rfl rfl rfl ?_
      refine o_unguard 125 rfl rfl ?_
      refine o_pure (p_eq (p := (Shd.ownsErr l key many)) (q := v) rfl rfl) rfl rfl rfl ?_
      refine o_pure (p_pick_true (u := .bool ((Shd.ownsErr l key many) == v)) rfl rfl) rfl rfl rfl ?_
      exact o_sub (Sub.cons rfl (Sub.skip rfl (Sub.skip rfl (Sub.skip rfl (Sub.skip rfl (Sub.skip rfl (Sub.refl _))))))) hk
    · intro hb47 hk
      refine o_guard_no rfl 125 rfl rfl rfl rfl rfl ?_
      refine o_guard_no rfl 125 rfl rfl rfl rfl rfl ?_
      refine o_guard_no rfl 125 rfl rfl rfl rfl rfl ?_
      refine o_pure (p_pick_false (v := .bool false) rfl rfl) rfl rfl rfl ?_
      exact o_sub (Sub.cons rfl (Sub.skip rfl (Sub.skip rfl (Sub.skip rfl (Sub.skip rfl (Sub.skip rfl (Sub.refl _))))))) hk
    refine o_pure (p_assign (v := .bool ((((((Shd.check l) == (Shd.check l)) && ((Shd.owner l key) == best)) && ((Shd.ownErr l key) == (Shd.ownErr l key))) && (Ref.sameInts (Shd.owners l key many) owners)) && ((Shd.ownsErr l key many) == v))) rfl) rfl rfl rfl ?_
    refine o_nil ?_
    refine q_then ?_
    refine c_ret ?_
    have hr0 : (((((((Shd.check l) == (Shd.check l)) && ((Shd.owner l key) == best)) && ((Shd.ownErr l key) == (Shd.ownErr l key))) && (Ref.sameInts (Shd.owners l key many) owners)) && ((Shd.ownsErr l key many) == v)) : Bool) = true := by
      obtain ⟨rfl, rfl, rfl⟩ := hj1; simp [Ref.sameInts]
    refine q_end0 (v := .bool ((((((Shd.check l) == (Shd.check l)) && ((Shd.owner l key) == best)) && ((Shd.ownErr l key) == (Shd.ownErr l key))) && (Ref.sameInts (Shd.owners l key many) owners)) && ((Shd.ownsErr l key many) == v))) (rt1 rfl (r_tmp rfl)) (i := 2) rfl ?_
    exact (by have hcc := congrArg (fun (y0 : Bool) => (.bool y0 : Value)) hr0; exact hcc)
end Go.Proofs.Ythecfjipaepcgaa
