/- The walks, printed by a program from the translation and a specification. -/
import Derived.Test.YthecfjipaepcgaaShF
import Derived.Test.YthecfjipaepcgaaShLaw
import Derived.Test.YthecfjipaepcgaaShLaw3
import Derived.Test.YthecfjipaepcgaaShW4
import Derived.Test.YthecfjipaepcgaaShW5
namespace Go.Proofs.Ythecfjipaepcgaa
open Go.Sx Go.RowKit
set_option maxHeartbeats 8000000 in
set_option maxRecDepth 100000 in
theorem shardWeight_ok (l : List DShard) (al : Option Addr) (cl : Nat) (at_ : Int) (keys : List ByteArray) (akeys : Option Addr) (ckeys : Nat) (hy1 : l.length ≤ 5864062014634) : Fn0 Try.prog 8 [.slice al l.length cl, .int .i64 at_, .slice akeys keys.length ckeys] (fun w => Rd tShard w al cl l ∧ Rd tStr w akeys ckeys keys) (.bool true) := by
  refine fn0 (nt := 87) (F0 := [(0, .slice al l.length cl), (1, .int .i64 at_), (2, .slice akeys keys.length ckeys)]) Try.func8 rfl Try.ntmps8 rfl rfl (fun w0 hpre => ?_)
  obtain ⟨hl, hkeys⟩ := hpre
  have hlhl := hl.2.1
  have hlhkeys := hkeys.2.1
  have hks : (keys.take (min (keys.length : Int) 40).toNat).length ≤ 40 := by simp only [List.length_take]; omega
  refine c_seq ?_
  refine c_region ?_
  refine o_pure (p_assign (v := .bool false) rfl) rfl rfl rfl ?_
  refine o_nil ?_
  refine q_then ?_
  refine c_seq ?_
  refine c_region ?_
  refine o_pure (p_move (v := .slice akeys keys.length ckeys) rfl) rfl rfl rfl ?_
  refine o_pure (p_move (v := .slice akeys keys.length ckeys) rfl) rfl rfl rfl ?_
  refine o_pure (p_len_slice (len := keys.length) rfl rfl Try.underlying44) rfl rfl rfl ?_
  refine o_pure (p_min (p := (keys.length : Int)) (q := 40) rfl rfl) rfl rfl rfl ?_
  refine o_pure (p_sliceH (L := keys) (T := tStr) (h := (min (keys.length : Int) 40)) rfl rfl Try.underlying44 sz9 (by omega) (by omega) (rd_base (i := 0) rfl hkeys)) rfl rfl rfl ?_
  refine o_pure (p_assign (v := .slice akeys (keys.take ((min (keys.length : Int) 40).toNat)).length ckeys) rfl) rfl rfl rfl ?_
  refine o_nil ?_
  refine q_then ?_
  refine c_seq ?_
  refine c_seq ?_
  refine c_region ?_
  refine o_call0 (v := .bool true) rfl (shardBegun_ok ) hf30 (fun _ _ => trivial) rfl ?_
  refine o_pure (p_not (b := true) rfl) rfl rfl rfl ?_
  refine o_nil ?_
  refine q_then ?_
  refine c_false rfl ?_
  refine c_skip ?_
  refine q_then ?_
  refine c_seq ?_
  refine c_seq ?_
  refine c_region ?_
  refine o_pure (p_move (v := .int .i64 at_) rfl) rfl rfl rfl ?_
  refine o_pure (p_lt (p := at_) (q := 0) rfl rfl) rfl rfl rfl ?_
  refine o_pure (p_move (v := .bool (decide (at_ < 0))) rfl) rfl rfl rfl ?_
  refine o_or (p := 27) 5 (decide ((l.length : Int) ≤ at_)) ?_ ?_ ?_
  · intro hb1 hk
    simp only [decide_eq_false_iff_not, Int.not_lt] at hb1
    refine o_unguard 22 rfl rfl ?_
    refine o_pure (p_move (v := .int .i64 at_) rfl) rfl rfl rfl ?_
    refine o_unguard 22 rfl rfl ?_
    refine o_pure (p_move (v := .slice al l.length cl) rfl) rfl rfl rfl ?_
    refine o_unguard 22 rfl rfl ?_
    refine o_pure (p_len_slice (len := l.length) rfl rfl Try.underlying43) rfl rfl rfl ?_
    refine o_unguard 22 rfl rfl ?_
    refine o_pure (p_ge (p := at_) (q := (l.length : Int)) rfl rfl) rfl rfl rfl ?_
    refine o_pure (p_pick_false (v := .bool (decide ((l.length : Int) ≤ at_))) rfl rfl) rfl rfl rfl ?_
    exact o_sub (Sub.cons rfl (Sub.skip rfl (Sub.skip rfl (Sub.skip rfl (Sub.skip rfl (Sub.skip rfl (Sub.skip rfl (Sub.refl _)))))))) hk
  · intro hb1 hk
    refine o_guard_no rfl 22 rfl rfl rfl rfl rfl ?_
    refine o_guard_no rfl 22 rfl rfl rfl rfl rfl ?_
    refine o_guard_no rfl 22 rfl rfl rfl rfl rfl ?_
    refine o_guard_no rfl 22 rfl rfl rfl rfl rfl ?_
    refine o_pure (p_pick_true (u := .bool true) rfl rfl) rfl rfl rfl ?_
    exact o_sub (Sub.cons rfl (Sub.skip rfl (Sub.skip rfl (Sub.skip rfl (Sub.skip rfl (Sub.skip rfl (Sub.skip rfl (Sub.refl _)))))))) hk
  refine o_nil ?_
  refine q_then ?_
  refine c_cond (b := (decide (at_ < 0) || decide ((l.length : Int) ≤ at_))) rfl (fun hc2 => ?_) (fun hc2 => ?_)
  · simp only [Bool.or_eq_true, decide_eq_true_eq] at hc2
    refine c_seq ?_
    refine c_region ?_
    refine o_pure (p_assign (v := .bool true) rfl) rfl rfl rfl ?_
    refine o_nil ?_
    refine q_then ?_
    refine c_ret ?_
    refine q_then_ret ?_
    refine q_end0 (v := .bool true) (rt1 rfl (r_tmp rfl)) (i := 0) rfl ?_
    exact rfl
  · simp only [Bool.or_eq_false_iff, decide_eq_false_iff_not, Int.not_lt, Int.not_le] at hc2
    refine c_skip ?_
    refine q_then ?_
    refine c_seq ?_
    refine c_region ?_
    refine o_buildSlice (m := 0) (T := tShard) (L := []) (vs := []) rfl rfl rfl rfl Try.underlying43 sz50 (by decide) ze50 rfl (by decide) rfl (fun S3 a4 => ?_)
    refine o_pure (p_move (v := .slice al l.length cl) rfl) rfl rfl rfl ?_
    refine o_append (i := 0) (L := []) (M := l) (T := tShard) rfl rfl rfl (rd_base (i := 1) rfl hl) Try.underlying43 Try.underlying43 (by intro k h; cases h) el50 (by intro z; simp [tShard, one1]) (by decide) (by first | omega | (simp only [List.length_cons, List.length_nil]; omega) | (simp only [List.length_append, List.length_cons, List.length_nil, List.length_take, List.length_drop]; omega)) rfl (fun a6 c7 S8 => ?_)
    refine o_pure (p_assign (v := .slice a6 l.length c7) rfl) rfl rfl rfl ?_
    refine o_nil ?_
    refine q_then ?_
    refine c_seq ?_
    refine c_region ?_
    refine o_pure (p_move (v := .slice a6 l.length c7) rfl) rfl rfl rfl ?_
    refine o_pure (p_move (v := .int .i64 at_) rfl) rfl rfl rfl ?_
    refine o_pure (p_indexAddr (L := l) (T := tShard) (i := at_) rfl rfl (rd_own (i := 0) rfl) Try.underlying43 sz50 (by omega) (by omega)) rfl rfl rfl ?_
    refine o_pure (p_fieldAddrE rfl fo50_1) rfl rfl rfl ?_
    refine o_pure (p_loadF (i := at_.toNat) (j := 1) (T := tShard) (L := l) (v := .int .i64 ((l[at_.toNat]).weight)) rfl (rd_own (i := 0) rfl) (by first | assumption | omega) sh3 rfl) rfl rfl rfl ?_
    refine o_pure (p_add (p := (l[at_.toNat]).weight) (q := 1) rfl rfl) rfl rfl rfl ?_
    refine o_pure (p_indexAddr (L := l) (T := tShard) (i := at_) rfl rfl (rd_own (i := 0) rfl) Try.underlying43 sz50 (by omega) (by omega)) rfl rfl rfl ?_
    refine o_pure (p_fieldAddrE rfl fo50_1) rfl rfl rfl ?_
    refine o_storeF (j := 1) (i := 0) (T := tShard) (L := l) (idx := at_.toNat) (v := .int .i64 (IntKind.i64.wrap ((l[at_.toNat]).weight + 1))) (vs := [.int .i64 (IntKind.i64.wrap ((l[at_.toNat]).weight + 1))]) (z := (⟨(l[at_.toNat]).name, (IntKind.i64.wrap ((l[at_.toNat]).weight + 1))⟩ : DShard)) (F' := [(0, .slice al l.length cl), (1, .int .i64 at_), (2, .slice akeys (keys.take ((min (keys.length : Int) 40).toNat)).length ckeys), (7, .slice a6 (l.set at_.toNat (⟨(l[at_.toNat]).name, (IntKind.i64.wrap ((l[at_.toNat]).weight + 1))⟩ : DShard)).length c7)]) rfl rfl rfl rfl (by first | assumption | omega | (simp only [List.length_set]; omega)) sz3 rfl rfl rfl rfl (Sub.cons rfl (Sub.cons rfl (Sub.cons rfl (Sub.cons (by first | (simp only [List.length_set]; rfl) | (show some _ = some _; congr 2; rw [List.length_set]) | (rw [List.length_set]; rfl)) (Sub.nil _))))) ?_
    refine o_nil ?_
    refine q_then ?_
    refine c_seq ?_
    refine c_seq ?_
    refine c_region ?_
    refine o_pure (p_assign (v := .int .i64 0) rfl) rfl rfl rfl ?_
    refine o_nil ?_
    refine q_then ?_
    refine c_block ?_
    refine c_loop (St := Nat)
      (fun i => [(0, .slice al l.length cl), (1, .int .i64 at_), (2, .slice akeys (keys.take ((min (keys.length : Int) 40).toNat)).length ckeys), (7, .slice a6 (l.set at_.toNat (⟨(l[at_.toNat]).name, (IntKind.i64.wrap ((l[at_.toNat]).weight + 1))⟩ : DShard)).length c7), (8, .int .i64 (i : Int))])
      (fun i => [own tShard S8 a6 c7 (l.set at_.toNat (⟨(l[at_.toNat]).name, (IntKind.i64.wrap ((l[at_.toNat]).weight + 1))⟩ : DShard)), base w0])
      (fun i => i ≤ (keys.take (min (keys.length : Int) 40).toNat).length)
      (fun i => (keys.take (min (keys.length : Int) 40).toNat).length - i)
      0 ?_ (Sub.cons rfl (Sub.cons rfl (Sub.cons rfl (Sub.cons rfl (Sub.cons rfl (Sub.nil _)))))) (fun _ hw => hw) ?_
    · exact Nat.zero_le _
    rintro i hI K hK9
    show SC _ _ Try.prog 87 w0 _ _ [(0, .slice al l.length cl), (1, .int .i64 at_), (2, .slice akeys (keys.take ((min (keys.length : Int) 40).toNat)).length ckeys), (7, .slice a6 (l.set at_.toNat (⟨(l[at_.toNat]).name, (IntKind.i64.wrap ((l[at_.toNat]).weight + 1))⟩ : DShard)).length c7), (8, .int .i64 (i : Int))] [own tShard S8 a6 c7 (l.set at_.toNat (⟨(l[at_.toNat]).name, (IntKind.i64.wrap ((l[at_.toNat]).weight + 1))⟩ : DShard)), base w0]
    refine c_seq ?_
    refine c_seq ?_
    refine c_region ?_
    refine o_pure (p_move (v := .int .i64 (i : Int)) rfl) rfl rfl rfl ?_
    refine o_pure (p_move (v := .slice akeys (keys.take ((min (keys.length : Int) 40).toNat)).length ckeys) rfl) rfl rfl rfl ?_
    refine o_pure (p_len_slice (len := (keys.take ((min (keys.length : Int) 40).toNat)).length) rfl rfl Try.underlying44) rfl rfl rfl ?_
    refine o_pure (p_lt (p := (i : Int)) (q := ((keys.take ((min (keys.length : Int) 40).toNat)).length : Int)) rfl rfl) rfl rfl rfl ?_
    refine o_nil ?_
    refine q_then ?_
    refine c_cond (b := decide ((i : Int) < ((keys.take ((min (keys.length : Int) 40).toNat)).length : Int))) rfl (fun hc10 => ?_) (fun hc10 => ?_)
    · simp only [decide_eq_true_eq] at hc10
      refine c_skip ?_
      refine q_then ?_
      refine c_seq ?_
      refine c_block ?_
      refine c_seq ?_
      refine c_region ?_
      refine o_pure (p_move (v := .slice al l.length cl) rfl) rfl rfl rfl ?_
      refine o_pure (p_move (v := .slice akeys (keys.take ((min (keys.length : Int) 40).toNat)).length ckeys) rfl) rfl rfl rfl ?_
      refine o_pure (p_move (v := .int .i64 (i : Int)) rfl) rfl rfl rfl ?_
      refine o_pure (p_indexAddr (L := (keys.take ((min (keys.length : Int) 40).toNat))) (T := tStr) (i := (i : Int)) rfl rfl (rd_takeC (hi := (min (keys.length : Int) 40).toNat) (rd_base (i := 1) rfl hkeys) (by omega)) Try.underlying44 sz9 (by omega) (by omega)) rfl rfl rfl ?_
      refine o_pure (p_loadE1 (i := i) (T := tStr) (L := (keys.take ((min (keys.length : Int) 40).toNat))) (v := .string ((keys.take ((min (keys.length : Int) 40).toNat)).getD i default)) rfl (rd_takeC (hi := (min (keys.length : Int) 40).toNat) (rd_base (i := 1) rfl hkeys) (by omega)) (by first | assumption | omega) sh9 (congrArg tStr.enc (getd_at (by first | assumption | omega) default))) rfl rfl rfl ?_
      refine o_call0 (v := .tuple #[.int .i64 (Shd.owner l ((keys.take ((min (keys.length : Int) 40).toNat)).getD i default)), .int .i64 (Shd.ownErr l ((keys.take ((min (keys.length : Int) 40).toNat)).getD i default))]) rfl (sowner_ok l al cl ((keys.take ((min (keys.length : Int) 40).toNat)).getD i default)) hf33 (fun w hw => (rd_base (i := 1) rfl hl) w hw) rfl ?_
      refine o_pure (p_move (v := .tuple #[.int .i64 (Shd.owner l ((keys.take ((min (keys.length : Int) 40).toNat)).getD i default)), .int .i64 (Shd.ownErr l ((keys.take ((min (keys.length : Int) 40).toNat)).getD i default))]) rfl) rfl rfl rfl ?_
      refine o_pure (p_extract (vs := [.int .i64 (Shd.owner l ((keys.take ((min (keys.length : Int) 40).toNat)).getD i default)), .int .i64 (Shd.ownErr l ((keys.take ((min (keys.length : Int) 40).toNat)).getD i default))]) (v := .int .i64 (Shd.owner l ((keys.take ((min (keys.length : Int) 40).toNat)).getD i default))) rfl rfl) rfl rfl rfl ?_
      refine o_pure (p_extract (vs := [.int .i64 (Shd.owner l ((keys.take ((min (keys.length : Int) 40).toNat)).getD i default)), .int .i64 (Shd.ownErr l ((keys.take ((min (keys.length : Int) 40).toNat)).getD i default))]) (v := .int .i64 (Shd.ownErr l ((keys.take ((min (keys.length : Int) 40).toNat)).getD i default))) rfl rfl) rfl rfl rfl ?_
      refine o_pure (p_assign (v := .int .i64 (Shd.owner l ((keys.take ((min (keys.length : Int) 40).toNat)).getD i default))) rfl) rfl rfl rfl ?_
      refine o_pure (p_assign (v := .int .i64 (Shd.ownErr l ((keys.take ((min (keys.length : Int) 40).toNat)).getD i default))) rfl) rfl rfl rfl ?_
      refine o_nil ?_
      refine q_then ?_
      refine c_seq ?_
      refine c_region ?_
      refine o_pure (p_move (v := .slice a6 (l.set at_.toNat (⟨(l[at_.toNat]).name, (IntKind.i64.wrap ((l[at_.toNat]).weight + 1))⟩ : DShard)).length c7) rfl) rfl rfl rfl ?_
      refine o_pure (p_move (v := .slice akeys (keys.take ((min (keys.length : Int) 40).toNat)).length ckeys) rfl) rfl rfl rfl ?_
      refine o_pure (p_move (v := .int .i64 (i : Int)) rfl) rfl rfl rfl ?_
      refine o_pure (p_indexAddr (L := (keys.take ((min (keys.length : Int) 40).toNat))) (T := tStr) (i := (i : Int)) rfl rfl (rd_takeC (hi := (min (keys.length : Int) 40).toNat) (rd_base (i := 1) rfl hkeys) (by omega)) Try.underlying44 sz9 (by omega) (by omega)) rfl rfl rfl ?_
      refine o_pure (p_loadE1 (i := i) (T := tStr) (L := (keys.take ((min (keys.length : Int) 40).toNat))) (v := .string ((keys.take ((min (keys.length : Int) 40).toNat)).getD i default)) rfl (rd_takeC (hi := (min (keys.length : Int) 40).toNat) (rd_base (i := 1) rfl hkeys) (by omega)) (by first | assumption | omega) sh9 (congrArg tStr.enc (getd_at (by first | assumption | omega) default))) rfl rfl rfl ?_
      refine o_call0 (v := .tuple #[.int .i64 (Shd.owner (l.set at_.toNat (⟨(l[at_.toNat]).name, (IntKind.i64.wrap ((l[at_.toNat]).weight + 1))⟩ : DShard)) ((keys.take ((min (keys.length : Int) 40).toNat)).getD i default)), .int .i64 (Shd.ownErr (l.set at_.toNat (⟨(l[at_.toNat]).name, (IntKind.i64.wrap ((l[at_.toNat]).weight + 1))⟩ : DShard)) ((keys.take ((min (keys.length : Int) 40).toNat)).getD i default))]) rfl (sowner_ok (l.set at_.toNat (⟨(l[at_.toNat]).name, (IntKind.i64.wrap ((l[at_.toNat]).weight + 1))⟩ : DShard)) a6 c7 ((keys.take ((min (keys.length : Int) 40).toNat)).getD i default)) hf33 (fun w hw => (rd_own (i := 0) rfl) w hw) rfl ?_
      refine o_pure (p_move (v := .tuple #[.int .i64 (Shd.owner (l.set at_.toNat (⟨(l[at_.toNat]).name, (IntKind.i64.wrap ((l[at_.toNat]).weight + 1))⟩ : DShard)) ((keys.take ((min (keys.length : Int) 40).toNat)).getD i default)), .int .i64 (Shd.ownErr (l.set at_.toNat (⟨(l[at_.toNat]).name, (IntKind.i64.wrap ((l[at_.toNat]).weight + 1))⟩ : DShard)) ((keys.take ((min (keys.length : Int) 40).toNat)).getD i default))]) rfl) rfl rfl rfl ?_
      refine o_pure (p_extract (vs := [.int .i64 (Shd.owner (l.set at_.toNat (⟨(l[at_.toNat]).name, (IntKind.i64.wrap ((l[at_.toNat]).weight + 1))⟩ : DShard)) ((keys.take ((min (keys.length : Int) 40).toNat)).getD i default)), .int .i64 (Shd.ownErr (l.set at_.toNat (⟨(l[at_.toNat]).name, (IntKind.i64.wrap ((l[at_.toNat]).weight + 1))⟩ : DShard)) ((keys.take ((min (keys.length : Int) 40).toNat)).getD i default))]) (v := .int .i64 (Shd.owner (l.set at_.toNat (⟨(l[at_.toNat]).name, (IntKind.i64.wrap ((l[at_.toNat]).weight + 1))⟩ : DShard)) ((keys.take ((min (keys.length : Int) 40).toNat)).getD i default))) rfl rfl) rfl rfl rfl ?_
      refine o_pure (p_extract (vs := [.int .i64 (Shd.owner (l.set at_.toNat (⟨(l[at_.toNat]).name, (IntKind.i64.wrap ((l[at_.toNat]).weight + 1))⟩ : DShard)) ((keys.take ((min (keys.length : Int) 40).toNat)).getD i default)), .int .i64 (Shd.ownErr (l.set at_.toNat (⟨(l[at_.toNat]).name, (IntKind.i64.wrap ((l[at_.toNat]).weight + 1))⟩ : DShard)) ((keys.take ((min (keys.length : Int) 40).toNat)).getD i default))]) (v := .int .i64 (Shd.ownErr (l.set at_.toNat (⟨(l[at_.toNat]).name, (IntKind.i64.wrap ((l[at_.toNat]).weight + 1))⟩ : DShard)) ((keys.take ((min (keys.length : Int) 40).toNat)).getD i default))) rfl rfl) rfl rfl rfl ?_
      refine o_pure (p_assign (v := .int .i64 (Shd.owner (l.set at_.toNat (⟨(l[at_.toNat]).name, (IntKind.i64.wrap ((l[at_.toNat]).weight + 1))⟩ : DShard)) ((keys.take ((min (keys.length : Int) 40).toNat)).getD i default))) rfl) rfl rfl rfl ?_
      refine o_pure (p_assign (v := .int .i64 (Shd.ownErr (l.set at_.toNat (⟨(l[at_.toNat]).name, (IntKind.i64.wrap ((l[at_.toNat]).weight + 1))⟩ : DShard)) ((keys.take ((min (keys.length : Int) 40).toNat)).getD i default))) rfl) rfl rfl rfl ?_
      refine o_nil ?_
      refine q_then ?_
      refine c_seq ?_
      refine c_seq ?_
      refine c_region ?_
      refine o_pure (p_move (v := .int .i64 (Shd.ownErr l ((keys.take ((min (keys.length : Int) 40).toNat)).getD i default))) rfl) rfl rfl rfl ?_
      refine o_pure (p_ne (p := (Shd.ownErr l ((keys.take ((min (keys.length : Int) 40).toNat)).getD i default))) (q := 0) rfl rfl) rfl rfl rfl ?_
      refine o_pure (p_move (v := .bool ((Shd.ownErr l ((keys.take ((min (keys.length : Int) 40).toNat)).getD i default)) != 0)) rfl) rfl rfl rfl ?_
      refine o_or (p := 68) 3 ((Shd.ownErr (l.set at_.toNat (⟨(l[at_.toNat]).name, (IntKind.i64.wrap ((l[at_.toNat]).weight + 1))⟩ : DShard)) ((keys.take ((min (keys.length : Int) 40).toNat)).getD i default)) != 0) ?_ ?_ ?_
      · intro hb11 hk
        simp only [bne_eq_false_iff_eq] at hb11
        refine o_unguard 65 rfl rfl ?_
        refine o_pure (p_move (v := .int .i64 (Shd.ownErr (l.set at_.toNat (⟨(l[at_.toNat]).name, (IntKind.i64.wrap ((l[at_.toNat]).weight + 1))⟩ : DShard)) ((keys.take ((min (keys.length : Int) 40).toNat)).getD i default))) rfl) rfl rfl rfl ?_
        refine o_unguard 65 rfl rfl ?_
        refine o_pure (p_ne (p := (Shd.ownErr (l.set at_.toNat (⟨(l[at_.toNat]).name, (IntKind.i64.wrap ((l[at_.toNat]).weight + 1))⟩ : DShard)) ((keys.take ((min (keys.length : Int) 40).toNat)).getD i default))) (q := 0) rfl rfl) rfl rfl rfl ?_
        refine o_pure (p_pick_false (v := .bool ((Shd.ownErr (l.set at_.toNat (⟨(l[at_.toNat]).name, (IntKind.i64.wrap ((l[at_.toNat]).weight + 1))⟩ : DShard)) ((keys.take ((min (keys.length : Int) 40).toNat)).getD i default)) != 0)) rfl rfl) rfl rfl rfl ?_
        exact o_sub (Sub.cons rfl (Sub.skip rfl (Sub.skip rfl (Sub.skip rfl (Sub.skip rfl (Sub.refl _)))))) hk
      · intro hb11 hk
        refine o_guard_no rfl 65 rfl rfl rfl rfl rfl ?_
        refine o_guard_no rfl 65 rfl rfl rfl rfl rfl ?_
        refine o_pure (p_pick_true (u := .bool true) rfl rfl) rfl rfl rfl ?_
        exact o_sub (Sub.cons rfl (Sub.skip rfl (Sub.skip rfl (Sub.skip rfl (Sub.skip rfl (Sub.refl _)))))) hk
      refine o_nil ?_
      refine q_then ?_
      refine c_cond (b := (((Shd.ownErr l ((keys.take ((min (keys.length : Int) 40).toNat)).getD i default)) != 0) || ((Shd.ownErr (l.set at_.toNat (⟨(l[at_.toNat]).name, (IntKind.i64.wrap ((l[at_.toNat]).weight + 1))⟩ : DShard)) ((keys.take ((min (keys.length : Int) 40).toNat)).getD i default)) != 0))) rfl (fun hc12 => ?_) (fun hc12 => ?_)
      · simp only [Bool.or_eq_true, bne_iff_ne, ne_eq] at hc12
        refine c_seq ?_
        refine c_region ?_
        refine o_pure (p_assign (v := .bool true) rfl) rfl rfl rfl ?_
        refine o_nil ?_
        refine q_then ?_
        refine c_ret ?_
        refine q_then_ret (q_block_ret (q_then_ret (q_then_ret (q_block_ret (q_then_ret ?_)))))
        refine q_end0 (v := .bool true) (rt1 rfl (r_tmp rfl)) (i := 1) rfl ?_
        exact rfl
      · simp only [Bool.or_eq_false_iff, bne_eq_false_iff_eq] at hc12
        obtain ⟨z1, z2⟩ := hc12
        have hmo := Shd.more_eq (Shd.own_ok z1).1 (at_ := at_) ⟨by omega, by omega⟩ (by omega)
        refine c_skip ?_
        refine q_then ?_
        refine c_seq ?_
        refine c_region ?_
        refine o_pure (p_move (v := .int .i64 (Shd.owner l ((keys.take ((min (keys.length : Int) 40).toNat)).getD i default))) rfl) rfl rfl rfl ?_
        refine o_pure (p_move (v := .int .i64 at_) rfl) rfl rfl rfl ?_
        refine o_pure (p_eq (p := (Shd.owner l ((keys.take ((min (keys.length : Int) 40).toNat)).getD i default))) (q := at_) rfl rfl) rfl rfl rfl ?_
        refine o_pure (p_move (v := .bool ((Shd.owner l ((keys.take ((min (keys.length : Int) 40).toNat)).getD i default)) == at_)) rfl) rfl rfl rfl ?_
        refine o_and (p := 76) 4 ((Shd.owner (l.set at_.toNat (⟨(l[at_.toNat]).name, (IntKind.i64.wrap ((l[at_.toNat]).weight + 1))⟩ : DShard)) ((keys.take ((min (keys.length : Int) 40).toNat)).getD i default)) != at_) ?_ ?_ ?_
        · intro hb13 hk
          simp only [beq_iff_eq] at hb13
          refine o_unguard 72 rfl rfl ?_
          refine o_pure (p_move (v := .int .i64 (Shd.owner (l.set at_.toNat (⟨(l[at_.toNat]).name, (IntKind.i64.wrap ((l[at_.toNat]).weight + 1))⟩ : DShard)) ((keys.take ((min (keys.length : Int) 40).toNat)).getD i default))) rfl) rfl rfl rfl ?_
          refine o_unguard 72 rfl rfl ?_
          refine o_pure (p_move (v := .int .i64 at_) rfl) rfl rfl rfl ?_
          refine o_unguard 72 rfl rfl ?_
          refine o_pure (p_ne (p := (Shd.owner (l.set at_.toNat (⟨(l[at_.toNat]).name, (IntKind.i64.wrap ((l[at_.toNat]).weight + 1))⟩ : DShard)) ((keys.take ((min (keys.length : Int) 40).toNat)).getD i default))) (q := at_) rfl rfl) rfl rfl rfl ?_
          refine o_pure (p_pick_true (u := .bool ((Shd.owner (l.set at_.toNat (⟨(l[at_.toNat]).name, (IntKind.i64.wrap ((l[at_.toNat]).weight + 1))⟩ : DShard)) ((keys.take ((min (keys.length : Int) 40).toNat)).getD i default)) != at_)) rfl rfl) rfl rfl rfl ?_
          exact o_sub (Sub.cons rfl (Sub.skip rfl (Sub.skip rfl (Sub.skip rfl (Sub.skip rfl (Sub.skip rfl (Sub.refl _))))))) hk
        · intro hb13 hk
          refine o_guard_no rfl 72 rfl rfl rfl rfl rfl ?_
          refine o_guard_no rfl 72 rfl rfl rfl rfl rfl ?_
          refine o_guard_no rfl 72 rfl rfl rfl rfl rfl ?_
          refine o_pure (p_pick_false (v := .bool false) rfl rfl) rfl rfl rfl ?_
          exact o_sub (Sub.cons rfl (Sub.skip rfl (Sub.skip rfl (Sub.skip rfl (Sub.skip rfl (Sub.skip rfl (Sub.refl _))))))) hk
        refine o_pure (p_move (v := .bool (((Shd.owner l ((keys.take ((min (keys.length : Int) 40).toNat)).getD i default)) == at_) && ((Shd.owner (l.set at_.toNat (⟨(l[at_.toNat]).name, (IntKind.i64.wrap ((l[at_.toNat]).weight + 1))⟩ : DShard)) ((keys.take ((min (keys.length : Int) 40).toNat)).getD i default)) != at_))) rfl) rfl rfl rfl ?_
        refine o_or (p := 86) 9 (((Shd.owner (l.set at_.toNat (⟨(l[at_.toNat]).name, (IntKind.i64.wrap ((l[at_.toNat]).weight + 1))⟩ : DShard)) ((keys.take ((min (keys.length : Int) 40).toNat)).getD i default)) != at_) && ((Shd.owner l ((keys.take ((min (keys.length : Int) 40).toNat)).getD i default)) != (Shd.owner (l.set at_.toNat (⟨(l[at_.toNat]).name, (IntKind.i64.wrap ((l[at_.toNat]).weight + 1))⟩ : DShard)) ((keys.take ((min (keys.length : Int) 40).toNat)).getD i default)))) ?_ ?_ ?_
        · intro hb14 hk
          simp only [Bool.and_eq_false_iff, beq_eq_false_iff_ne, ne_eq, bne_eq_false_iff_eq] at hb14
          refine o_unguard 77 rfl rfl ?_
          refine o_pure (p_move (v := .int .i64 (Shd.owner (l.set at_.toNat (⟨(l[at_.toNat]).name, (IntKind.i64.wrap ((l[at_.toNat]).weight + 1))⟩ : DShard)) ((keys.take ((min (keys.length : Int) 40).toNat)).getD i default))) rfl) rfl rfl rfl ?_
          refine o_unguard 77 rfl rfl ?_
          refine o_pure (p_move (v := .int .i64 at_) rfl) rfl rfl rfl ?_
          refine o_unguard 77 rfl rfl ?_
          refine o_pure (p_ne (p := (Shd.owner (l.set at_.toNat (⟨(l[at_.toNat]).name, (IntKind.i64.wrap ((l[at_.toNat]).weight + 1))⟩ : DShard)) ((keys.take ((min (keys.length : Int) 40).toNat)).getD i default))) (q := at_) rfl rfl) rfl rfl rfl ?_
          refine o_unguard 77 rfl rfl ?_
          refine o_pure (p_move (v := .bool ((Shd.owner (l.set at_.toNat (⟨(l[at_.toNat]).name, (IntKind.i64.wrap ((l[at_.toNat]).weight + 1))⟩ : DShard)) ((keys.take ((min (keys.length : Int) 40).toNat)).getD i default)) != at_)) rfl) rfl rfl rfl ?_
          refine o_and (p := 85) 4 ((Shd.owner l ((keys.take ((min (keys.length : Int) 40).toNat)).getD i default)) != (Shd.owner (l.set at_.toNat (⟨(l[at_.toNat]).name, (IntKind.i64.wrap ((l[at_.toNat]).weight + 1))⟩ : DShard)) ((keys.take ((min (keys.length : Int) 40).toNat)).getD i default))) ?_ ?_ ?_
          · intro hb15 hk
            simp only [bne_iff_ne, ne_eq] at hb15
            refine o_unguard 81 rfl rfl ?_
            refine o_pure (p_move (v := .int .i64 (Shd.owner l ((keys.take ((min (keys.length : Int) 40).toNat)).getD i default))) rfl) rfl rfl rfl ?_
            refine o_unguard 81 rfl rfl ?_
            refine o_pure (p_move (v := .int .i64 (Shd.owner (l.set at_.toNat (⟨(l[at_.toNat]).name, (IntKind.i64.wrap ((l[at_.toNat]).weight + 1))⟩ : DShard)) ((keys.take ((min (keys.length : Int) 40).toNat)).getD i default))) rfl) rfl rfl rfl ?_
            refine o_unguard 81 rfl rfl ?_
            refine o_pure (p_ne (p := (Shd.owner l ((keys.take ((min (keys.length : Int) 40).toNat)).getD i default))) (q := (Shd.owner (l.set at_.toNat (⟨(l[at_.toNat]).name, (IntKind.i64.wrap ((l[at_.toNat]).weight + 1))⟩ : DShard)) ((keys.take ((min (keys.length : Int) 40).toNat)).getD i default))) rfl rfl) rfl rfl rfl ?_
            refine o_unguard 77 rfl rfl ?_
            refine o_pure (p_pick_true (u := .bool ((Shd.owner l ((keys.take ((min (keys.length : Int) 40).toNat)).getD i default)) != (Shd.owner (l.set at_.toNat (⟨(l[at_.toNat]).name, (IntKind.i64.wrap ((l[at_.toNat]).weight + 1))⟩ : DShard)) ((keys.take ((min (keys.length : Int) 40).toNat)).getD i default)))) rfl rfl) rfl rfl rfl ?_
            exact o_sub (Sub.cons rfl (Sub.skip rfl (Sub.skip rfl (Sub.skip rfl (Sub.skip rfl (Sub.skip rfl (Sub.refl _))))))) hk
          · intro hb15 hk
            refine o_guard_no rfl 81 rfl rfl rfl rfl rfl ?_
            refine o_guard_no rfl 81 rfl rfl rfl rfl rfl ?_
            refine o_guard_no rfl 81 rfl rfl rfl rfl rfl ?_
            refine o_unguard 77 rfl rfl ?_
            refine o_pure (p_pick_false (v := .bool false) rfl rfl) rfl rfl rfl ?_
            exact o_sub (Sub.cons rfl (Sub.skip rfl (Sub.skip rfl (Sub.skip rfl (Sub.skip rfl (Sub.skip rfl (Sub.refl _))))))) hk
          refine o_pure (p_pick_false (v := .bool (((Shd.owner (l.set at_.toNat (⟨(l[at_.toNat]).name, (IntKind.i64.wrap ((l[at_.toNat]).weight + 1))⟩ : DShard)) ((keys.take ((min (keys.length : Int) 40).toNat)).getD i default)) != at_) && ((Shd.owner l ((keys.take ((min (keys.length : Int) 40).toNat)).getD i default)) != (Shd.owner (l.set at_.toNat (⟨(l[at_.toNat]).name, (IntKind.i64.wrap ((l[at_.toNat]).weight + 1))⟩ : DShard)) ((keys.take ((min (keys.length : Int) 40).toNat)).getD i default))))) rfl rfl) rfl rfl rfl ?_
          exact o_sub (Sub.cons rfl (Sub.skip rfl (Sub.skip rfl (Sub.skip rfl (Sub.skip rfl (Sub.skip rfl (Sub.skip rfl (Sub.refl _)))))))) hk
        · intro hb14 hk
          refine o_guard_no rfl 77 rfl rfl rfl rfl rfl ?_
          refine o_guard_no rfl 77 rfl rfl rfl rfl rfl ?_
          refine o_guard_no rfl 77 rfl rfl rfl rfl rfl ?_
          refine o_guard_no rfl 77 rfl rfl rfl rfl rfl ?_
          refine o_guard_no rfl 81 rfl rfl rfl rfl rfl ?_
          refine o_guard_no rfl 81 rfl rfl rfl rfl rfl ?_
          refine o_guard_no rfl 81 rfl rfl rfl rfl rfl ?_
          refine o_guard_no rfl 77 rfl rfl rfl rfl rfl ?_
          refine o_pure (p_pick_true (u := .bool true) rfl rfl) rfl rfl rfl ?_
          exact o_sub (Sub.cons rfl (Sub.skip rfl (Sub.skip rfl (Sub.skip rfl (Sub.skip rfl (Sub.skip rfl (Sub.skip rfl (Sub.skip rfl (Sub.skip rfl (Sub.skip rfl (Sub.skip rfl (Sub.refl _)))))))))))) hk
        refine o_nil ?_
        refine q_then ?_
        refine c_cond (b := ((((Shd.owner l ((keys.take ((min (keys.length : Int) 40).toNat)).getD i default)) == at_) && ((Shd.owner (l.set at_.toNat (⟨(l[at_.toNat]).name, (IntKind.i64.wrap ((l[at_.toNat]).weight + 1))⟩ : DShard)) ((keys.take ((min (keys.length : Int) 40).toNat)).getD i default)) != at_)) || (((Shd.owner (l.set at_.toNat (⟨(l[at_.toNat]).name, (IntKind.i64.wrap ((l[at_.toNat]).weight + 1))⟩ : DShard)) ((keys.take ((min (keys.length : Int) 40).toNat)).getD i default)) != at_) && ((Shd.owner l ((keys.take ((min (keys.length : Int) 40).toNat)).getD i default)) != (Shd.owner (l.set at_.toNat (⟨(l[at_.toNat]).name, (IntKind.i64.wrap ((l[at_.toNat]).weight + 1))⟩ : DShard)) ((keys.take ((min (keys.length : Int) 40).toNat)).getD i default)))))) rfl (fun hc16 => ?_) (fun hc16 => ?_)
        · simp only [Bool.or_eq_true, Bool.and_eq_true, beq_iff_eq, bne_iff_ne, ne_eq] at hc16
          exfalso; have hq := hc16
          by_cases hne : Shd.owner (l.set at_.toNat (⟨(l[at_.toNat]).name, (IntKind.i64.wrap ((l[at_.toNat]).weight + 1))⟩ : DShard)) ((keys.take (min (keys.length : Int) 40).toNat).getD i default) = at_
          · omega
          · have h9 := Shd.weight_law (l := l) (at_ := at_) ⟨by omega, by omega⟩ hmo z1 z2 hne; omega
        · simp only [Bool.or_eq_false_iff, Bool.and_eq_false_iff, beq_eq_false_iff_ne, ne_eq, bne_eq_false_iff_eq] at hc16
          refine c_skip ?_
          refine q_block_normal (q_then ?_)
          refine c_region ?_
          refine o_pure (p_move (v := .int .i64 (i : Int)) rfl) rfl rfl rfl ?_
          refine o_pure (p_addb (p := (i : Int)) (q := 1) rfl rfl (by omega)) rfl rfl rfl ?_
          refine o_pure (p_assign (v := .int .i64 ((i : Int) + 1)) rfl) rfl rfl rfl ?_
          refine o_nil ?_
          refine q_round hK9 (i + 1) ?_ ?_ ?_ ?_
          · clear hK9
            (try dsimp only); omega
          · (try dsimp only); omega
          · exact Sub.cons rfl (Sub.cons rfl (Sub.cons rfl (Sub.cons rfl (Sub.cons rfl (Sub.nil _)))))
          · exact fun _ hw => HeapIs.pick hw [0, 1] (by decide) rfl
    · simp only [decide_eq_false_iff_not, Int.not_lt] at hc10
      refine c_exit ?_
      refine q_then_exit (q_then_exit (q_block_exit (q_then ?_)))
      refine c_seq ?_
      refine c_region ?_
      refine o_pure (p_assign (v := .bool true) rfl) rfl rfl rfl ?_
      refine o_nil ?_
      refine q_then ?_
      refine c_ret ?_
      refine q_end0 (v := .bool true) (rt1 rfl (r_tmp rfl)) (i := 1) rfl ?_
      exact rfl
end Go.Proofs.Ythecfjipaepcgaa
