/- The walks, printed by a program from the translation and a specification. -/
import Derived.Test.YtkndekkacimekaaTdF
import Derived.Test.YtkndekkacimekaaTdLaw
import Derived.Test.YtkndekkacimekaaTdW1
namespace Go.Proofs.Ytkndekkacimekaa
open Go.Sx Go.RowKit
set_option maxHeartbeats 8000000 in
set_option maxRecDepth 100000 in
theorem depths_ok (l : List Int) (al : Option Addr) (cl : Nat) (hy1 : l.length ≤ 200) : FnM Try.prog 58 [.slice al l.length cl] (fun w => Rd tInt w al cl l) (Option Addr × Nat) (fun p => .slice p.1 (Deep.depths l).length p.2) (fun p S w => SlO tInt S w p.1 p.2 (Deep.depths l)) := by
  refine fnM (nt := 39) (F0 := [(0, .slice al l.length cl)]) Try.func58 rfl Try.ntmps58 rfl rfl (fun w0 hpre => ?_)
  have hl := hpre
  have hlhl := hl.2.1
  refine c_seq ?_
  refine c_region ?_
  refine o_pure (p_assign (v := .slice none 0 0) rfl) rfl rfl rfl ?_
  refine o_nil ?_
  refine q_then ?_
  refine c_seq ?_
  refine c_region ?_
  refine o_pure (p_assign (v := .slice none 0 0) rfl) rfl rfl rfl ?_
  refine o_nil ?_
  refine q_then ?_
  refine c_seq ?_
  refine c_region ?_
  refine o_pure (p_move (v := .slice al l.length cl) rfl) rfl rfl rfl ?_
  refine o_pure (p_len_slice (len := l.length) rfl rfl Try.underlying30) rfl rfl rfl ?_
  refine o_makeSlice (T := tInt) (m := (l.length : Int)) (z := 0) rfl rfl Try.underlying30 el3 ze3 rfl (by decide) (by omega) (by omega) rfl (fun S2 a1 => ?_)
  refine o_pure (p_assign (v := .slice a1 (List.replicate ((l.length : Int).toNat) 0).length ((l.length : Int).toNat)) rfl) rfl rfl rfl ?_
  refine o_nil ?_
  refine q_then ?_
  refine c_seq ?_
  refine c_seq ?_
  refine c_region ?_
  refine o_pure (p_move (v := .slice al l.length cl) rfl) rfl rfl rfl ?_
  refine o_pure (p_len_slice (len := l.length) rfl rfl Try.underlying30) rfl rfl rfl ?_
  refine o_pure (p_move (v := .int .i64 0) rfl) rfl rfl rfl ?_
  refine o_nil ?_
  refine q_then ?_
  refine c_block ?_
  refine c_ownNil tInt ?_
  refine c_loop (St := List Int × Option Addr × Nat × (Nat → Prop) × Nat × List Int)
    (fun ⟨stack, astack, cstack, Sstack, k, ol⟩ => [(3, .slice astack stack.length cstack), (4, .slice a1 ol.length ((l.length : Int).toNat)), (11, .slice al l.length cl), (12, .int .i64 (l.length : Int)), (13, .int .i64 (k : Int))])
    (fun ⟨stack, astack, cstack, Sstack, k, ol⟩ => [own tInt Sstack astack cstack stack, own tInt S2 a1 ((l.length : Int).toNat) ol, base w0])
    (fun ⟨stack, astack, cstack, Sstack, k, ol⟩ => Deep.PInv l stack ol k)
    (fun ⟨stack, astack, cstack, Sstack, k, ol⟩ => l.length - k)
    ([], none, 0, (fun _ => False), 0, (List.replicate ((l.length : Int).toNat) 0)) ?_ (Sub.cons rfl (Sub.cons rfl (Sub.cons rfl (Sub.cons rfl (Sub.cons rfl (Sub.nil _)))))) (fun _ hw => hw) ?_
  · exact Deep.PInv.start l
  rintro ⟨stack, astack, cstack, Sstack, k, ol⟩ hI K hK5
  have hsl := hI.stl
  have hkl := hI.le
  have hol := hI.len
  show SC _ _ Try.prog 39 w0 _ _ [(3, .slice astack stack.length cstack), (4, .slice a1 ol.length ((l.length : Int).toNat)), (11, .slice al l.length cl), (12, .int .i64 (l.length : Int)), (13, .int .i64 (k : Int))] [own tInt Sstack astack cstack stack, own tInt S2 a1 ((l.length : Int).toNat) ol, base w0]
  refine c_seq ?_
  refine c_region ?_
  refine o_pure (p_lt (p := (k : Int)) (q := (l.length : Int)) rfl rfl) rfl rfl rfl ?_
  refine o_nil ?_
  refine q_then ?_
  refine c_seq ?_
  refine c_cond (b := decide ((k : Int) < (l.length : Int))) rfl (fun hc6 => ?_) (fun hc6 => ?_)
  · simp only [decide_eq_true_eq] at hc6
    have hix := idxF_lt (fun x : Int => (x == l[k])) stack
    refine c_skip ?_
    refine q_then ?_
    refine c_seq ?_
    refine c_block ?_
    refine c_seq ?_
    refine c_region ?_
    refine o_pure (p_move (v := .int .i64 (k : Int)) rfl) rfl rfl rfl ?_
    refine o_pure (p_indexAddr (L := l) (T := tInt) (i := (k : Int)) rfl rfl (rd_base (i := 2) rfl hl) Try.underlying30 sz3 (by omega) (by omega)) rfl rfl rfl ?_
    refine o_pure (p_loadE1 (i := k) (T := tInt) (L := l) (v := .int .i64 (l[k])) rfl (rd_base (i := 2) rfl hl) (by first | assumption | omega) sh3 rfl) rfl rfl rfl ?_
    refine o_pure (p_assign (v := .int .i64 (k : Int)) rfl) rfl rfl rfl ?_
    refine o_pure (p_assign (v := .int .i64 (l[k])) rfl) rfl rfl rfl ?_
    refine o_nil ?_
    refine q_then ?_
    refine c_seq ?_
    refine c_region ?_
    refine o_pure (p_move (v := .slice astack stack.length cstack) rfl) rfl rfl rfl ?_
    refine o_pure (p_move (v := .int .i64 (l[k])) rfl) rfl rfl rfl ?_
    refine o_call0 (v := .int .i64 (idxF (fun x : Int => (x == (l[k]))) stack)) rfl (index_int_ok stack astack cstack (l[k])) hf88 (fun w hw => (rd_own (i := 0) rfl) w hw) rfl ?_
    refine o_pure (p_assign (v := .int .i64 (idxF (fun x : Int => (x == (l[k]))) stack)) rfl) rfl rfl rfl ?_
    refine o_nil ?_
    refine q_then ?_
    refine c_seq ?_
    refine c_region ?_
    refine o_pure (p_move (v := .slice a1 ol.length ((l.length : Int).toNat)) rfl) rfl rfl rfl ?_
    refine o_pure (p_move (v := .int .i64 (k : Int)) rfl) rfl rfl rfl ?_
    refine o_pure (p_move (v := .int .i64 (idxF (fun x : Int => (x == (l[k]))) stack)) rfl) rfl rfl rfl ?_
    refine o_pure (p_addb (p := (idxF (fun x : Int => (x == (l[k]))) stack)) (q := 1) rfl rfl (by omega)) rfl rfl rfl ?_
    refine o_pure (p_indexAddr (L := ol) (T := tInt) (i := (k : Int)) rfl rfl (rd_own (i := 1) rfl) Try.underlying30 sz3 (by omega) (by omega)) rfl rfl rfl ?_
    refine o_storeW (i := 1) (T := tInt) (idx := k) (v := .int .i64 ((idxF (fun x : Int => (x == (l[k]))) stack) + 1)) (vs := [.int .i64 ((idxF (fun x : Int => (x == (l[k]))) stack) + 1)]) (z := ((idxF (fun x : Int => (x == (l[k]))) stack) + 1)) (F' := [(3, .slice astack stack.length cstack), (4, .slice a1 (ol.set k ((idxF (fun x : Int => (x == (l[k]))) stack) + 1)).length ((l.length : Int).toNat)), (6, .int .i64 (l[k])), (7, .int .i64 (idxF (fun x : Int => (x == (l[k]))) stack)), (11, .slice al l.length cl), (12, .int .i64 (l.length : Int)), (13, .int .i64 (k : Int))]) rfl rfl rfl rfl (by first | assumption | omega | (simp only [List.length_set]; omega)) sz3 rfl rfl rfl rfl (Sub.cons rfl (Sub.cons (by simp only [List.length_set]; rfl) (Sub.cons rfl (Sub.cons rfl (Sub.cons rfl (Sub.cons rfl (Sub.cons rfl (Sub.nil _)))))))) ?_
    refine o_nil ?_
    refine q_then ?_
    refine c_seq ?_
    refine c_seq ?_
    refine c_region ?_
    refine o_pure (p_move (v := .int .i64 (idxF (fun x : Int => (x == (l[k]))) stack)) rfl) rfl rfl rfl ?_
    refine o_pure (p_ge (p := (idxF (fun x : Int => (x == (l[k]))) stack)) (q := 0) rfl rfl) rfl rfl rfl ?_
    refine o_nil ?_
    refine q_then ?_
    refine c_cond (b := decide (0 ≤ (idxF (fun x : Int => (x == (l[k]))) stack))) rfl (fun hc7 => ?_) (fun hc7 => ?_)
    · simp only [decide_eq_true_eq] at hc7
      refine c_region ?_
      refine o_pure (p_move (v := .slice astack stack.length cstack) rfl) rfl rfl rfl ?_
      refine o_pure (p_move (v := .int .i64 (idxF (fun x : Int => (x == (l[k]))) stack)) rfl) rfl rfl rfl ?_
      refine o_pure (p_move (v := .int .i64 (idxF (fun x : Int => (x == (l[k]))) stack)) rfl) rfl rfl rfl ?_
      refine o_pure (p_addb (p := (idxF (fun x : Int => (x == (l[k]))) stack)) (q := 1) rfl rfl (by omega)) rfl rfl rfl ?_
      refine o_callX (pre := [own tInt Sstack astack cstack stack]) (R := [own tInt S2 a1 ((l.length : Int).toNat) (ol.set k ((idxF (fun x : Int => (x == (l[k]))) stack) + 1)), base w0]) rfl (delete_Int_ok stack astack cstack Sstack (idxF (fun x : Int => (x == (l[k]))) stack) ((idxF (fun x : Int => (x == (l[k]))) stack) + 1) (by omega)) hf89 rfl (fun _ _ => trivial) rfl ?_
      rintro ⟨a8, c9, S10⟩
      refine o_asH (H' := [own tInt S10 a8 c9 (stack.take (idxF (fun x : Int => (x == (l[k]))) stack).toNat ++ stack.drop ((idxF (fun x : Int => (x == (l[k]))) stack) + 1).toNat), own tInt S2 a1 ((l.length : Int).toNat) (ol.set k ((idxF (fun x : Int => (x == (l[k]))) stack) + 1)), base w0]) rfl ?_
      refine o_pure (p_assign (v := .slice a8 (stack.take (idxF (fun x : Int => (x == (l[k]))) stack).toNat ++ stack.drop ((idxF (fun x : Int => (x == (l[k]))) stack) + 1).toNat).length c9) rfl) rfl rfl rfl ?_
      refine o_nil ?_
      refine q_then ?_
      refine c_region ?_
      refine o_pure (p_move (v := .slice a8 (stack.take (idxF (fun x : Int => (x == (l[k]))) stack).toNat ++ stack.drop ((idxF (fun x : Int => (x == (l[k]))) stack) + 1).toNat).length c9) rfl) rfl rfl rfl ?_
      refine o_pure (p_move (v := .int .i64 (l[k])) rfl) rfl rfl rfl ?_
      refine o_buildSlice (m := 1) (T := tInt) (L := [l[k]]) (vs := [.int .i64 (l[k])]) rfl rfl rfl rfl Try.underlying30 sz3 (by decide) ze3 rfl (by decide) rfl (fun S12 a13 => ?_)
      refine o_pick (H' := [own tInt S10 a8 c9 (stack.take (idxF (fun x : Int => (x == (l[k]))) stack).toNat ++ stack.drop ((idxF (fun x : Int => (x == (l[k]))) stack) + 1).toNat), own tInt S12 a13 ([l[k]].length) ([l[k]]), own tInt S2 a1 ((l.length : Int).toNat) (ol.set k ((idxF (fun x : Int => (x == (l[k]))) stack) + 1)), base w0]) [1, 0, 2, 3] (by decide) rfl ?_
      refine o_callX (pre := [own tInt S10 a8 c9 (stack.take (idxF (fun x : Int => (x == (l[k]))) stack).toNat ++ stack.drop ((idxF (fun x : Int => (x == (l[k]))) stack) + 1).toNat), own tInt S12 a13 ([l[k]].length) ([l[k]])]) (R := [own tInt S2 a1 ((l.length : Int).toNat) (ol.set k ((idxF (fun x : Int => (x == (l[k]))) stack) + 1)), base w0]) rfl (insert_Int_ok (stack.take (idxF (fun x : Int => (x == (l[k]))) stack).toNat ++ stack.drop ((idxF (fun x : Int => (x == (l[k]))) stack) + 1).toNat) a8 c9 S10 (0 : Int) ([l[k]]) a13 ([l[k]].length) S12 (by (try simp only [List.length_cons, List.length_nil, List.length_append, List.length_take, List.length_drop, and_true]); omega)) hf90 rfl (fun _ _ => trivial) rfl ?_
      rintro ⟨a15, c16, S17⟩
      refine o_asH (H' := [own tInt S17 a15 c16 ((stack.take (idxF (fun x : Int => (x == (l[k]))) stack).toNat ++ stack.drop ((idxF (fun x : Int => (x == (l[k]))) stack) + 1).toNat).take (0 : Int).toNat ++ ([l[k]]) ++ (stack.take (idxF (fun x : Int => (x == (l[k]))) stack).toNat ++ stack.drop ((idxF (fun x : Int => (x == (l[k]))) stack) + 1).toNat).drop (0 : Int).toNat), own tInt S2 a1 ((l.length : Int).toNat) (ol.set k ((idxF (fun x : Int => (x == (l[k]))) stack) + 1)), base w0]) rfl ?_
      refine o_pure (p_assign (v := .slice a15 ((stack.take (idxF (fun x : Int => (x == (l[k]))) stack).toNat ++ stack.drop ((idxF (fun x : Int => (x == (l[k]))) stack) + 1).toNat).take (0 : Int).toNat ++ ([l[k]]) ++ (stack.take (idxF (fun x : Int => (x == (l[k]))) stack).toNat ++ stack.drop ((idxF (fun x : Int => (x == (l[k]))) stack) + 1).toNat).drop (0 : Int).toNat).length c16) rfl) rfl rfl rfl ?_
      refine o_nil ?_
      refine q_block_normal (q_then ?_)
      refine c_region ?_
      refine o_pure (p_addb (p := (k : Int)) (q := 1) rfl rfl (by omega)) rfl rfl rfl ?_
      refine o_pure (p_move (v := .int .i64 ((k : Int) + 1)) rfl) rfl rfl rfl ?_
      refine o_nil ?_
      refine q_round hK5 (((stack.take (idxF (fun x : Int => (x == (l[k]))) stack).toNat ++ stack.drop ((idxF (fun x : Int => (x == (l[k]))) stack) + 1).toNat).take (0 : Int).toNat ++ ([l[k]]) ++ (stack.take (idxF (fun x : Int => (x == (l[k]))) stack).toNat ++ stack.drop ((idxF (fun x : Int => (x == (l[k]))) stack) + 1).toNat).drop (0 : Int).toNat), a15, c16, S17, k + 1, (ol.set k ((idxF (fun x : Int => (x == (l[k]))) stack) + 1))) ?_ ?_ ?_ ?_
      · clear hK5
        first | exact hI.hit (by omega) (by omega) | exact hI.new (by omega) (by omega)
      · (try dsimp only); omega
      · exact Sub.cons rfl (Sub.cons rfl (Sub.cons rfl (Sub.cons rfl (Sub.cons rfl (Sub.nil _)))))
      · exact fun _ hw => HeapIs.pick hw [0, 1, 2] (by decide) rfl
    · simp only [decide_eq_false_iff_not, Int.not_le] at hc7
      refine c_skip ?_
      refine q_then ?_
      refine c_region ?_
      refine o_pure (p_move (v := .slice astack stack.length cstack) rfl) rfl rfl rfl ?_
      refine o_pure (p_move (v := .int .i64 (l[k])) rfl) rfl rfl rfl ?_
      refine o_buildSlice (m := 1) (T := tInt) (L := [l[k]]) (vs := [.int .i64 (l[k])]) rfl rfl rfl rfl Try.underlying30 sz3 (by decide) ze3 rfl (by decide) rfl (fun S19 a20 => ?_)
      refine o_pick (H' := [own tInt Sstack astack cstack stack, own tInt S19 a20 ([l[k]].length) ([l[k]]), own tInt S2 a1 ((l.length : Int).toNat) (ol.set k ((idxF (fun x : Int => (x == (l[k]))) stack) + 1)), base w0]) [1, 0, 2, 3] (by decide) rfl ?_
      refine o_callX (pre := [own tInt Sstack astack cstack stack, own tInt S19 a20 ([l[k]].length) ([l[k]])]) (R := [own tInt S2 a1 ((l.length : Int).toNat) (ol.set k ((idxF (fun x : Int => (x == (l[k]))) stack) + 1)), base w0]) rfl (insert_Int_ok stack astack cstack Sstack (0 : Int) ([l[k]]) a20 ([l[k]].length) S19 (by (try simp only [List.length_cons, List.length_nil, List.length_append, List.length_take, List.length_drop, and_true]); omega)) hf90 rfl (fun _ _ => trivial) rfl ?_
      rintro ⟨a22, c23, S24⟩
      refine o_asH (H' := [own tInt S24 a22 c23 (stack.take (0 : Int).toNat ++ ([l[k]]) ++ stack.drop (0 : Int).toNat), own tInt S2 a1 ((l.length : Int).toNat) (ol.set k ((idxF (fun x : Int => (x == (l[k]))) stack) + 1)), base w0]) rfl ?_
      refine o_pure (p_assign (v := .slice a22 (stack.take (0 : Int).toNat ++ ([l[k]]) ++ stack.drop (0 : Int).toNat).length c23) rfl) rfl rfl rfl ?_
      refine o_nil ?_
      refine q_block_normal (q_then ?_)
      refine c_region ?_
      refine o_pure (p_addb (p := (k : Int)) (q := 1) rfl rfl (by omega)) rfl rfl rfl ?_
      refine o_pure (p_move (v := .int .i64 ((k : Int) + 1)) rfl) rfl rfl rfl ?_
      refine o_nil ?_
      refine q_round hK5 ((stack.take (0 : Int).toNat ++ ([l[k]]) ++ stack.drop (0 : Int).toNat), a22, c23, S24, k + 1, (ol.set k ((idxF (fun x : Int => (x == (l[k]))) stack) + 1))) ?_ ?_ ?_ ?_
      · clear hK5
        first | exact hI.hit (by omega) (by omega) | exact hI.new (by omega) (by omega)
      · (try dsimp only); omega
      · exact Sub.cons rfl (Sub.cons rfl (Sub.cons rfl (Sub.cons rfl (Sub.cons rfl (Sub.nil _)))))
      · exact fun _ hw => HeapIs.pick hw [0, 1, 2] (by decide) rfl
  · simp only [decide_eq_false_iff_not, Int.not_lt] at hc6
    refine c_exit ?_
    refine q_then_exit (q_then_exit (q_block_exit (q_then ?_)))
    refine c_seq ?_
    refine c_region ?_
    refine o_pure (p_move (v := .slice a1 ol.length ((l.length : Int).toNat)) rfl) rfl rfl rfl ?_
    refine o_pure (p_assign (v := .slice a1 ol.length ((l.length : Int).toNat)) rfl) rfl rfl rfl ?_
    refine o_nil ?_
    refine q_then ?_
    refine c_ret ?_
    have hr0 : (ol : List Int) = (Deep.depths l) := by
      exact hI.done (by omega)
    refine q_endM (p := (a1, (l.length : Int).toNat)) S2 (rt1 rfl (r_tmp rfl)) (i := 2) rfl ?_ ?_ ?_
    · exact (by have hcc := congrArg (fun (y0 : List Int) => (.slice a1 y0.length ((l.length : Int).toNat) : Value)) hr0; exact hcc)
    · exact fun w hw => hw.above (i := 2) (j := 1) (by decide) rfl rfl
    · intro w hw; exact Eq.mp (congrArg (fun y => SlO tInt _ w a1 ((l.length : Int).toNat) y) hr0) ((hw.at (i := 1) rfl).here)

set_option maxHeartbeats 8000000 in
set_option maxRecDepth 100000 in
theorem dhits_ok (l : List Int) (al : Option Addr) (cl : Nat) (hy1 : l.length ≤ 200) : FnM Try.prog 60 [.slice al l.length cl] (fun w => Rd tInt w al cl l) (Option Addr × Nat) (fun p => .slice p.1 (Deep.hits l).length p.2) (fun p S w => SlO tInt S w p.1 p.2 (Deep.hits l)) := by
  refine fnM (nt := 48) (F0 := [(0, .slice al l.length cl)]) Try.func60 rfl Try.ntmps60 rfl rfl (fun w0 hpre => ?_)
  have hl := hpre
  have hlhl := hl.2.1
  refine c_seq ?_
  refine c_region ?_
  refine o_pure (p_assign (v := .slice none 0 0) rfl) rfl rfl rfl ?_
  refine o_nil ?_
  refine q_then ?_
  refine c_seq ?_
  refine c_region ?_
  refine o_makeSlice (T := tInt) (m := 40) (z := 0) rfl rfl Try.underlying30 el3 ze3 rfl (by decide) (by omega) (by omega) rfl (fun S2 a1 => ?_)
  refine o_pure (p_assign (v := .slice a1 (List.replicate 40 0).length 40) rfl) rfl rfl rfl ?_
  refine o_nil ?_
  refine q_then ?_
  refine c_seq ?_
  refine c_seq ?_
  refine c_region ?_
  refine o_pure (p_move (v := .slice al l.length cl) rfl) rfl rfl rfl ?_
  refine o_callM rfl (depths_ok l al cl (by omega)) hf58 (fun w hw => (rd_base (i := 1) rfl hl) w hw) rfl (fun _ _ _ _ ha hA => SlO.agree ha hA) ?_
  rintro ⟨a6, c7⟩ S4
  refine o_know (fun w hw => own_len (i := 0) (T := tInt) hw rfl) (fun hlr8 => ?_)
  refine o_pure (p_len_slice (len := (Deep.depths l).length) rfl rfl Try.underlying30) rfl rfl rfl ?_
  refine o_pure (p_move (v := .int .i64 0) rfl) rfl rfl rfl ?_
  refine o_nil ?_
  refine q_then ?_
  refine c_block ?_
  refine c_loop (St := Nat × List Int)
    (fun ⟨k, ol⟩ => [(3, .slice a1 ol.length 40), (9, .slice a6 (Deep.depths l).length c7), (10, .int .i64 ((Deep.depths l).length : Int)), (11, .int .i64 (k : Int))])
    (fun ⟨k, ol⟩ => [own tInt S4 a6 c7 (Deep.depths l), own tInt S2 a1 40 ol, base w0])
    (fun ⟨k, ol⟩ => Deep.CInv l ol k)
    (fun ⟨k, ol⟩ => (Deep.depths l).length - k)
    (0, (List.replicate 40 0)) ?_ (Sub.cons rfl (Sub.cons rfl (Sub.cons rfl (Sub.cons rfl (Sub.nil _))))) (fun _ hw => hw) ?_
  · exact Deep.CInv.start l
  rintro ⟨k, ol⟩ hI K hK9
  have hol := hI.len
  have hkl := hI.le
  have hdl := Deep.depths_len l
  show SC _ _ Try.prog 48 w0 _ _ [(3, .slice a1 ol.length 40), (9, .slice a6 (Deep.depths l).length c7), (10, .int .i64 ((Deep.depths l).length : Int)), (11, .int .i64 (k : Int))] [own tInt S4 a6 c7 (Deep.depths l), own tInt S2 a1 40 ol, base w0]
  refine c_seq ?_
  refine c_region ?_
  refine o_pure (p_lt (p := (k : Int)) (q := ((Deep.depths l).length : Int)) rfl rfl) rfl rfl rfl ?_
  refine o_nil ?_
  refine q_then ?_
  refine c_seq ?_
  refine c_cond (b := decide ((k : Int) < ((Deep.depths l).length : Int))) rfl (fun hc10 => ?_) (fun hc10 => ?_)
  · simp only [decide_eq_true_eq] at hc10
    refine c_skip ?_
    refine q_then ?_
    refine c_seq ?_
    refine c_block ?_
    refine c_seq ?_
    refine c_region ?_
    refine o_pure (p_indexAddr (L := (Deep.depths l)) (T := tInt) (i := (k : Int)) rfl rfl (rd_own (i := 0) rfl) Try.underlying30 sz3 (by omega) (by omega)) rfl rfl rfl ?_
    refine o_pure (p_loadE1 (i := k) (T := tInt) (L := (Deep.depths l)) (v := .int .i64 ((Deep.depths l)[k])) rfl (rd_own (i := 0) rfl) (by first | assumption | omega) sh3 rfl) rfl rfl rfl ?_
    refine o_pure (p_assign (v := .int .i64 ((Deep.depths l)[k])) rfl) rfl rfl rfl ?_
    refine o_nil ?_
    refine q_then ?_
    refine c_seq ?_
    refine c_region ?_
    refine o_pure (p_move (v := .int .i64 ((Deep.depths l)[k])) rfl) rfl rfl rfl ?_
    refine o_pure (p_gt (p := (Deep.depths l)[k]) (q := 0) rfl rfl) rfl rfl rfl ?_
    refine o_pure (p_move (v := .bool (decide (0 < (Deep.depths l)[k]))) rfl) rfl rfl rfl ?_
    refine o_and (p := 20) 3 (decide ((Deep.depths l)[k] ≤ 40)) ?_ ?_ ?_
    · intro hb11 hk
      simp only [decide_eq_true_eq] at hb11
      refine o_unguard 17 rfl rfl ?_
      refine o_pure (p_move (v := .int .i64 ((Deep.depths l)[k])) rfl) rfl rfl rfl ?_
      refine o_unguard 17 rfl rfl ?_
      refine o_pure (p_le (p := (Deep.depths l)[k]) (q := 40) rfl rfl) rfl rfl rfl ?_
      refine o_pure (p_pick_true (u := .bool (decide ((Deep.depths l)[k] ≤ 40))) rfl rfl) rfl rfl rfl ?_
      exact o_sub (Sub.cons rfl (Sub.skip rfl (Sub.skip rfl (Sub.skip rfl (Sub.skip rfl (Sub.refl _)))))) hk
    · intro hb11 hk
      refine o_guard_no rfl 17 rfl rfl rfl rfl rfl ?_
      refine o_guard_no rfl 17 rfl rfl rfl rfl rfl ?_
      refine o_pure (p_pick_false (v := .bool false) rfl rfl) rfl rfl rfl ?_
      exact o_sub (Sub.cons rfl (Sub.skip rfl (Sub.skip rfl (Sub.skip rfl (Sub.skip rfl (Sub.refl _)))))) hk
    refine o_nil ?_
    refine q_then ?_
    refine c_cond (b := (decide (0 < (Deep.depths l)[k]) && decide ((Deep.depths l)[k] ≤ 40))) rfl (fun hc12 => ?_) (fun hc12 => ?_)
    · simp only [Bool.and_eq_true, decide_eq_true_eq] at hc12
      have hcb := hI.bd (j := ((Deep.depths l)[k] - 1).toNat) (by omega)
      refine c_region ?_
      refine o_pure (p_move (v := .slice a1 ol.length 40) rfl) rfl rfl rfl ?_
      refine o_pure (p_move (v := .int .i64 ((Deep.depths l)[k])) rfl) rfl rfl rfl ?_
      refine o_pure (p_subb (p := (Deep.depths l)[k]) (q := 1) rfl rfl (by omega)) rfl rfl rfl ?_
      refine o_pure (p_indexAddr (L := ol) (T := tInt) (i := ((Deep.depths l)[k] - 1)) rfl rfl (rd_own (i := 1) rfl) Try.underlying30 sz3 (by omega) (by omega)) rfl rfl rfl ?_
      refine o_pure (p_loadE1 (i := ((Deep.depths l)[k] - 1).toNat) (T := tInt) (L := ol) (v := .int .i64 (ol[((Deep.depths l)[k] - 1).toNat])) rfl (rd_own (i := 1) rfl) (by first | assumption | omega) sh3 rfl) rfl rfl rfl ?_
      refine o_pure (p_addb (p := ol[((Deep.depths l)[k] - 1).toNat]) (q := 1) rfl rfl (by omega)) rfl rfl rfl ?_
      refine o_pure (p_indexAddr (L := ol) (T := tInt) (i := ((Deep.depths l)[k] - 1)) rfl rfl (rd_own (i := 1) rfl) Try.underlying30 sz3 (by omega) (by omega)) rfl rfl rfl ?_
      refine o_storeW (i := 1) (T := tInt) (idx := ((Deep.depths l)[k] - 1).toNat) (v := .int .i64 (ol[((Deep.depths l)[k] - 1).toNat] + 1)) (vs := [.int .i64 (ol[((Deep.depths l)[k] - 1).toNat] + 1)]) (z := (ol[((Deep.depths l)[k] - 1).toNat] + 1)) (F' := [(3, .slice a1 (ol.set (((Deep.depths l)[k] - 1).toNat) (ol[((Deep.depths l)[k] - 1).toNat] + 1)).length 40), (9, .slice a6 (Deep.depths l).length c7), (10, .int .i64 ((Deep.depths l).length : Int)), (11, .int .i64 (k : Int))]) rfl rfl rfl rfl (by first | assumption | omega | (simp only [List.length_set]; omega)) sz3 rfl rfl rfl rfl (Sub.cons (by simp only [List.length_set]; rfl) (Sub.cons rfl (Sub.cons rfl (Sub.cons rfl (Sub.nil _))))) ?_
      refine o_nil ?_
      refine q_block_normal (q_then ?_)
      refine c_region ?_
      refine o_pure (p_addb (p := (k : Int)) (q := 1) rfl rfl (by omega)) rfl rfl rfl ?_
      refine o_pure (p_move (v := .int .i64 ((k : Int) + 1)) rfl) rfl rfl rfl ?_
      refine o_nil ?_
      refine q_round hK9 (k + 1, (ol.set (((Deep.depths l)[k] - 1).toNat) (ol[((Deep.depths l)[k] - 1).toNat] + 1))) ?_ ?_ ?_ ?_
      · clear hK9
        first | exact hI.step (by omega) rfl (by omega) (by omega) (by omega) | exact hI.skip (by omega) (by omega)
      · (try dsimp only); omega
      · exact Sub.cons rfl (Sub.cons rfl (Sub.cons rfl (Sub.cons rfl (Sub.nil _))))
      · exact fun _ hw => HeapIs.pick hw [0, 1, 2] (by decide) rfl
    · simp only [Bool.and_eq_false_iff, decide_eq_false_iff_not, Int.not_lt, Int.not_le] at hc12
      refine c_skip ?_
      refine q_block_normal (q_then ?_)
      refine c_region ?_
      refine o_pure (p_addb (p := (k : Int)) (q := 1) rfl rfl (by omega)) rfl rfl rfl ?_
      refine o_pure (p_move (v := .int .i64 ((k : Int) + 1)) rfl) rfl rfl rfl ?_
      refine o_nil ?_
      refine q_round hK9 (k + 1, ol) ?_ ?_ ?_ ?_
      · clear hK9
        first | exact hI.step (by omega) rfl (by omega) (by omega) (by omega) | exact hI.skip (by omega) (by omega)
      · (try dsimp only); omega
      · exact Sub.cons rfl (Sub.cons rfl (Sub.cons rfl (Sub.cons rfl (Sub.nil _))))
      · exact fun _ hw => HeapIs.pick hw [0, 1, 2] (by decide) rfl
  · simp only [decide_eq_false_iff_not, Int.not_lt] at hc10
    have hd1 : (ol.drop 1).length = 39 := by rw [List.length_drop, hI.len]
    have hC := hI
    refine c_exit ?_
    refine q_then_exit (q_then_exit (q_block_exit (q_then ?_)))
    refine c_seq ?_
    refine c_seq ?_
    refine c_region ?_
    refine o_pure (p_move (v := .slice a1 ol.length 40) rfl) rfl rfl rfl ?_
    refine o_pure (p_sliceL (L := ol) (T := tInt) (l := 1) rfl rfl Try.underlying30 sz3 (by omega) (by omega) (rd_own (i := 1) rfl)) rfl rfl rfl ?_
    refine o_pure (p_len_slice (len := (ol.drop 1).length) rfl rfl Try.underlying30) rfl rfl rfl ?_
    refine o_pure (p_move (v := .int .i64 0) rfl) rfl rfl rfl ?_
    refine o_nil ?_
    refine q_then ?_
    refine c_block ?_
    refine c_loop (St := Nat × List Int)
      (fun ⟨k2, o2⟩ => [(3, .slice a1 o2.length 40), (31, .int .i64 ((ol.drop 1).length : Int)), (32, .int .i64 (k2 : Int))])
      (fun ⟨k2, o2⟩ => [own tInt S4 a6 c7 (Deep.depths l), own tInt S2 a1 40 o2, base w0])
      (fun ⟨k2, o2⟩ => Deep.TInv l o2 k2)
      (fun ⟨k2, o2⟩ => 39 - k2)
      (0, ol) ?_ (Sub.cons rfl (Sub.cons rfl (Sub.cons rfl (Sub.nil _)))) (fun _ hw => hw) ?_
    · exact hC.done (by omega)
    rintro ⟨k2, o2⟩ hI K hK13
    have ho2 := hI.len
    have hk2 := hI.le
    show SC _ _ Try.prog 48 w0 _ _ [(3, .slice a1 o2.length 40), (31, .int .i64 ((ol.drop 1).length : Int)), (32, .int .i64 (k2 : Int))] [own tInt S4 a6 c7 (Deep.depths l), own tInt S2 a1 40 o2, base w0]
    refine c_seq ?_
    refine c_region ?_
    refine o_pure (p_lt (p := (k2 : Int)) (q := ((ol.drop 1).length : Int)) rfl rfl) rfl rfl rfl ?_
    refine o_nil ?_
    refine q_then ?_
    refine c_seq ?_
    refine c_cond (b := decide ((k2 : Int) < ((ol.drop 1).length : Int))) rfl (fun hc14 => ?_) (fun hc14 => ?_)
    · simp only [decide_eq_true_eq] at hc14
      refine c_skip ?_
      refine q_then ?_
      refine c_seq ?_
      refine c_block ?_
      refine c_seq ?_
      refine c_region ?_
      refine o_pure (p_move (v := .int .i64 (k2 : Int)) rfl) rfl rfl rfl ?_
      refine o_pure (p_assign (v := .int .i64 (k2 : Int)) rfl) rfl rfl rfl ?_
      refine o_nil ?_
      refine q_then ?_
      refine c_cut (G := Unit) (fun _ => [(3, .slice a1 o2.length 40), (31, .int .i64 ((ol.drop 1).length : Int)), (32, .int .i64 (k2 : Int))]) (fun _ => [own tInt S4 a6 c7 (Deep.depths l), own tInt S2 a1 40 (o2.set (((k2 : Int) + 1).toNat) (o2[((k2 : Int) + 1).toNat] + o2[k2])), base w0]) (fun K hK16 => ?_) ?_
      · refine c_held hmix [own tInt S4 a6 c7 (Deep.depths l), ownE tInt S2 a1 40 (o2.length), base w0] rfl rfl ?_
        refine h_take (i := 0) (ls := #[true, false, false, false, false, false, false, false, false, false, false, false]) rfl (by kernel_rfl) (by kernel_rfl) (by kernel_rfl) (fun _ _ _ h => h) (p_move (v := .slice a1 o2.length 40) rfl) rfl rfl rfl (fun _ hw => HeapIs.drop (HeapIs.toE (i := 1) (m := o2.length) (T := tInt) rfl (by simp only [List.length_set]) hw) (List.Sublist.refl _)) rfl ?_
        refine h_take (i := 1) (ls := #[true, true, false, false, false, false, false, false, false, false, false, false]) rfl (by kernel_rfl) (by kernel_rfl) (by kernel_rfl) (fun _ _ _ h => h) (p_move (v := .int .i64 (k2 : Int)) rfl) rfl rfl rfl (fun _ hw => HeapIs.drop (HeapIs.toE (i := 1) (m := o2.length) (T := tInt) rfl (by simp only [List.length_set]) hw) (List.Sublist.refl _)) rfl ?_
        refine h_take (i := 2) (ls := #[true, true, true, false, false, false, false, false, false, false, false, false]) rfl (by kernel_rfl) (by kernel_rfl) (by kernel_rfl) (fun _ _ _ h => h) (p_addb (p := (k2 : Int)) (q := 1) rfl rfl (by omega)) rfl rfl rfl (fun _ hw => HeapIs.drop (HeapIs.toE (i := 1) (m := o2.length) (T := tInt) rfl (by simp only [List.length_set]) hw) (List.Sublist.refl _)) rfl ?_
        refine h_take (i := 3) (ls := #[true, true, true, true, false, false, false, false, false, false, false, false]) rfl (by kernel_rfl) (by kernel_rfl) (by kernel_rfl) (fun _ _ _ h => h) (p_indexAddrE (T := tInt) (i := ((k2 : Int) + 1)) (j := 1) rfl rfl rfl Try.underlying30 sz3 (by omega) (by omega)) rfl rfl rfl (fun _ hw => HeapIs.drop (HeapIs.toE (i := 1) (m := o2.length) (T := tInt) rfl (by simp only [List.length_set]) hw) (List.Sublist.refl _)) rfl ?_
        refine h_take (i := 5) (ls := #[true, true, true, true, false, true, false, false, false, false, false, false]) rfl (by kernel_rfl) (by kernel_rfl) (by kernel_rfl) (fun _ _ _ h => h) (p_move (v := .slice a1 o2.length 40) rfl) rfl rfl rfl (fun _ hw => HeapIs.drop (HeapIs.toE (i := 1) (m := o2.length) (T := tInt) rfl (by simp only [List.length_set]) hw) (List.Sublist.refl _)) rfl ?_
        refine h_take (i := 6) (ls := #[true, true, true, true, false, true, true, false, false, false, false, false]) rfl (by kernel_rfl) (by kernel_rfl) (by kernel_rfl) (fun _ _ _ h => h) (p_move (v := .int .i64 (k2 : Int)) rfl) rfl rfl rfl (fun _ hw => HeapIs.drop (HeapIs.toE (i := 1) (m := o2.length) (T := tInt) rfl (by simp only [List.length_set]) hw) (List.Sublist.refl _)) rfl ?_
        refine h_take (i := 7) (ls := #[true, true, true, true, false, true, true, true, false, false, false, false]) rfl (by kernel_rfl) (by kernel_rfl) (by kernel_rfl) (fun _ _ _ h => h) (p_indexAddrE (T := tInt) (i := (k2 : Int)) (j := 1) rfl rfl rfl Try.underlying30 sz3 (by omega) (by omega)) rfl rfl rfl (fun _ hw => HeapIs.drop (HeapIs.toE (i := 1) (m := o2.length) (T := tInt) rfl (by simp only [List.length_set]) hw) (List.Sublist.refl _)) rfl ?_
        refine h_two (i := 4) (j := 8) (ls := #[true, true, true, true, true, true, true, true, false, false, false, false]) (ls' := #[true, true, true, true, false, true, true, true, true, false, false, false]) (by kernel_rfl) rfl rfl rfl rfl ?_ ?_
        · refine o_pure (p_loadE1 (i := ((k2 : Int) + 1).toNat) (T := tInt) (L := o2) (v := .int .i64 (o2[((k2 : Int) + 1).toNat])) rfl (rd_own (i := 1) rfl) (by first | assumption | omega) sh3 rfl) rfl rfl rfl ?_
          refine o_nil ?_
          refine h_next (fun _ hw => HeapIs.drop (HeapIs.toE (i := 1) (m := o2.length) (T := tInt) rfl (by simp only [List.length_set]) hw) (List.Sublist.refl _)) ?_
          refine h_one (i := 8) (ls := #[true, true, true, true, true, true, true, true, true, false, false, false]) (by kernel_rfl) rfl rfl ?_
          refine o_pure (p_loadE1 (i := k2) (T := tInt) (L := o2) (v := .int .i64 (o2[k2])) rfl (rd_own (i := 1) rfl) (by first | assumption | omega) sh3 rfl) rfl rfl rfl ?_
          refine o_nil ?_
          refine h_next (fun _ hw => HeapIs.drop (HeapIs.toE (i := 1) (m := o2.length) (T := tInt) rfl (by simp only [List.length_set]) hw) (List.Sublist.refl _)) ?_
          refine h_take (i := 9) (ls := #[true, true, true, true, true, true, true, true, true, true, false, false]) rfl (by kernel_rfl) (by kernel_rfl) (by kernel_rfl) (fun _ _ _ h => h) (p_addb (p := o2[((k2 : Int) + 1).toNat]) (q := o2[k2]) rfl rfl (by have hb1 := hI.bd (j := k2) (by omega); have hb2 := hI.bd (j := ((k2 : Int) + 1).toNat) (by omega); omega)) rfl rfl rfl (fun _ hw => HeapIs.drop (HeapIs.toE (i := 1) (m := o2.length) (T := tInt) rfl (by simp only [List.length_set]) hw) (List.Sublist.refl _)) rfl ?_
          refine h_take (i := 10) (ls := #[true, true, true, true, true, true, true, true, true, true, true, false]) rfl (by kernel_rfl) (by kernel_rfl) (by kernel_rfl) (fun _ _ _ h => h) (p_indexAddrE (T := tInt) (i := ((k2 : Int) + 1)) (j := 1) rfl rfl rfl Try.underlying30 sz3 (by omega) (by omega)) rfl rfl rfl (fun _ hw => HeapIs.drop (HeapIs.toE (i := 1) (m := o2.length) (T := tInt) rfl (by simp only [List.length_set]) hw) (List.Sublist.refl _)) rfl ?_
          refine h_one (i := 11) (ls := #[true, true, true, true, true, true, true, true, true, true, true, true]) (by kernel_rfl) rfl rfl ?_
          refine o_storeW (i := 1) (T := tInt) (idx := ((k2 : Int) + 1).toNat) (v := .int .i64 (o2[((k2 : Int) + 1).toNat] + o2[k2])) (vs := [.int .i64 (o2[((k2 : Int) + 1).toNat] + o2[k2])]) (z := (o2[((k2 : Int) + 1).toNat] + o2[k2])) rfl rfl rfl rfl (by first | assumption | omega | (simp only [List.length_set]; omega)) sz3 rfl rfl rfl rfl (Sub.refl _) ?_
          refine o_nil ?_
          refine h_next (fun _ hw => HeapIs.drop (HeapIs.toE (i := 1) (m := o2.length) (T := tInt) rfl (by simp only [List.length_set]) hw) (List.Sublist.refl _)) ?_
          refine h_done (by kernel_rfl) ?_
          refine q_kont hK16 () (Sub.cons rfl (Sub.cons rfl (Sub.cons rfl (Sub.nil _)))) (fun _ hw => HeapIs.pick hw [0, 1, 2] (by decide) rfl)
        · refine o_pure (p_loadE1 (i := k2) (T := tInt) (L := o2) (v := .int .i64 (o2[k2])) rfl (rd_own (i := 1) rfl) (by first | assumption | omega) sh3 rfl) rfl rfl rfl ?_
          refine o_nil ?_
          refine h_next (fun _ hw => HeapIs.drop (HeapIs.toE (i := 1) (m := o2.length) (T := tInt) rfl (by simp only [List.length_set]) hw) (List.Sublist.refl _)) ?_
          refine h_one (i := 4) (ls := #[true, true, true, true, true, true, true, true, true, false, false, false]) (by kernel_rfl) rfl rfl ?_
          refine o_pure (p_loadE1 (i := ((k2 : Int) + 1).toNat) (T := tInt) (L := o2) (v := .int .i64 (o2[((k2 : Int) + 1).toNat])) rfl (rd_own (i := 1) rfl) (by first | assumption | omega) sh3 rfl) rfl rfl rfl ?_
          refine o_nil ?_
          refine h_next (fun _ hw => HeapIs.drop (HeapIs.toE (i := 1) (m := o2.length) (T := tInt) rfl (by simp only [List.length_set]) hw) (List.Sublist.refl _)) ?_
          refine h_take (i := 9) (ls := #[true, true, true, true, true, true, true, true, true, true, false, false]) rfl (by kernel_rfl) (by kernel_rfl) (by kernel_rfl) (fun _ _ _ h => h) (p_addb (p := o2[((k2 : Int) + 1).toNat]) (q := o2[k2]) rfl rfl (by have hb1 := hI.bd (j := k2) (by omega); have hb2 := hI.bd (j := ((k2 : Int) + 1).toNat) (by omega); omega)) rfl rfl rfl (fun _ hw => HeapIs.drop (HeapIs.toE (i := 1) (m := o2.length) (T := tInt) rfl (by simp only [List.length_set]) hw) (List.Sublist.refl _)) rfl ?_
          refine h_take (i := 10) (ls := #[true, true, true, true, true, true, true, true, true, true, true, false]) rfl (by kernel_rfl) (by kernel_rfl) (by kernel_rfl) (fun _ _ _ h => h) (p_indexAddrE (T := tInt) (i := ((k2 : Int) + 1)) (j := 1) rfl rfl rfl Try.underlying30 sz3 (by omega) (by omega)) rfl rfl rfl (fun _ hw => HeapIs.drop (HeapIs.toE (i := 1) (m := o2.length) (T := tInt) rfl (by simp only [List.length_set]) hw) (List.Sublist.refl _)) rfl ?_
          refine h_one (i := 11) (ls := #[true, true, true, true, true, true, true, true, true, true, true, true]) (by kernel_rfl) rfl rfl ?_
          refine o_storeW (i := 1) (T := tInt) (idx := ((k2 : Int) + 1).toNat) (v := .int .i64 (o2[((k2 : Int) + 1).toNat] + o2[k2])) (vs := [.int .i64 (o2[((k2 : Int) + 1).toNat] + o2[k2])]) (z := (o2[((k2 : Int) + 1).toNat] + o2[k2])) rfl rfl rfl rfl (by first | assumption | omega | (simp only [List.length_set]; omega)) sz3 rfl rfl rfl rfl (Sub.refl _) ?_
          refine o_nil ?_
          refine h_next (fun _ hw => HeapIs.drop (HeapIs.toE (i := 1) (m := o2.length) (T := tInt) rfl (by simp only [List.length_set]) hw) (List.Sublist.refl _)) ?_
          refine h_done (by kernel_rfl) ?_
          refine q_kont hK16 () (Sub.cons rfl (Sub.cons rfl (Sub.cons rfl (Sub.nil _)))) (fun _ hw => HeapIs.pick hw [0, 1, 2] (by decide) rfl)
      rintro _
      show SQ _ 48 w0 _ _ [(3, .slice a1 o2.length 40), (31, .int .i64 ((ol.drop 1).length : Int)), (32, .int .i64 (k2 : Int))] [own tInt S4 a6 c7 (Deep.depths l), own tInt S2 a1 40 (o2.set (((k2 : Int) + 1).toNat) (o2[((k2 : Int) + 1).toNat] + o2[k2])), base w0]
      refine q_cast (F' := [(3, .slice a1 (o2.set (((k2 : Int) + 1).toNat) (o2[((k2 : Int) + 1).toNat] + o2[k2])).length 40), (31, .int .i64 ((ol.drop 1).length : Int)), (32, .int .i64 (k2 : Int))]) (H := [own tInt S4 a6 c7 (Deep.depths l), own tInt S2 a1 40 (o2.set (((k2 : Int) + 1).toNat) (o2[((k2 : Int) + 1).toNat] + o2[k2])), base w0]) (H' := [own tInt S4 a6 c7 (Deep.depths l), own tInt S2 a1 40 (o2.set (((k2 : Int) + 1).toNat) (o2[((k2 : Int) + 1).toNat] + o2[k2])), base w0]) (Sub.cons (by simp only [List.length_set, List.length_reverse]; rfl) (Sub.cons rfl (Sub.cons rfl (Sub.nil _)))) (by rfl) ?_
      refine q_block_normal (q_then ?_)
      refine c_region ?_
      refine o_pure (p_addb (p := (k2 : Int)) (q := 1) rfl rfl (by omega)) rfl rfl rfl ?_
      refine o_pure (p_move (v := .int .i64 ((k2 : Int) + 1)) rfl) rfl rfl rfl ?_
      refine o_nil ?_
      refine q_round hK13 (k2 + 1, (o2.set (((k2 : Int) + 1).toNat) (o2[((k2 : Int) + 1).toNat] + o2[k2]))) ?_ ?_ ?_ ?_
      · clear hK13
        exact hI.next (by omega) (by omega) (by omega) (by omega)
      · (try dsimp only); omega
      · exact Sub.cons rfl (Sub.cons rfl (Sub.cons rfl (Sub.nil _)))
      · exact fun _ hw => HeapIs.pick hw [0, 1, 2] (by decide) rfl
    · simp only [decide_eq_false_iff_not, Int.not_lt] at hc14
      refine c_exit ?_
      refine q_then_exit (q_then_exit (q_block_exit (q_then ?_)))
      refine c_seq ?_
      refine c_region ?_
      refine o_pure (p_move (v := .slice a1 o2.length 40) rfl) rfl rfl rfl ?_
      refine o_pure (p_assign (v := .slice a1 o2.length 40) rfl) rfl rfl rfl ?_
      refine o_nil ?_
      refine q_then ?_
      refine c_ret ?_
      have hr0 : (o2 : List Int) = (Deep.hits l) := by
        exact hI.done (by omega)
      refine q_endM (p := (a1, 40)) S2 (rt1 rfl (r_tmp rfl)) (i := 2) rfl ?_ ?_ ?_
      · exact (by have hcc := congrArg (fun (y0 : List Int) => (.slice a1 y0.length 40 : Value)) hr0; exact hcc)
      · exact fun w hw => hw.above (i := 2) (j := 1) (by decide) rfl rfl
      · intro w hw; exact Eq.mp (congrArg (fun y => SlO tInt _ w a1 40 y) hr0) ((hw.at (i := 1) rfl).here)
end Go.Proofs.Ytkndekkacimekaa
