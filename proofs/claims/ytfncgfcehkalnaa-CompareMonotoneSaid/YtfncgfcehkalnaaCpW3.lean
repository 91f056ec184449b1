/- The walks, printed by a program from the translation and a specification. -/
import Derived.Test.YtfncgfcehkalnaaCpF
import Derived.Test.YtfncgfcehkalnaaCpPureM3
namespace Go.Proofs.Ytfncgfcehkalnaa
open Go.Sx Go.RowKit
set_option maxHeartbeats 8000000 in
set_option maxRecDepth 100000 in
theorem clone_Frame_ok (l : List DFrame) (al : Option Addr) (cl : Nat) (hy1 : l.length ≤ 1000000) : FnM Try.prog 118 [.slice al l.length cl] (fun w => Rd tFrame w al cl l) (Option Addr × Nat) (fun p => .slice p.1 l.length p.2) (fun p S w => SlO tFrame S w p.1 p.2 l) := by
 refine fnM (nt := 8) (F0 := [(0, .slice al l.length cl)]) Try.func118 rfl Try.ntmps118 rfl rfl (fun w0 hpre => ?_)
 have hl := hpre
 have hlhl := hl.2.1
 refine c_seq (c_region ?_)
 refine o_as rfl rfl ?_
 refine o_nil (q_then (c_seq (c_seq (c_region ?_))))
 refine o_mv rfl rfl ?_
 refine o_pure (p_eqNil rfl rfl Try.underlying93) rfl rfl rfl ?_
 refine o_nil (q_then ?_)
 refine c_cond (b := al.isNone) rfl (fun hc1 => ?_) (fun hc1 => ?_)
 ·skip
  refine c_seq (c_region ?_)
  refine o_as rfl rfl ?_
  refine o_nil (q_then (c_ret ?_))
  refine q_then_ret ?_
  have hr0 : ([] : List DFrame) = l := by
   first | exact (rd_isNone hl (by assumption)).symm | simp
  refine q_endM (p := (none, 0)) (fun _ => False) (rt1 rfl (r_tmp rfl)) (i := 0) rfl ?_ ?_ ?_
  ·exact (by have hcc := congrArg (fun (y0 : List DFrame) => (.slice none y0.length 0 : Value)) hr0; exact hcc)
  ·intro w hw b hb; exact hb.elim
  ·intro w hw; exact Eq.mp (congrArg (fun y => SlO tFrame _ w none 0 y) hr0) (SlO.nil tFrame w)
 ·skip
  refine c_skip (q_then (c_seq (c_region ?_)))
  refine o_buildSlice (m := 0) (T := tFrame) (L := []) (vs := []) rfl rfl rfl rfl Try.underlying93 sz156 (by decide) ze156 rfl (by decide) rfl (fun S2 a3 => ?_)
  refine o_mv rfl rfl ?_
  refine o_append (i := 0) (L := []) (M := l) (T := tFrame) rfl rfl rfl (rd_base (i := 1) rfl hl) Try.underlying93 Try.underlying93 (by intro k h; cases h) el156 (by intro z; simp [tFrame, one1]) (by decide) (by simp only [List.length_nil]; omega) rfl (fun a5 c6 S7 => ?_)
  refine o_as rfl rfl ?_
  refine o_nil (q_then (c_ret ?_))
  have hr0 : (([] ++ l) : List DFrame) = l := by
   first | exact (rd_isNone hl (by assumption)).symm | simp
  refine q_endM (p := (a5, c6)) S7 (rt1 rfl (r_tmp rfl)) (i := 1) rfl ?_ ?_ ?_
  ·exact (by have hcc := congrArg (fun (y0 : List DFrame) => (.slice a5 y0.length c6 : Value)) hr0; exact hcc)
  ·exact fun w hw => hw.above (i := 1) (j := 0) (by decide) rfl rfl
  ·intro w hw; exact Eq.mp (congrArg (fun y => SlO tFrame _ w a5 c6 y) hr0) ((hw.at (i := 0) rfl).here)

set_option maxHeartbeats 8000000 in
set_option maxRecDepth 100000 in
theorem indexFunc_Frame_ok (l : List DFrame) (al : Option Addr) (cl : Nat) (gf : FuncId) (kf : List Value) (f : DFrame → Bool) (Pf : World → Prop) (stf : ∀ w w', Below w.heap.size w w' → Pf w → Pf w') (okf : ∀ (x : DFrame), Fn0 Try.prog gf (.agg #[.int .i64 x.key, .bool x.used] :: kf) Pf (.bool (f x))) (hpf : HasFn Try.prog gf) : Fn0 Try.prog 119 [.slice al l.length cl, .func (.func gf) #[] kf.toArray] (fun w => Rd tFrame w al cl l ∧ Pf w) (.int .i64 (idxF f l)) := by
 refine fn0 (nt := 19) (F0 := [(0, .slice al l.length cl), (1, .func (.func gf) #[] kf.toArray)]) Try.func119 rfl Try.ntmps119 rfl rfl (fun w0 hpre => ?_)
 obtain ⟨hl, hf⟩ := hpre
 have hlhl := hl.2.1
 refine c_seq (c_region ?_)
 refine o_as rfl rfl ?_
 refine o_nil (q_then (c_seq (c_seq (c_region ?_))))
 refine o_mv rfl rfl ?_
 refine o_pure (p_len_slice (len := l.length) rfl rfl Try.underlying93) rfl rfl rfl ?_
 refine o_mv rfl rfl ?_
 refine o_nil (q_then (c_block ?_))
 refine c_loop (St := Nat)
  (fun k => [(0, .slice al l.length cl), (1, .func (.func gf) #[] kf.toArray), (7, .int .i64 (l.length : Int)), (8, .int .i64 (k : Int))])
  (fun k => [base w0])
  (fun k => k ≤ l.length ∧ ∀ j (h : j < l.length), j < k → f l[j] = false)
  (fun k => l.length - k)
  0 ?_ (Sub.cons rfl (Sub.cons rfl (Sub.cons rfl (Sub.cons rfl (Sub.nil _))))) (fun _ hw => hw) ?_
 ·exact ⟨Nat.zero_le _, fun j _ h => absurd h (by omega)⟩
 rintro k hI K hK1
 obtain ⟨hI1, hI2⟩ := hI
 show SC _ _ Try.prog 19 w0 _ _ [(0, .slice al l.length cl), (1, .func (.func gf) #[] kf.toArray), (7, .int .i64 (l.length : Int)), (8, .int .i64 (k : Int))] [base w0]
 refine c_seq (c_region ?_)
 refine o_pure (p_lt (p := (k : Int)) (q := (l.length : Int)) rfl rfl) rfl rfl rfl ?_
 refine o_nil (q_then (c_seq ?_))
 refine c_cond (b := decide ((k : Int) < (l.length : Int))) rfl (fun hc2 => ?_) (fun hc2 => ?_)
 ·simp only [decide_eq_true_eq] at hc2
  refine c_skip (q_then (c_seq (c_block (c_seq (c_region ?_)))))
  refine o_mv rfl rfl ?_
  refine o_as rfl rfl ?_
  refine o_nil (q_then (c_seq (c_region ?_)))
  refine o_mv rfl rfl ?_
  refine o_mv rfl rfl ?_
  refine o_mv rfl rfl ?_
  refine o_pure (p_indexAddr (L := l) (T := tFrame) (i := (k : Int)) rfl rfl (rd_base (i := 0) rfl hl) Try.underlying93 sz156 (by omega) (by omega)) rfl rfl rfl ?_
  refine o_pure (p_loadEn (i := k) (T := tFrame) (L := l) (vs := [.int .i64 ((l[k]).key), .bool ((l[k]).used)]) rfl (rd_base (i := 0) rfl hl) (by first | assumption | omega) sh156 rfl) rfl rfl rfl ?_
  refine o_call0V (vs := [.agg #[.int .i64 ((l[k]).key), .bool ((l[k]).used)]]) (caps := kf) (v := .bool (f (l[k]))) rfl rfl (okf (l[k])) hpf (pre_base (i := 0) rfl stf hf) rfl ?_
  refine o_nil (q_then ?_)
  refine c_cond (b := (f (l[k]))) rfl (fun hc3 => ?_) (fun hc3 => ?_)
  ·skip
   refine c_seq (c_region ?_)
   refine o_mv rfl rfl ?_
   refine o_as rfl rfl ?_
   refine o_nil (q_then (c_ret ?_))
   refine q_block_ret (q_then_ret (q_then_ret (q_block_ret (q_then_ret ?_))))
   have hr0 : ((k : Int) : Int) = (idxF f l) := by
    first | exact idxF_found (by omega) (by assumption) hI2 | exact idxF_none (fun j h => hI2 j h (by omega))
   refine q_end0 (v := .int .i64 (k : Int)) (rt1 rfl (r_tmp rfl)) (i := 0) rfl ?_
   exact (by have hcc := congrArg (fun (y0 : Int) => (.int .i64 y0 : Value)) hr0; exact hcc)
  ·skip
   refine c_skip ?_
   refine q_block_normal (q_then ?_)
   refine c_region ?_
   refine o_pure (p_addb (p := (k : Int)) (q := 1) rfl rfl (by omega)) rfl rfl rfl ?_
   refine o_mv rfl rfl ?_
   refine o_nil ?_
   refine q_round hK1 (k + 1) ?_ ?_ ?_ ?_
   ·clear hK1
    refine ⟨by omega, fun j h h2 => ?_⟩
    by_cases e : j = k
    ·subst e; assumption
    ·exact hI2 j h (by omega)
   ·(try dsimp only); omega
   ·exact Sub.cons rfl (Sub.cons rfl (Sub.cons rfl (Sub.cons rfl (Sub.nil _))))
   ·exact fun _ hw => HeapIs.pick hw [0] (by decide) rfl
 ·simp only [decide_eq_false_iff_not, Int.not_lt] at hc2
  refine c_exit ?_
  refine q_then_exit (q_then_exit (q_block_exit (q_then ?_)))
  refine c_seq (c_region ?_)
  refine o_as rfl rfl ?_
  refine o_nil (q_then (c_ret ?_))
  have hr0 : ((-1) : Int) = (idxF f l) := by
   first | exact idxF_found (by omega) (by assumption) hI2 | exact idxF_none (fun j h => hI2 j h (by omega))
  refine q_end0 (v := .int .i64 (-1)) (rt1 rfl (r_tmp rfl)) (i := 0) rfl ?_
  exact (by have hcc := congrArg (fun (y0 : Int) => (.int .i64 y0 : Value)) hr0; exact hcc)

set_option maxHeartbeats 8000000 in
set_option maxRecDepth 100000 in
theorem touch1_ok (f : DFrame) (Bk : Nat) (key : Int) : Fn0 Try.prog 120 [.agg #[.int .i64 f.key, .bool f.used], .pointer (some ⟨Bk, 0, none⟩)] (fun w => (box Bk [.int .i64 key] 3).A w) (.bool (f.key == key)) := by
 refine fn0 (nt := 8) (F0 := [(0, .agg #[.int .i64 f.key, .bool f.used]), (1, .pointer (some ⟨Bk, 0, none⟩))]) Try.func120 rfl Try.ntmps120 rfl rfl (fun w0 hpre => ?_)
 have hBk := hpre
 refine c_seq (c_region ?_)
 refine o_box (v := .agg #[.int .i64 f.key, .bool f.used]) rfl rfl (fun B1 => ?_)
 refine o_as rfl rfl ?_
 refine o_nil (q_then (c_seq (c_region ?_)))
 refine o_pure (p_fieldAddr (B := B1) (j := 0) (j' := 0) rfl fo156_0 rfl) rfl rfl rfl ?_
 refine o_pure (p_load (i := 0) (v := .int .i64 f.key) rfl rfl sh3 rfl) rfl rfl rfl ?_
 refine o_pure (p_loadR (v := .int .i64 key) rfl (rbox_base (i := 1) rfl hBk) sh3 rfl) rfl rfl rfl ?_
 refine o_pure (p_eq (p := f.key) (q := key) rfl rfl) rfl rfl rfl ?_
 refine o_as rfl rfl ?_
 refine o_nil (q_then (c_ret ?_))
 refine q_end0 (v := .bool (f.key == key)) (rt1 rfl (r_tmp rfl)) (i := 1) rfl ?_
 exact rfl

set_option maxHeartbeats 8000000 in
set_option maxRecDepth 100000 in
theorem step_ok (c : DClock) (Bc : Nat) (ac_0 : Option Addr) (cc_0 : Nat) (Sc_0 : Nat → Prop) (hy1 : 0 ≤ c.hand ∧ c.hand ≤ 100 ∧ 0 < c.frames.length) : FnX Try.prog 121 [.pointer (some ⟨Bc, 0, none⟩)] [box Bc [.int .i64 c.room, .int .i64 c.hand, .slice ac_0 c.frames.length cc_0] 122, own tFrame Sc_0 ac_0 cc_0 c.frames] (fun _ => True) (Option Addr × Nat × (Nat → Prop)) (fun p => .tuple #[]) (fun p => [box Bc [.int .i64 c.room, .int .i64 ((c.hand + 1).tmod (c.frames.length : Int)), .slice p.1 c.frames.length p.2.1] 122, own tFrame p.2.2 p.1 p.2.1 c.frames]) := by
 refine fnX (nt := 19) (F0 := [(0, .pointer (some ⟨Bc, 0, none⟩))]) Try.func121 rfl Try.ntmps121 rfl rfl (fun w0 hpre => ?_)
 refine c_know (fun w hw => own_len (i := 2) (T := tFrame) hw rfl) (fun hlown_c_0 => ?_)
 obtain ⟨hcown_c_0, hlown_c_0⟩ := hlown_c_0
 refine c_cut (G := Unit) (fun _ => []) (fun _ => [outer w0 [box Bc [.int .i64 c.room, .int .i64 c.hand, .slice ac_0 c.frames.length cc_0] 122, own tFrame Sc_0 ac_0 cc_0 c.frames], box Bc [.int .i64 c.room, .int .i64 ((c.hand + 1).tmod (c.frames.length : Int)), .slice ac_0 c.frames.length cc_0] 122, own tFrame Sc_0 ac_0 cc_0 c.frames]) (fun K hK2 => ?_) ?_
 ·refine c_held hmix [outer w0 [box Bc [.int .i64 c.room, .int .i64 c.hand, .slice ac_0 c.frames.length cc_0] 122, own tFrame Sc_0 ac_0 cc_0 c.frames], own tFrame Sc_0 ac_0 cc_0 c.frames] rfl rfl ?_
  refine h_tk (i := 0) (ls := #[true, false, false, false, false, false, false, false, false, false, false, false, false, false, false, false, false, false]) rfl (p_move rfl) (fun _ hw => HeapIs.drop hw (List.Sublist.cons_cons _ (List.Sublist.cons _ (List.Sublist.cons_cons _ (List.Sublist.slnil))))) ?_
  refine h_tk (i := 1) (ls := #[true, true, false, false, false, false, false, false, false, false, false, false, false, false, false, false, false, false]) rfl (p_move rfl) (fun _ hw => HeapIs.drop hw (List.Sublist.cons_cons _ (List.Sublist.cons _ (List.Sublist.cons_cons _ (List.Sublist.slnil))))) ?_
  refine h_tk (i := 2) (ls := #[true, true, true, false, false, false, false, false, false, false, false, false, false, false, false, false, false, false]) rfl (p_nilCheck rfl) (fun _ hw => HeapIs.drop hw (List.Sublist.cons_cons _ (List.Sublist.cons _ (List.Sublist.cons_cons _ (List.Sublist.slnil))))) ?_
  refine h_tk (i := 3) (ls := #[true, true, true, true, false, false, false, false, false, false, false, false, false, false, false, false, false, false]) rfl (p_fieldAddr (B := Bc) (j := 0) (j' := 0) rfl fo122_0 rfl) (fun _ hw => HeapIs.drop hw (List.Sublist.cons_cons _ (List.Sublist.cons _ (List.Sublist.cons_cons _ (List.Sublist.slnil))))) ?_
  refine h_tk (i := 4) (ls := #[true, true, true, true, true, false, false, false, false, false, false, false, false, false, false, false, false, false]) rfl (p_fieldAddr (B := Bc) (j := 0) (j' := 1) rfl fo95_1 rfl) (fun _ hw => HeapIs.drop hw (List.Sublist.cons_cons _ (List.Sublist.cons _ (List.Sublist.cons_cons _ (List.Sublist.slnil))))) ?_
  refine h_tk (i := 7) (ls := #[true, true, true, true, true, false, false, true, false, false, false, false, false, false, false, false, false, false]) rfl (p_move rfl) (fun _ hw => HeapIs.drop hw (List.Sublist.cons_cons _ (List.Sublist.cons _ (List.Sublist.cons_cons _ (List.Sublist.slnil))))) ?_
  refine h_tk (i := 8) (ls := #[true, true, true, true, true, false, false, true, true, false, false, false, false, false, false, false, false, false]) rfl (p_nilCheck rfl) (fun _ hw => HeapIs.drop hw (List.Sublist.cons_cons _ (List.Sublist.cons _ (List.Sublist.cons_cons _ (List.Sublist.slnil))))) ?_
  refine h_tk (i := 9) (ls := #[true, true, true, true, true, false, false, true, true, true, false, false, false, false, false, false, false, false]) rfl (p_fieldAddr (B := Bc) (j := 0) (j' := 0) rfl fo122_0 rfl) (fun _ hw => HeapIs.drop hw (List.Sublist.cons_cons _ (List.Sublist.cons _ (List.Sublist.cons_cons _ (List.Sublist.slnil))))) ?_
  refine h_tk (i := 10) (ls := #[true, true, true, true, true, false, false, true, true, true, true, false, false, false, false, false, false, false]) rfl (p_fieldAddr (B := Bc) (j := 0) (j' := 2) rfl fo95_2 rfl) (fun _ hw => HeapIs.drop hw (List.Sublist.cons_cons _ (List.Sublist.cons _ (List.Sublist.cons_cons _ (List.Sublist.slnil))))) ?_
  refine h_two (i := 5) (j := 11) (ls := #[true, true, true, true, true, true, false, true, true, true, true, false, false, false, false, false, false, false]) (ls' := #[true, true, true, true, true, false, false, true, true, true, true, true, false, false, false, false, false, false]) (by kernel_rfl) rfl rfl rfl rfl ?_ ?_
  ·refine o_pure (p_load (i := 1) (v := .int .i64 c.hand) rfl rfl sh3 rfl) rfl rfl rfl ?_
   refine o_nil ?_
   refine h_next (fun _ hw => HeapIs.drop hw (List.Sublist.cons_cons _ (List.Sublist.cons _ (List.Sublist.cons_cons _ (List.Sublist.slnil))))) ?_
   refine h_tk (i := 6) (ls := #[true, true, true, true, true, true, true, true, true, true, true, false, false, false, false, false, false, false]) rfl (p_addb (p := c.hand) (q := 1) rfl rfl (by omega)) (fun _ hw => HeapIs.drop hw (List.Sublist.cons_cons _ (List.Sublist.cons _ (List.Sublist.cons_cons _ (List.Sublist.slnil))))) ?_
   refine h_one (i := 11) (ls := #[true, true, true, true, true, true, true, true, true, true, true, true, false, false, false, false, false, false]) (by kernel_rfl) rfl rfl ?_
   refine o_pure (p_load (i := 1) (v := .slice ac_0 c.frames.length cc_0) rfl rfl sh93 rfl) rfl rfl rfl ?_
   refine o_nil ?_
   refine h_next (fun _ hw => HeapIs.drop hw (List.Sublist.cons_cons _ (List.Sublist.cons _ (List.Sublist.cons_cons _ (List.Sublist.slnil))))) ?_
   refine h_tk (i := 12) (ls := #[true, true, true, true, true, true, true, true, true, true, true, true, true, false, false, false, false, false]) rfl (p_len_slice (len := c.frames.length) rfl rfl Try.underlying93) (fun _ hw => HeapIs.drop hw (List.Sublist.cons_cons _ (List.Sublist.cons _ (List.Sublist.cons_cons _ (List.Sublist.slnil))))) ?_
   refine h_tk (i := 13) (ls := #[true, true, true, true, true, true, true, true, true, true, true, true, true, true, false, false, false, false]) rfl (p_rem (p := (c.hand + 1)) (q := (c.frames.length : Int)) rfl rfl (by omega)) (fun _ hw => HeapIs.drop hw (List.Sublist.cons_cons _ (List.Sublist.cons _ (List.Sublist.cons_cons _ (List.Sublist.slnil))))) ?_
   refine h_tk (i := 14) (ls := #[true, true, true, true, true, true, true, true, true, true, true, true, true, true, true, false, false, false]) rfl (p_nilCheck rfl) (fun _ hw => HeapIs.drop hw (List.Sublist.cons_cons _ (List.Sublist.cons _ (List.Sublist.cons_cons _ (List.Sublist.slnil))))) ?_
   refine h_tk (i := 15) (ls := #[true, true, true, true, true, true, true, true, true, true, true, true, true, true, true, true, false, false]) rfl (p_fieldAddr (B := Bc) (j := 0) (j' := 0) rfl fo122_0 rfl) (fun _ hw => HeapIs.drop hw (List.Sublist.cons_cons _ (List.Sublist.cons _ (List.Sublist.cons_cons _ (List.Sublist.slnil))))) ?_
   refine h_tk (i := 16) (ls := #[true, true, true, true, true, true, true, true, true, true, true, true, true, true, true, true, true, false]) rfl (p_fieldAddr (B := Bc) (j := 0) (j' := 1) rfl fo95_1 rfl) (fun _ hw => HeapIs.drop hw (List.Sublist.cons_cons _ (List.Sublist.cons _ (List.Sublist.cons_cons _ (List.Sublist.slnil))))) ?_
   refine h_one (i := 17) (ls := #[true, true, true, true, true, true, true, true, true, true, true, true, true, true, true, true, true, true]) (by kernel_rfl) rfl rfl ?_
   refine o_store (i := 1) (v := .int .i64 ((c.hand + 1).tmod (c.frames.length : Int))) (cs' := [.int .i64 c.room, .int .i64 ((c.hand + 1).tmod (c.frames.length : Int)), .slice ac_0 c.frames.length cc_0]) rfl rfl rfl sz3 rfl rfl rfl ?_
   refine o_nil ?_
   refine h_next (fun _ hw => HeapIs.drop hw (List.Sublist.cons_cons _ (List.Sublist.cons _ (List.Sublist.cons_cons _ (List.Sublist.slnil))))) ?_
   refine h_done (by kernel_rfl) ?_
   refine q_kont hK2 () (Sub.nil _) (fun _ hw => HeapIs.pick hw [0, 1, 2] (by decide) rfl)
  ·refine o_pure (p_load (i := 1) (v := .slice ac_0 c.frames.length cc_0) rfl rfl sh93 rfl) rfl rfl rfl ?_
   refine o_nil ?_
   refine h_next (fun _ hw => HeapIs.drop hw (List.Sublist.cons_cons _ (List.Sublist.cons _ (List.Sublist.cons_cons _ (List.Sublist.slnil))))) ?_
   refine h_tk (i := 12) (ls := #[true, true, true, true, true, false, false, true, true, true, true, true, true, false, false, false, false, false]) rfl (p_len_slice (len := c.frames.length) rfl rfl Try.underlying93) (fun _ hw => HeapIs.drop hw (List.Sublist.cons_cons _ (List.Sublist.cons _ (List.Sublist.cons_cons _ (List.Sublist.slnil))))) ?_
   refine h_one (i := 5) (ls := #[true, true, true, true, true, true, false, true, true, true, true, true, true, false, false, false, false, false]) (by kernel_rfl) rfl rfl ?_
   refine o_pure (p_load (i := 1) (v := .int .i64 c.hand) rfl rfl sh3 rfl) rfl rfl rfl ?_
   refine o_nil ?_
   refine h_next (fun _ hw => HeapIs.drop hw (List.Sublist.cons_cons _ (List.Sublist.cons _ (List.Sublist.cons_cons _ (List.Sublist.slnil))))) ?_
   refine h_tk (i := 6) (ls := #[true, true, true, true, true, true, true, true, true, true, true, true, true, false, false, false, false, false]) rfl (p_addb (p := c.hand) (q := 1) rfl rfl (by omega)) (fun _ hw => HeapIs.drop hw (List.Sublist.cons_cons _ (List.Sublist.cons _ (List.Sublist.cons_cons _ (List.Sublist.slnil))))) ?_
   refine h_tk (i := 13) (ls := #[true, true, true, true, true, true, true, true, true, true, true, true, true, true, false, false, false, false]) rfl (p_rem (p := (c.hand + 1)) (q := (c.frames.length : Int)) rfl rfl (by omega)) (fun _ hw => HeapIs.drop hw (List.Sublist.cons_cons _ (List.Sublist.cons _ (List.Sublist.cons_cons _ (List.Sublist.slnil))))) ?_
   refine h_tk (i := 14) (ls := #[true, true, true, true, true, true, true, true, true, true, true, true, true, true, true, false, false, false]) rfl (p_nilCheck rfl) (fun _ hw => HeapIs.drop hw (List.Sublist.cons_cons _ (List.Sublist.cons _ (List.Sublist.cons_cons _ (List.Sublist.slnil))))) ?_
   refine h_tk (i := 15) (ls := #[true, true, true, true, true, true, true, true, true, true, true, true, true, true, true, true, false, false]) rfl (p_fieldAddr (B := Bc) (j := 0) (j' := 0) rfl fo122_0 rfl) (fun _ hw => HeapIs.drop hw (List.Sublist.cons_cons _ (List.Sublist.cons _ (List.Sublist.cons_cons _ (List.Sublist.slnil))))) ?_
   refine h_tk (i := 16) (ls := #[true, true, true, true, true, true, true, true, true, true, true, true, true, true, true, true, true, false]) rfl (p_fieldAddr (B := Bc) (j := 0) (j' := 1) rfl fo95_1 rfl) (fun _ hw => HeapIs.drop hw (List.Sublist.cons_cons _ (List.Sublist.cons _ (List.Sublist.cons_cons _ (List.Sublist.slnil))))) ?_
   refine h_one (i := 17) (ls := #[true, true, true, true, true, true, true, true, true, true, true, true, true, true, true, true, true, true]) (by kernel_rfl) rfl rfl ?_
   refine o_store (i := 1) (v := .int .i64 ((c.hand + 1).tmod (c.frames.length : Int))) (cs' := [.int .i64 c.room, .int .i64 ((c.hand + 1).tmod (c.frames.length : Int)), .slice ac_0 c.frames.length cc_0]) rfl rfl rfl sz3 rfl rfl rfl ?_
   refine o_nil ?_
   refine h_next (fun _ hw => HeapIs.drop hw (List.Sublist.cons_cons _ (List.Sublist.cons _ (List.Sublist.cons_cons _ (List.Sublist.slnil))))) ?_
   refine h_done (by kernel_rfl) ?_
   refine q_kont hK2 () (Sub.nil _) (fun _ hw => HeapIs.pick hw [0, 1, 2] (by decide) rfl)
 rintro _
 show SQ _ 19 w0 _ _ [] [outer w0 [box Bc [.int .i64 c.room, .int .i64 c.hand, .slice ac_0 c.frames.length cc_0] 122, own tFrame Sc_0 ac_0 cc_0 c.frames], box Bc [.int .i64 c.room, .int .i64 ((c.hand + 1).tmod (c.frames.length : Int)), .slice ac_0 c.frames.length cc_0] 122, own tFrame Sc_0 ac_0 cc_0 c.frames]
 refine q_endX (p := (ac_0, cc_0, Sc_0)) (rt0 rfl) ?_ (fun w hw => ?_)
 ·exact rfl
 ·have h2 := hw.pick (H' := [outer w0 [box Bc [.int .i64 c.room, .int .i64 c.hand, .slice ac_0 c.frames.length cc_0] 122, own tFrame Sc_0 ac_0 cc_0 c.frames], box Bc [.int .i64 c.room, .int .i64 ((c.hand + 1).tmod (c.frames.length : Int)), .slice ac_0 c.frames.length cc_0] 122, own tFrame Sc_0 ac_0 cc_0 c.frames]) [0, 1, 2] (by decide) rfl
  exact Eq.mp (congrArg (fun z => HeapIs w0 ((outer w0 [box Bc [.int .i64 c.room, .int .i64 c.hand, .slice ac_0 c.frames.length cc_0] 122, own tFrame Sc_0 ac_0 cc_0 c.frames]) :: z) w) (rfl)) h2

set_option maxHeartbeats 8000000 in
set_option maxRecDepth 100000 in
theorem ckeys_ok (l : List DFrame) (al : Option Addr) (cl : Nat) (hy1 : l.length ≤ 1000000) : FnM Try.prog 117 [.slice al l.length cl] (fun w => Rd tFrame w al cl l) (Option Addr × Nat) (fun p => .slice p.1 (Clock.keysOf l).length p.2) (fun p S w => SlO tInt S w p.1 p.2 (Clock.keysOf l)) := by
 refine fnM (nt := 23) (F0 := [(0, .slice al l.length cl)]) Try.func117 rfl Try.ntmps117 rfl rfl (fun w0 hpre => ?_)
 have hl := hpre
 have hlhl := hl.2.1
 refine c_seq (c_region ?_)
 refine o_as rfl rfl ?_
 refine o_nil (q_then (c_seq (c_region ?_)))
 refine o_mv rfl rfl ?_
 refine o_pure (p_len_slice (len := l.length) rfl rfl Try.underlying93) rfl rfl rfl ?_
 refine o_makeSlice (T := tInt) (m := (l.length : Int)) (z := 0) rfl rfl Try.underlying22 el3 ze3 rfl (by decide) (by omega) (by omega) rfl (fun S2 a1 => ?_)
 refine o_as rfl rfl ?_
 refine o_nil (q_then (c_seq (c_seq (c_region ?_))))
 refine o_mv rfl rfl ?_
 refine o_pure (p_len_slice (len := l.length) rfl rfl Try.underlying93) rfl rfl rfl ?_
 refine o_mv rfl rfl ?_
 refine o_nil (q_then (c_block ?_))
 refine c_loop (St := Nat × List Int)
  (fun ⟨k, out⟩ => [(3, .slice a1 out.length ((l.length : Int).toNat)), (9, .slice al l.length cl), (10, .int .i64 (l.length : Int)), (11, .int .i64 (k : Int))])
  (fun ⟨k, out⟩ => [own tInt S2 a1 ((l.length : Int).toNat) out, base w0])
  (fun ⟨k, out⟩ => k ≤ l.length ∧ out = Clock.keysTo l k)
  (fun ⟨k, out⟩ => l.length - k)
  (0, (List.replicate ((l.length : Int).toNat) 0)) ?_ (Sub.cons rfl (Sub.cons rfl (Sub.cons rfl (Sub.cons rfl (Sub.nil _))))) (fun _ hw => hw) ?_
 ·exact ⟨Nat.zero_le _, Clock.keysTo_zero l⟩
 rintro ⟨k, out⟩ hI K hK4
 obtain ⟨hI1, hI2⟩ := hI
 have ho : out.length = l.length := by rw [hI2, Clock.keysTo_length hI1]
 show SC _ _ Try.prog 23 w0 _ _ [(3, .slice a1 out.length ((l.length : Int).toNat)), (9, .slice al l.length cl), (10, .int .i64 (l.length : Int)), (11, .int .i64 (k : Int))] [own tInt S2 a1 ((l.length : Int).toNat) out, base w0]
 refine c_seq (c_region ?_)
 refine o_pure (p_lt (p := (k : Int)) (q := (l.length : Int)) rfl rfl) rfl rfl rfl ?_
 refine o_nil (q_then (c_seq ?_))
 refine c_cond (b := decide ((k : Int) < (l.length : Int))) rfl (fun hc5 => ?_) (fun hc5 => ?_)
 ·simp only [decide_eq_true_eq] at hc5
  refine c_skip (q_then (c_seq (c_block (c_seq (c_region ?_)))))
  refine o_mv rfl rfl ?_
  refine o_pure (p_indexAddr (L := l) (T := tFrame) (i := (k : Int)) rfl rfl (rd_base (i := 1) rfl hl) Try.underlying93 sz156 (by omega) (by omega)) rfl rfl rfl ?_
  refine o_pure (p_loadEn (i := k) (T := tFrame) (L := l) (vs := [.int .i64 ((l[k]).key), .bool ((l[k]).used)]) rfl (rd_base (i := 1) rfl hl) (by first | assumption | omega) sh156 rfl) rfl rfl rfl ?_
  refine o_alloc ze156 rfl (fun B6 => ?_)
  refine o_as rfl rfl ?_
  refine o_storeN (i := 0) (vs := [.int .i64 ((l[k]).key), .bool ((l[k]).used)]) (cs' := [.int .i64 ((l[k]).key), .bool ((l[k]).used)]) rfl rfl rfl sz156 rfl rfl rfl rfl ?_
  refine o_nil (q_then (c_region ?_))
  refine o_mv rfl rfl ?_
  refine o_mv rfl rfl ?_
  refine o_pure (p_fieldAddr (B := B6) (j := 0) (j' := 0) rfl fo156_0 rfl) rfl rfl rfl ?_
  refine o_pure (p_load (i := 0) (v := .int .i64 ((l[k]).key)) rfl rfl sh3 rfl) rfl rfl rfl ?_
  refine o_pure (p_indexAddr (L := out) (T := tInt) (i := (k : Int)) rfl rfl (rd_own (i := 1) rfl) Try.underlying22 sz3 (by omega) (by omega)) rfl rfl rfl ?_
  refine o_storeW (i := 1) (T := tInt) (idx := k) (v := .int .i64 ((l[k]).key)) (vs := [.int .i64 ((l[k]).key)]) (z := (l[k]).key) (F' := [(3, .slice a1 (out.set k ((l[k]).key)).length ((l.length : Int).toNat)), (9, .slice al l.length cl), (10, .int .i64 (l.length : Int)), (11, .int .i64 (k : Int))]) rfl rfl rfl rfl (by first | assumption | omega | (simp only [List.length_set]; omega)) sz3 rfl rfl rfl rfl (Sub.cons (by first | (simp only [List.length_set]; rfl) | (show some _ = some _; congr 2; rw [List.length_set]) | (rw [List.length_set]; rfl)) (Sub.cons rfl (Sub.cons rfl (Sub.cons rfl (Sub.nil _))))) ?_
  refine o_nil ?_
  refine q_block_normal (q_then ?_)
  refine c_region ?_
  refine o_pure (p_addb (p := (k : Int)) (q := 1) rfl rfl (by omega)) rfl rfl rfl ?_
  refine o_mv rfl rfl ?_
  refine o_nil ?_
  refine q_round hK4 (k + 1, (out.set k ((l[k]).key))) ?_ ?_ ?_ ?_
  ·clear hK4
   exact ⟨by omega, Clock.keysTo_next (by omega) hI2⟩
  ·(try dsimp only); omega
  ·exact Sub.cons rfl (Sub.cons rfl (Sub.cons rfl (Sub.cons rfl (Sub.nil _))))
  ·exact fun _ hw => HeapIs.pick hw [1, 2] (by decide) rfl
 ·simp only [decide_eq_false_iff_not, Int.not_lt] at hc5
  refine c_exit ?_
  refine q_then_exit (q_then_exit (q_block_exit (q_then ?_)))
  refine c_seq (c_region ?_)
  refine o_mv rfl rfl ?_
  refine o_as rfl rfl ?_
  refine o_nil (q_then (c_ret ?_))
  have hr0 : (out : List Int) = (Clock.keysOf l) := by
   exact Clock.keys_end (by omega) hI2
  refine q_endM (p := (a1, (l.length : Int).toNat)) S2 (rt1 rfl (r_tmp rfl)) (i := 1) rfl ?_ ?_ ?_
  ·exact (by have hcc := congrArg (fun (y0 : List Int) => (.slice a1 y0.length ((l.length : Int).toNat) : Value)) hr0; exact hcc)
  ·exact fun w hw => hw.above (i := 1) (j := 0) (by decide) rfl rfl
  ·intro w hw; exact Eq.mp (congrArg (fun y => SlO tInt _ w a1 ((l.length : Int).toNat) y) hr0) ((hw.at (i := 0) rfl).here)

set_option maxHeartbeats 8000000 in
set_option maxRecDepth 100000 in
theorem ccheck_ok (c : DClock) (ac_0 : Option Addr) (cc_0 : Nat) : Fn0 Try.prog 91 [.agg #[.int .i64 c.room, .int .i64 c.hand, .slice ac_0 c.frames.length cc_0]] (fun w => Rd tFrame w ac_0 cc_0 c.frames) (.int .i64 (Clock.check c)) := by
 refine fn0 (nt := 36) (F0 := [(0, .agg #[.int .i64 c.room, .int .i64 c.hand, .slice ac_0 c.frames.length cc_0])]) Try.func91 rfl Try.ntmps91 rfl rfl (fun w0 hpre => ?_)
 have hc_0 := hpre
 have hlhc_0 := hc_0.2.1
 refine c_seq (c_region ?_)
 refine o_box (v := .agg #[.int .i64 c.room, .int .i64 c.hand, .slice ac_0 c.frames.length cc_0]) rfl rfl (fun B1 => ?_)
 refine o_as rfl rfl ?_
 refine o_nil (q_then (c_seq (c_block (c_seq (c_region ?_)))))
 refine o_pure (p_fieldAddr (B := B1) (j := 0) (j' := 0) rfl fo95_0 rfl) rfl rfl rfl ?_
 refine o_pure (p_load (i := 0) (v := .int .i64 c.room) rfl rfl sh3 rfl) rfl rfl rfl ?_
 refine o_call0 (v := .bool (Lru.okRoom c.room)) rfl (room_ok c.room) hf78 (fun _ _ => trivial) rfl ?_
 refine o_pure (p_not (b := (Lru.okRoom c.room)) rfl) rfl rfl rfl ?_
 refine o_as rfl rfl ?_
 refine o_nil (q_then ?_)
 refine c_cond (b := (!(Lru.okRoom c.room))) rfl (fun hc2 => ?_) (fun hc2 => ?_)
 ·simp only [Bool.not_eq_true'] at hc2
  refine c_seq (c_region ?_)
  refine o_as rfl rfl ?_
  refine o_nil (q_then (c_ret ?_))
  refine q_block_ret (q_then_ret ?_)
  have hr0 : (3 : Int) = (Clock.check c) := by
   simp only [Clock.check]; grind
  refine q_end0 (v := .int .i64 3) (rt1 rfl (r_tmp rfl)) (i := 1) rfl ?_
  exact (by have hcc := congrArg (fun (y0 : Int) => (.int .i64 y0 : Value)) hr0; exact hcc)
 ·simp only [Bool.not_eq_false'] at hc2
  have hroom := Lru.room_ok hc2
  refine c_seq (c_region ?_)
  refine o_pure (p_fieldAddr (B := B1) (j := 0) (j' := 2) rfl fo95_2 rfl) rfl rfl rfl ?_
  refine o_pure (p_load (i := 0) (v := .slice ac_0 c.frames.length cc_0) rfl rfl sh93 rfl) rfl rfl rfl ?_
  refine o_pure (p_len_slice (len := c.frames.length) rfl rfl Try.underlying93) rfl rfl rfl ?_
  refine o_pure (p_fieldAddr (B := B1) (j := 0) (j' := 0) rfl fo95_0 rfl) rfl rfl rfl ?_
  refine o_pure (p_load (i := 0) (v := .int .i64 c.room) rfl rfl sh3 rfl) rfl rfl rfl ?_
  refine o_pure (p_gt (p := (c.frames.length : Int)) (q := c.room) rfl rfl) rfl rfl rfl ?_
  refine o_as rfl rfl ?_
  refine o_nil (q_then ?_)
  refine c_cond (b := decide (c.room < (c.frames.length : Int))) rfl (fun hc3 => ?_) (fun hc3 => ?_)
  ·simp only [decide_eq_true_eq] at hc3
   refine c_seq (c_region ?_)
   refine o_as rfl rfl ?_
   refine o_nil (q_then (c_ret ?_))
   refine q_block_ret (q_then_ret ?_)
   have hr0 : (2 : Int) = (Clock.check c) := by
    simp only [Clock.check]; grind
   refine q_end0 (v := .int .i64 2) (rt1 rfl (r_tmp rfl)) (i := 1) rfl ?_
   exact (by have hcc := congrArg (fun (y0 : Int) => (.int .i64 y0 : Value)) hr0; exact hcc)
  ·simp only [decide_eq_false_iff_not, Int.not_lt] at hc3
   refine c_skip ?_
   refine q_block_normal (q_then ?_)
   refine c_seq (c_seq (c_region ?_))
   refine o_pure (p_fieldAddr (B := B1) (j := 0) (j' := 2) rfl fo95_2 rfl) rfl rfl rfl ?_
   refine o_pure (p_load (i := 0) (v := .slice ac_0 c.frames.length cc_0) rfl rfl sh93 rfl) rfl rfl rfl ?_
   refine o_callM rfl (ckeys_ok c.frames ac_0 cc_0 (by omega)) hf117 (fun w hw => (rd_base (i := 1) rfl hc_0) w hw) rfl (fun _ _ _ _ ha hA => SlO.agree ha hA) ?_
   rintro ⟨a6, c7⟩ S4
   refine o_know (fun w hw => own_len (i := 0) (T := tInt) hw rfl) (fun hlr8 => ?_)
   refine o_call0 (v := .int .i64 (Lru.keys (Clock.keysOf c.frames))) rfl (keys_ok (Clock.keysOf c.frames) a6 c7) hf79 (fun w hw => (rd_own (i := 0) rfl) w hw) rfl ?_
   refine o_as rfl rfl ?_
   refine o_nil (q_then (c_seq (c_region ?_)))
   refine o_mv rfl rfl ?_
   refine o_pure (p_ne (p := (Lru.keys (Clock.keysOf c.frames))) (q := 0) rfl rfl) rfl rfl rfl ?_
   refine o_nil (q_then ?_)
   refine c_cond (b := ((Lru.keys (Clock.keysOf c.frames)) != 0)) rfl (fun hc9 => ?_) (fun hc9 => ?_)
   ·simp only [bne_iff_ne, ne_eq] at hc9
    refine c_seq (c_region ?_)
    refine o_mv rfl rfl ?_
    refine o_as rfl rfl ?_
    refine o_nil (q_then (c_ret ?_))
    refine q_then_ret ?_
    have hr0 : ((Lru.keys (Clock.keysOf c.frames)) : Int) = (Clock.check c) := by
     simp only [Clock.check]; grind
    refine q_end0 (v := .int .i64 (Lru.keys (Clock.keysOf c.frames))) (rt1 rfl (r_tmp rfl)) (i := 2) rfl ?_
    exact (by have hcc := congrArg (fun (y0 : Int) => (.int .i64 y0 : Value)) hr0; exact hcc)
   ·simp only [bne_eq_false_iff_eq] at hc9
    refine c_skip (q_then (c_seq (c_seq (c_region ?_))))
    refine o_pure (p_fieldAddr (B := B1) (j := 0) (j' := 1) rfl fo95_1 rfl) rfl rfl rfl ?_
    refine o_pure (p_load (i := 1) (v := .int .i64 c.hand) rfl rfl sh3 rfl) rfl rfl rfl ?_
    refine o_pure (p_lt (p := c.hand) (q := 0) rfl rfl) rfl rfl rfl ?_
    refine o_mv rfl rfl ?_
    refine o_or (p := 35) 9 (decide ((max 0 ((c.frames.length : Int) - 1)) < c.hand)) ?_ ?_ ?_
    ·intro hb10 hk
     simp only [decide_eq_false_iff_not, Int.not_lt] at hb10
     refine o_unguard 26 rfl rfl ?_
     refine o_pure (p_fieldAddr (B := B1) (j := 0) (j' := 1) rfl fo95_1 rfl) rfl rfl rfl ?_
     refine o_unguard 26 rfl rfl ?_
     refine o_pure (p_load (i := 1) (v := .int .i64 c.hand) rfl rfl sh3 rfl) rfl rfl rfl ?_
     refine o_unguard 26 rfl rfl ?_
     refine o_pure (p_fieldAddr (B := B1) (j := 0) (j' := 2) rfl fo95_2 rfl) rfl rfl rfl ?_
     refine o_unguard 26 rfl rfl ?_
     refine o_pure (p_load (i := 1) (v := .slice ac_0 c.frames.length cc_0) rfl rfl sh93 rfl) rfl rfl rfl ?_
     refine o_unguard 26 rfl rfl ?_
     refine o_pure (p_len_slice (len := c.frames.length) rfl rfl Try.underlying93) rfl rfl rfl ?_
     refine o_unguard 26 rfl rfl ?_
     refine o_pure (p_subb (p := (c.frames.length : Int)) (q := 1) rfl rfl (by omega)) rfl rfl rfl ?_
     refine o_unguard 26 rfl rfl ?_
     refine o_pure (p_max (p := 0) (q := ((c.frames.length : Int) - 1)) rfl rfl) rfl rfl rfl ?_
     refine o_unguard 26 rfl rfl ?_
     refine o_pure (p_gt (p := c.hand) (q := (max 0 ((c.frames.length : Int) - 1))) rfl rfl) rfl rfl rfl ?_
     refine o_pf rfl rfl rfl ?_
     exact o_sub (Sub.cons rfl (Sub.skip rfl (Sub.skip rfl (Sub.skip rfl (Sub.skip rfl (Sub.skip rfl (Sub.skip rfl (Sub.skip rfl (Sub.skip rfl (Sub.skip rfl (Sub.skip rfl (Sub.refl _)))))))))))) hk
    ·intro hb10 hk
     refine o_guard_no rfl 26 rfl rfl rfl rfl rfl ?_
     refine o_guard_no rfl 26 rfl rfl rfl rfl rfl ?_
     refine o_guard_no rfl 26 rfl rfl rfl rfl rfl ?_
     refine o_guard_no rfl 26 rfl rfl rfl rfl rfl ?_
     refine o_guard_no rfl 26 rfl rfl rfl rfl rfl ?_
     refine o_guard_no rfl 26 rfl rfl rfl rfl rfl ?_
     refine o_guard_no rfl 26 rfl rfl rfl rfl rfl ?_
     refine o_guard_no rfl 26 rfl rfl rfl rfl rfl ?_
     refine o_pt rfl rfl rfl ?_
     exact o_sub (Sub.cons rfl (Sub.skip rfl (Sub.skip rfl (Sub.skip rfl (Sub.skip rfl (Sub.skip rfl (Sub.skip rfl (Sub.skip rfl (Sub.skip rfl (Sub.skip rfl (Sub.skip rfl (Sub.refl _)))))))))))) hk
    refine o_nil (q_then ?_)
    refine c_cond (b := (decide (c.hand < 0) || decide ((max 0 ((c.frames.length : Int) - 1)) < c.hand))) rfl (fun hc11 => ?_) (fun hc11 => ?_)
    ·simp only [Bool.or_eq_true, decide_eq_true_eq] at hc11
     refine c_seq (c_region ?_)
     refine o_as rfl rfl ?_
     refine o_nil (q_then (c_ret ?_))
     refine q_then_ret ?_
     have hr0 : (4 : Int) = (Clock.check c) := by
      simp only [Clock.check]; grind
     refine q_end0 (v := .int .i64 4) (rt1 rfl (r_tmp rfl)) (i := 2) rfl ?_
     exact (by have hcc := congrArg (fun (y0 : Int) => (.int .i64 y0 : Value)) hr0; exact hcc)
    ·simp only [Bool.or_eq_false_iff, decide_eq_false_iff_not, Int.not_lt] at hc11
     refine c_skip (q_then (c_seq (c_region ?_)))
     refine o_as rfl rfl ?_
     refine o_nil (q_then (c_ret ?_))
     have hr0 : (0 : Int) = (Clock.check c) := by
      simp only [Clock.check]; grind
     refine q_end0 (v := .int .i64 0) (rt1 rfl (r_tmp rfl)) (i := 2) rfl ?_
     exact (by have hcc := congrArg (fun (y0 : Int) => (.int .i64 y0 : Value)) hr0; exact hcc)

set_option maxHeartbeats 8000000 in
set_option maxRecDepth 100000 in
theorem owned_ok (c : DClock) (ac_0 : Option Addr) (cc_0 : Nat) (hy1 : c.frames.length ≤ 1000000) : FnX Try.prog 92 [.agg #[.int .i64 c.room, .int .i64 c.hand, .slice ac_0 c.frames.length cc_0]] [] (fun w => SlR tFrame (outer w []).S w ac_0 cc_0 c.frames) (Nat × Option Addr × Nat × (Nat → Prop)) (fun p => .pointer (some ⟨p.1, 0, none⟩)) (fun p => [box p.1 [.int .i64 c.room, .int .i64 c.hand, .slice p.2.1 c.frames.length p.2.2.1] 122, own tFrame p.2.2.2 p.2.1 p.2.2.1 c.frames]) := by
 refine fnX (nt := 10) (F0 := [(0, .agg #[.int .i64 c.room, .int .i64 c.hand, .slice ac_0 c.frames.length cc_0])]) Try.func92 rfl Try.ntmps92 rfl rfl (fun w0 hpre => ?_)
 have hc_0 := hpre
 have hlhc_0 := hc_0.2.1
 refine c_seq (c_region ?_)
 refine o_box (v := .agg #[.int .i64 c.room, .int .i64 c.hand, .slice ac_0 c.frames.length cc_0]) rfl rfl (fun B1 => ?_)
 refine o_as rfl rfl ?_
 refine o_nil (q_then (c_seq (c_region ?_)))
 refine o_pure (p_fieldAddr (B := B1) (j := 0) (j' := 2) rfl fo95_2 rfl) rfl rfl rfl ?_
 refine o_pure (p_load (i := 0) (v := .slice ac_0 c.frames.length cc_0) rfl rfl sh93 rfl) rfl rfl rfl ?_
 refine o_callM rfl (clone_Frame_ok c.frames ac_0 cc_0 (by first | assumption | omega | (simp only [List.length_append, List.length_take, List.length_drop, List.length_cons, List.length_nil]; omega))) hf118 (fun w hw => (rd_outer (i := 1) rfl hc_0) w hw) rfl (fun _ _ _ _ ha hA => SlO.agree ha hA) ?_
 rintro ⟨a4, c5⟩ S2
 refine o_know (fun w hw => own_len (i := 0) (T := tFrame) hw rfl) (fun hlr6 => ?_)
 refine o_pure (p_fieldAddr (B := B1) (j := 0) (j' := 2) rfl fo95_2 rfl) rfl rfl rfl ?_
 refine o_store (i := 1) (v := .slice a4 c.frames.length c5) (cs' := [.int .i64 c.room, .int .i64 c.hand, .slice a4 c.frames.length c5]) rfl rfl rfl sz93 rfl rfl rfl ?_
 refine o_nil (q_then (c_seq (c_region ?_)))
 refine o_pure (p_load_agg (i := 1) (vs := [.int .i64 c.room, .int .i64 c.hand, .slice a4 c.frames.length c5]) rfl rfl sh95 rfl rfl) rfl rfl rfl ?_
 refine o_pure (p_build (cells := [.int .i64 c.room, .int .i64 c.hand, .slice a4 c.frames.length c5]) fp122 ze122 rfl rfl) rfl rfl rfl ?_
 refine o_box (v := .agg #[.int .i64 c.room, .int .i64 c.hand, .slice a4 c.frames.length c5]) rfl rfl (fun B7 => ?_)
 refine o_as rfl rfl ?_
 refine o_nil (q_then (c_ret ?_))
 refine q_endX (p := (B7, a4, c5, S2)) (rt1 rfl (r_tmp rfl)) ?_ (fun w hw => ?_)
 ·exact rfl
 ·have h2 := hw.pick (H' := [outer w0 [], box B7 [.int .i64 c.room, .int .i64 c.hand, .slice a4 c.frames.length c5] 122, own tFrame S2 a4 c5 c.frames]) [3, 0, 1] (by decide) rfl
  exact Eq.mp (congrArg (fun z => HeapIs w0 ((outer w0 []) :: z) w) (rfl)) h2

set_option maxHeartbeats 8000000 in
set_option maxRecDepth 100000 in
theorem touch_ok (c : DClock) (Bc : Nat) (ac_0 : Option Addr) (cc_0 : Nat) (Sc_0 : Nat → Prop) (key : Int) (hy1 : Clock.Ok c) : FnX Try.prog 93 [.pointer (some ⟨Bc, 0, none⟩), .int .i64 key] [box Bc [.int .i64 c.room, .int .i64 c.hand, .slice ac_0 c.frames.length cc_0] 122, own tFrame Sc_0 ac_0 cc_0 c.frames] (fun _ => True) (Option Addr × Nat × (Nat → Prop)) (fun p => .tuple #[.bool ((Clock.touch c key).2.1), .int .i64 ((Clock.touch c key).2.2)]) (fun p => [box Bc [.int .i64 (((Clock.touch c key).1).room), .int .i64 (((Clock.touch c key).1).hand), .slice p.1 (((Clock.touch c key).1).frames).length p.2.1] 122, own tFrame p.2.2 p.1 p.2.1 (((Clock.touch c key).1).frames)]) := by
 refine fnX (nt := 106) (F0 := [(0, .pointer (some ⟨Bc, 0, none⟩)), (1, .int .i64 key)]) Try.func93 rfl Try.ntmps93 rfl rfl (fun w0 hpre => ?_)
 refine c_know (fun w hw => own_len (i := 2) (T := tFrame) hw rfl) (fun hlown_c_0 => ?_)
 obtain ⟨hcown_c_0, hlown_c_0⟩ := hlown_c_0
 have hroom := hy1.room
 have hlen := hy1.len
 refine c_seq (c_region ?_)
 refine o_box (v := .int .i64 key) rfl rfl (fun B1 => ?_)
 refine o_as rfl rfl ?_
 refine o_as rfl rfl ?_
 refine o_nil (q_then (c_seq (c_seq (c_region ?_))))
 refine o_mv rfl rfl ?_
 refine o_pure (p_nilCheck rfl) rfl rfl rfl ?_
 refine o_pure (p_fieldAddr (B := Bc) (j := 0) (j' := 0) rfl fo122_0 rfl) rfl rfl rfl ?_
 refine o_pure (p_fieldAddr (B := Bc) (j := 0) (j' := 2) rfl fo95_2 rfl) rfl rfl rfl ?_
 refine o_pure (p_load (i := 2) (v := .slice ac_0 c.frames.length cc_0) rfl rfl sh93 rfl) rfl rfl rfl ?_
 refine o_pure (p_makeFunc (vs := [.pointer (some ⟨B1, 0, none⟩)]) rfl) rfl rfl rfl ?_
 refine o_call0 (v := .int .i64 (idxF (fun x : DFrame => (x.key == key)) c.frames)) rfl (indexFunc_Frame_ok c.frames ac_0 cc_0 120 [.pointer (some ⟨B1, 0, none⟩)] (fun x => (x.key == key)) (fun w => (box B1 [.int .i64 key] 3).A w) (fun _ _ hb h => box_below hb h) (fun x => touch1_ok x B1 key) hf120) hf119 (fun w hw => ⟨(rd_own (i := 3) rfl) w hw, (hw.at (i := 0) rfl).here⟩) rfl ?_
 refine o_as rfl rfl ?_
 refine o_nil (q_then (c_seq (c_region ?_)))
 refine o_mv rfl rfl ?_
 refine o_pure (p_ge (p := (idxF (fun x : DFrame => (x.key == key)) c.frames)) (q := 0) rfl rfl) rfl rfl rfl ?_
 refine o_nil (q_then ?_)
 refine c_cond (b := decide (0 ≤ (idxF (fun x : DFrame => (x.key == key)) c.frames))) rfl (fun hc2 => ?_) (fun hc2 => ?_)
 ·simp only [decide_eq_true_eq] at hc2
  have hix := idxF_lt (fun x : DFrame => (x.key == key)) c.frames
  refine c_seq (c_region ?_)
  refine o_mv rfl rfl ?_
  refine o_pure (p_nilCheck rfl) rfl rfl rfl ?_
  refine o_pure (p_fieldAddr (B := Bc) (j := 0) (j' := 0) rfl fo122_0 rfl) rfl rfl rfl ?_
  refine o_pure (p_fieldAddr (B := Bc) (j := 0) (j' := 2) rfl fo95_2 rfl) rfl rfl rfl ?_
  refine o_pure (p_load (i := 2) (v := .slice ac_0 c.frames.length cc_0) rfl rfl sh93 rfl) rfl rfl rfl ?_
  refine o_mv rfl rfl ?_
  refine o_pure (p_indexAddr (L := c.frames) (T := tFrame) (i := (idxF (fun x : DFrame => (x.key == key)) c.frames)) rfl rfl (rd_own (i := 3) rfl) Try.underlying93 sz156 (by omega) (by omega)) rfl rfl rfl ?_
  refine o_pure (p_fieldAddrE rfl fo156_1) rfl rfl rfl ?_
  refine o_storeF (j := 1) (i := 3) (T := tFrame) (idx := (idxF (fun x : DFrame => (x.key == key)) c.frames).toNat) (v := .bool true) (vs := [.bool true]) (z := (⟨(c.frames[(idxF (fun x : DFrame => (x.key == key)) c.frames).toNat]).key, true⟩ : DFrame)) (F' := []) rfl rfl rfl rfl (by first | assumption | omega | (simp only [List.length_set]; omega)) sz4 rfl rfl rfl rfl (Sub.nil _) ?_
  refine o_asH (H := [box B1 [.int .i64 key] 3, outer w0 [box Bc [.int .i64 c.room, .int .i64 c.hand, .slice ac_0 c.frames.length cc_0] 122, own tFrame Sc_0 ac_0 cc_0 c.frames], box Bc [.int .i64 c.room, .int .i64 c.hand, .slice ac_0 c.frames.length cc_0] 122, own tFrame Sc_0 ac_0 cc_0 (c.frames.set ((idxF (fun x : DFrame => (x.key == key)) c.frames).toNat) (⟨(c.frames[(idxF (fun x : DFrame => (x.key == key)) c.frames).toNat]).key, true⟩ : DFrame))]) (H' := [box B1 [.int .i64 key] 3, outer w0 [box Bc [.int .i64 c.room, .int .i64 c.hand, .slice ac_0 c.frames.length cc_0] 122, own tFrame Sc_0 ac_0 cc_0 c.frames], box Bc [.int .i64 c.room, .int .i64 c.hand, .slice ac_0 (c.frames.set ((idxF (fun x : DFrame => (x.key == key)) c.frames).toNat) (⟨(c.frames[(idxF (fun x : DFrame => (x.key == key)) c.frames).toNat]).key, true⟩ : DFrame)).length cc_0] 122, own tFrame Sc_0 ac_0 cc_0 (c.frames.set ((idxF (fun x : DFrame => (x.key == key)) c.frames).toNat) (⟨(c.frames[(idxF (fun x : DFrame => (x.key == key)) c.frames).toNat]).key, true⟩ : DFrame))]) (by simp only [List.length_set]) ?_
  refine o_nil (q_then (c_seq (c_region ?_)))
  refine o_as rfl rfl ?_
  refine o_as rfl rfl ?_
  refine o_nil (q_then (c_ret ?_))
  refine q_then_ret ?_
  first
   | have ht := Clock.touch_hit (c := c) (key := key) (by assumption)
   | have ht := Clock.touch_room (c := c) (key := key) (by omega) (by omega)
   | have ht := Clock.touch_evict (key := key) hI (by omega) (by omega) hhl (by assumption)
  have hr0 : (c.room : Int) = ((Clock.touch c key).1).room := by
   simp only [ht, List.length_set]
  have hr1 : (c.hand : Int) = ((Clock.touch c key).1).hand := by
   simp only [ht, List.length_set]
  have hr2 : ((c.frames.set ((idxF (fun x : DFrame => (x.key == key)) c.frames).toNat) (⟨(c.frames[(idxF (fun x : DFrame => (x.key == key)) c.frames).toNat]).key, true⟩ : DFrame)) : List DFrame) = ((Clock.touch c key).1).frames := by
   simp only [ht, List.length_set]
  have hr3 : (true : Bool) = ((Clock.touch c key).2.1) := by
   simp only [ht, List.length_set]
  have hr4 : ((-1) : Int) = ((Clock.touch c key).2.2) := by
   simp only [ht, List.length_set]
  refine q_endX (p := (ac_0, cc_0, Sc_0)) (rt2 rfl (r_tmp rfl) (r_tmp rfl)) ?_ (fun w hw => ?_)
  ·exact (by have hcc := congr (congr (congr (congr (congrArg (fun (y0 : Int) (y1 : Int) (y2 : List DFrame) (y3 : Bool) (y4 : Int) => (.tuple #[.bool y3, .int .i64 y4] : Value)) hr0) hr1) hr2) hr3) hr4; exact hcc)
  ·have h2 := hw.pick (H' := [outer w0 [box Bc [.int .i64 c.room, .int .i64 c.hand, .slice ac_0 c.frames.length cc_0] 122, own tFrame Sc_0 ac_0 cc_0 c.frames], box Bc [.int .i64 c.room, .int .i64 c.hand, .slice ac_0 (c.frames.set ((idxF (fun x : DFrame => (x.key == key)) c.frames).toNat) (⟨(c.frames[(idxF (fun x : DFrame => (x.key == key)) c.frames).toNat]).key, true⟩ : DFrame)).length cc_0] 122, own tFrame Sc_0 ac_0 cc_0 (c.frames.set ((idxF (fun x : DFrame => (x.key == key)) c.frames).toNat) (⟨(c.frames[(idxF (fun x : DFrame => (x.key == key)) c.frames).toNat]).key, true⟩ : DFrame))]) [1, 2, 3] (by decide) rfl
   exact Eq.mp (congrArg (fun z => HeapIs w0 ((outer w0 [box Bc [.int .i64 c.room, .int .i64 c.hand, .slice ac_0 c.frames.length cc_0] 122, own tFrame Sc_0 ac_0 cc_0 c.frames]) :: z) w) ((by have hcc := congr (congr (congr (congr (congrArg (fun (y0 : Int) (y1 : Int) (y2 : List DFrame) (y3 : Bool) (y4 : Int) => ([box Bc [.int .i64 y0, .int .i64 y1, .slice ac_0 y2.length cc_0] 122, own tFrame Sc_0 ac_0 cc_0 y2] : List Ent)) hr0) hr1) hr2) hr3) hr4; exact hcc))) h2
 ·simp only [decide_eq_false_iff_not, Int.not_le] at hc2
  refine c_skip (q_then (c_seq (c_seq ?_)))
  refine c_draw hmix (by kernel_rfl) ?_
  refine w_mv rfl rfl ?_
  refine w_pure (p_nilCheck rfl) rfl rfl rfl ?_
  refine w_pure (p_fieldAddr (B := Bc) (j := 0) (j' := 0) rfl fo122_0 rfl) rfl rfl rfl ?_
  refine w_pure (p_fieldAddr (B := Bc) (j := 0) (j' := 2) rfl fo95_2 rfl) rfl rfl rfl ?_
  refine w_pure (p_load (i := 2) (v := .slice ac_0 c.frames.length cc_0) rfl rfl sh93 rfl) rfl rfl rfl ?_
  refine w_pure (p_len_slice (len := c.frames.length) rfl rfl Try.underlying93) rfl rfl rfl ?_
  refine w_mv rfl rfl ?_
  refine w_pure (p_nilCheck rfl) rfl rfl rfl ?_
  refine w_pure (p_fieldAddr (B := Bc) (j := 0) (j' := 0) rfl fo122_0 rfl) rfl rfl rfl ?_
  refine w_pure (p_fieldAddr (B := Bc) (j := 0) (j' := 0) rfl fo95_0 rfl) rfl rfl rfl ?_
  refine w_pure (p_load (i := 2) (v := .int .i64 c.room) rfl rfl sh3 rfl) rfl rfl rfl ?_
  refine w_pure (p_lt (p := (c.frames.length : Int)) (q := c.room) rfl rfl) rfl rfl rfl ?_
  refine w_nil (q_then ?_)
  refine c_cond (b := decide ((c.frames.length : Int) < c.room)) rfl (fun hc3 => ?_) (fun hc3 => ?_)
  ·simp only [decide_eq_true_eq] at hc3
   refine c_seq ?_
   refine c_cut (G := (Nat → Prop) × Option Addr × Option Addr × Nat × (Nat → Prop)) (fun ⟨S4_8, a4_8, a4_9, c4_9, S4_9⟩ => []) (fun ⟨S4_8, a4_8, a4_9, c4_9, S4_9⟩ => [own tFrame S4_8 a4_8 ([(⟨key, false⟩ : DFrame)].length) ([(⟨key, false⟩ : DFrame)]), box B1 [.int .i64 key] 3, outer w0 [box Bc [.int .i64 c.room, .int .i64 c.hand, .slice ac_0 c.frames.length cc_0] 122, own tFrame Sc_0 ac_0 cc_0 c.frames], box Bc [.int .i64 c.room, .int .i64 c.hand, .slice a4_9 (c.frames ++ [(⟨key, false⟩ : DFrame)]).length c4_9] 122, own tFrame S4_9 a4_9 c4_9 (c.frames ++ [(⟨key, false⟩ : DFrame)])]) (fun K hK5 => ?_) ?_
   ·refine c_held hmix [box B1 [.int .i64 key] 3, outer w0 [box Bc [.int .i64 c.room, .int .i64 c.hand, .slice ac_0 c.frames.length cc_0] 122, own tFrame Sc_0 ac_0 cc_0 c.frames]] rfl rfl ?_
    refine h_tk (i := 0) (ls := #[true, false, false, false, false, false, false, false, false, false, false, false, false, false]) rfl (p_move rfl) (fun _ hw => HeapIs.drop hw (List.Sublist.cons_cons _ (List.Sublist.cons_cons _ (List.Sublist.cons _ (List.Sublist.cons _ (List.Sublist.slnil)))))) ?_
    refine h_tk (i := 1) (ls := #[true, true, false, false, false, false, false, false, false, false, false, false, false, false]) rfl (p_move rfl) (fun _ hw => HeapIs.drop hw (List.Sublist.cons_cons _ (List.Sublist.cons_cons _ (List.Sublist.cons _ (List.Sublist.cons _ (List.Sublist.slnil)))))) ?_
    refine h_tk (i := 2) (ls := #[true, true, true, false, false, false, false, false, false, false, false, false, false, false]) rfl (p_nilCheck rfl) (fun _ hw => HeapIs.drop hw (List.Sublist.cons_cons _ (List.Sublist.cons_cons _ (List.Sublist.cons _ (List.Sublist.cons _ (List.Sublist.slnil)))))) ?_
    refine h_tk (i := 3) (ls := #[true, true, true, true, false, false, false, false, false, false, false, false, false, false]) rfl (p_fieldAddr (B := Bc) (j := 0) (j' := 0) rfl fo122_0 rfl) (fun _ hw => HeapIs.drop hw (List.Sublist.cons_cons _ (List.Sublist.cons_cons _ (List.Sublist.cons _ (List.Sublist.cons _ (List.Sublist.slnil)))))) ?_
    refine h_tk (i := 4) (ls := #[true, true, true, true, true, false, false, false, false, false, false, false, false, false]) rfl (p_fieldAddr (B := Bc) (j := 0) (j' := 2) rfl fo95_2 rfl) (fun _ hw => HeapIs.drop hw (List.Sublist.cons_cons _ (List.Sublist.cons_cons _ (List.Sublist.cons _ (List.Sublist.cons _ (List.Sublist.slnil)))))) ?_
    refine h_tk (i := 6) (ls := #[true, true, true, true, true, false, true, false, false, false, false, false, false, false]) rfl (p_load (i := 0) (v := .int .i64 key) rfl rfl sh3 rfl) (fun _ hw => HeapIs.drop hw (List.Sublist.cons_cons _ (List.Sublist.cons_cons _ (List.Sublist.cons _ (List.Sublist.cons _ (List.Sublist.slnil)))))) ?_
    refine h_tk (i := 7) (ls := #[true, true, true, true, true, false, true, true, false, false, false, false, false, false]) rfl (p_build (cells := [.int .i64 key, .bool false]) fp156 ze156 rfl rfl) (fun _ hw => HeapIs.drop hw (List.Sublist.cons_cons _ (List.Sublist.cons_cons _ (List.Sublist.cons _ (List.Sublist.cons _ (List.Sublist.slnil)))))) ?_
    refine h_two (i := 5) (j := 8) (ls := #[true, true, true, true, true, true, true, true, false, false, false, false, false, false]) (ls' := #[true, true, true, true, true, false, true, true, true, false, false, false, false, false]) (by kernel_rfl) rfl rfl rfl rfl ?_ ?_
    ·refine o_pure (p_load (i := 2) (v := .slice ac_0 c.frames.length cc_0) rfl rfl sh93 rfl) rfl rfl rfl ?_
     refine o_nil ?_
     refine h_next (fun _ hw => HeapIs.drop hw (List.Sublist.cons_cons _ (List.Sublist.cons_cons _ (List.Sublist.cons _ (List.Sublist.cons _ (List.Sublist.slnil)))))) ?_
     refine h_one (i := 8) (ls := #[true, true, true, true, true, true, true, true, true, false, false, false, false, false]) (by kernel_rfl) rfl rfl ?_
     refine o_buildSlice (m := 1) (T := tFrame) (L := [(⟨key, false⟩ : DFrame)]) (vs := [.agg #[.int .i64 key, .bool false]]) rfl rfl rfl rfl Try.underlying93 sz156 (by decide) ze156 rfl (by decide) rfl (fun S4_8 a4_8 => ?_)
     refine o_nil ?_
     refine h_next (fun _ hw => HeapIs.drop hw (List.Sublist.cons _ (List.Sublist.cons_cons _ (List.Sublist.cons_cons _ (List.Sublist.cons _ (List.Sublist.cons _ (List.Sublist.slnil))))))) ?_
     refine h_one (i := 9) (ls := #[true, true, true, true, true, true, true, true, true, true, false, false, false, false]) (by kernel_rfl) rfl rfl ?_
     refine o_append (i := 4) (L := c.frames) (M := [(⟨key, false⟩ : DFrame)]) (T := tFrame) rfl rfl rfl (rd_own (i := 0) rfl) Try.underlying93 Try.underlying93 (by intro k h; cases h) el156 (by intro z; simp [tFrame, one1]) (by decide) (by first | omega | (simp only [List.length_cons, List.length_nil]; omega) | (simp only [List.length_append, List.length_cons, List.length_nil, List.length_take, List.length_drop]; omega)) rfl (fun a4_9 c4_9 S4_9 => ?_)
     refine o_nil ?_
     refine h_next (fun _ hw => HeapIs.drop hw (List.Sublist.cons _ (List.Sublist.cons_cons _ (List.Sublist.cons_cons _ (List.Sublist.cons _ (List.Sublist.cons _ (List.Sublist.slnil))))))) ?_
     refine h_tk (i := 10) (ls := #[true, true, true, true, true, true, true, true, true, true, true, false, false, false]) rfl (p_nilCheck rfl) (fun _ hw => HeapIs.drop hw (List.Sublist.cons _ (List.Sublist.cons_cons _ (List.Sublist.cons_cons _ (List.Sublist.cons _ (List.Sublist.cons _ (List.Sublist.slnil))))))) ?_
     refine h_tk (i := 11) (ls := #[true, true, true, true, true, true, true, true, true, true, true, true, false, false]) rfl (p_fieldAddr (B := Bc) (j := 0) (j' := 0) rfl fo122_0 rfl) (fun _ hw => HeapIs.drop hw (List.Sublist.cons _ (List.Sublist.cons_cons _ (List.Sublist.cons_cons _ (List.Sublist.cons _ (List.Sublist.cons _ (List.Sublist.slnil))))))) ?_
     refine h_tk (i := 12) (ls := #[true, true, true, true, true, true, true, true, true, true, true, true, true, false]) rfl (p_fieldAddr (B := Bc) (j := 0) (j' := 2) rfl fo95_2 rfl) (fun _ hw => HeapIs.drop hw (List.Sublist.cons _ (List.Sublist.cons_cons _ (List.Sublist.cons_cons _ (List.Sublist.cons _ (List.Sublist.cons _ (List.Sublist.slnil))))))) ?_
     refine h_one (i := 13) (ls := #[true, true, true, true, true, true, true, true, true, true, true, true, true, true]) (by kernel_rfl) rfl rfl ?_
     refine o_store (i := 3) (v := .slice a4_9 (c.frames ++ [(⟨key, false⟩ : DFrame)]).length c4_9) (cs' := [.int .i64 c.room, .int .i64 c.hand, .slice a4_9 (c.frames ++ [(⟨key, false⟩ : DFrame)]).length c4_9]) rfl rfl rfl sz93 rfl rfl rfl ?_
     refine o_nil ?_
     refine h_next (fun _ hw => HeapIs.drop hw (List.Sublist.cons _ (List.Sublist.cons_cons _ (List.Sublist.cons_cons _ (List.Sublist.cons _ (List.Sublist.cons _ (List.Sublist.slnil))))))) ?_
     refine h_done (by kernel_rfl) ?_
     refine q_kont hK5 (S4_8, a4_8, a4_9, c4_9, S4_9) (Sub.nil _) (fun _ hw => HeapIs.pick hw [0, 1, 2, 3, 4] (by decide) rfl)
    ·refine o_buildSlice (m := 1) (T := tFrame) (L := [(⟨key, false⟩ : DFrame)]) (vs := [.agg #[.int .i64 key, .bool false]]) rfl rfl rfl rfl Try.underlying93 sz156 (by decide) ze156 rfl (by decide) rfl (fun S4_8 a4_8 => ?_)
     refine o_nil ?_
     refine h_next (fun _ hw => HeapIs.drop hw (List.Sublist.cons _ (List.Sublist.cons_cons _ (List.Sublist.cons_cons _ (List.Sublist.cons _ (List.Sublist.cons _ (List.Sublist.slnil))))))) ?_
     refine h_one (i := 5) (ls := #[true, true, true, true, true, true, true, true, true, false, false, false, false, false]) (by kernel_rfl) rfl rfl ?_
     refine o_pure (p_load (i := 3) (v := .slice ac_0 c.frames.length cc_0) rfl rfl sh93 rfl) rfl rfl rfl ?_
     refine o_nil ?_
     refine h_next (fun _ hw => HeapIs.drop hw (List.Sublist.cons _ (List.Sublist.cons_cons _ (List.Sublist.cons_cons _ (List.Sublist.cons _ (List.Sublist.cons _ (List.Sublist.slnil))))))) ?_
     refine h_one (i := 9) (ls := #[true, true, true, true, true, true, true, true, true, true, false, false, false, false]) (by kernel_rfl) rfl rfl ?_
     refine o_append (i := 4) (L := c.frames) (M := [(⟨key, false⟩ : DFrame)]) (T := tFrame) rfl rfl rfl (rd_own (i := 0) rfl) Try.underlying93 Try.underlying93 (by intro k h; cases h) el156 (by intro z; simp [tFrame, one1]) (by decide) (by first | omega | (simp only [List.length_cons, List.length_nil]; omega) | (simp only [List.length_append, List.length_cons, List.length_nil, List.length_take, List.length_drop]; omega)) rfl (fun a4_9 c4_9 S4_9 => ?_)
     refine o_nil ?_
     refine h_next (fun _ hw => HeapIs.drop hw (List.Sublist.cons _ (List.Sublist.cons_cons _ (List.Sublist.cons_cons _ (List.Sublist.cons _ (List.Sublist.cons _ (List.Sublist.slnil))))))) ?_
     refine h_tk (i := 10) (ls := #[true, true, true, true, true, true, true, true, true, true, true, false, false, false]) rfl (p_nilCheck rfl) (fun _ hw => HeapIs.drop hw (List.Sublist.cons _ (List.Sublist.cons_cons _ (List.Sublist.cons_cons _ (List.Sublist.cons _ (List.Sublist.cons _ (List.Sublist.slnil))))))) ?_
     refine h_tk (i := 11) (ls := #[true, true, true, true, true, true, true, true, true, true, true, true, false, false]) rfl (p_fieldAddr (B := Bc) (j := 0) (j' := 0) rfl fo122_0 rfl) (fun _ hw => HeapIs.drop hw (List.Sublist.cons _ (List.Sublist.cons_cons _ (List.Sublist.cons_cons _ (List.Sublist.cons _ (List.Sublist.cons _ (List.Sublist.slnil))))))) ?_
     refine h_tk (i := 12) (ls := #[true, true, true, true, true, true, true, true, true, true, true, true, true, false]) rfl (p_fieldAddr (B := Bc) (j := 0) (j' := 2) rfl fo95_2 rfl) (fun _ hw => HeapIs.drop hw (List.Sublist.cons _ (List.Sublist.cons_cons _ (List.Sublist.cons_cons _ (List.Sublist.cons _ (List.Sublist.cons _ (List.Sublist.slnil))))))) ?_
     refine h_one (i := 13) (ls := #[true, true, true, true, true, true, true, true, true, true, true, true, true, true]) (by kernel_rfl) rfl rfl ?_
     refine o_store (i := 3) (v := .slice a4_9 (c.frames ++ [(⟨key, false⟩ : DFrame)]).length c4_9) (cs' := [.int .i64 c.room, .int .i64 c.hand, .slice a4_9 (c.frames ++ [(⟨key, false⟩ : DFrame)]).length c4_9]) rfl rfl rfl sz93 rfl rfl rfl ?_
     refine o_nil ?_
     refine h_next (fun _ hw => HeapIs.drop hw (List.Sublist.cons _ (List.Sublist.cons_cons _ (List.Sublist.cons_cons _ (List.Sublist.cons _ (List.Sublist.cons _ (List.Sublist.slnil))))))) ?_
     refine h_done (by kernel_rfl) ?_
     refine q_kont hK5 (S4_8, a4_8, a4_9, c4_9, S4_9) (Sub.nil _) (fun _ hw => HeapIs.pick hw [0, 1, 2, 3, 4] (by decide) rfl)
   rintro ⟨S4_8, a4_8, a4_9, c4_9, S4_9⟩
   show SQ _ 106 w0 _ _ [] [own tFrame S4_8 a4_8 ([(⟨key, false⟩ : DFrame)].length) ([(⟨key, false⟩ : DFrame)]), box B1 [.int .i64 key] 3, outer w0 [box Bc [.int .i64 c.room, .int .i64 c.hand, .slice ac_0 c.frames.length cc_0] 122, own tFrame Sc_0 ac_0 cc_0 c.frames], box Bc [.int .i64 c.room, .int .i64 c.hand, .slice a4_9 (c.frames ++ [(⟨key, false⟩ : DFrame)]).length c4_9] 122, own tFrame S4_9 a4_9 c4_9 (c.frames ++ [(⟨key, false⟩ : DFrame)])]
   refine q_cast (F' := []) (H := [own tFrame S4_8 a4_8 ([(⟨key, false⟩ : DFrame)].length) ([(⟨key, false⟩ : DFrame)]), box B1 [.int .i64 key] 3, outer w0 [box Bc [.int .i64 c.room, .int .i64 c.hand, .slice ac_0 c.frames.length cc_0] 122, own tFrame Sc_0 ac_0 cc_0 c.frames], box Bc [.int .i64 c.room, .int .i64 c.hand, .slice a4_9 (c.frames ++ [(⟨key, false⟩ : DFrame)]).length c4_9] 122, own tFrame S4_9 a4_9 c4_9 (c.frames ++ [(⟨key, false⟩ : DFrame)])]) (H' := [own tFrame S4_8 a4_8 ([(⟨key, false⟩ : DFrame)].length) ([(⟨key, false⟩ : DFrame)]), box B1 [.int .i64 key] 3, outer w0 [box Bc [.int .i64 c.room, .int .i64 c.hand, .slice ac_0 c.frames.length cc_0] 122, own tFrame Sc_0 ac_0 cc_0 c.frames], box Bc [.int .i64 c.room, .int .i64 c.hand, .slice a4_9 (c.frames ++ [(⟨key, false⟩ : DFrame)]).length c4_9] 122, own tFrame S4_9 a4_9 c4_9 (c.frames ++ [(⟨key, false⟩ : DFrame)])]) (Sub.nil _) (by rfl) ?_
   refine q_then (c_seq (c_region ?_))
   refine o_as rfl rfl ?_
   refine o_as rfl rfl ?_
   refine o_nil (q_then (c_ret ?_))
   refine q_then_ret ?_
   first
    | have ht := Clock.touch_hit (c := c) (key := key) (by assumption)
    | have ht := Clock.touch_room (c := c) (key := key) (by omega) (by omega)
    | have ht := Clock.touch_evict (key := key) hI (by omega) (by omega) hhl (by assumption)
   have hr0 : (c.room : Int) = ((Clock.touch c key).1).room := by
    simp only [ht, List.length_set]
   have hr1 : (c.hand : Int) = ((Clock.touch c key).1).hand := by
    simp only [ht, List.length_set]
   have hr2 : ((c.frames ++ [(⟨key, false⟩ : DFrame)]) : List DFrame) = ((Clock.touch c key).1).frames := by
    simp only [ht, List.length_set]
   have hr3 : (false : Bool) = ((Clock.touch c key).2.1) := by
    simp only [ht, List.length_set]
   have hr4 : ((-1) : Int) = ((Clock.touch c key).2.2) := by
    simp only [ht, List.length_set]
   refine q_endX (p := (a4_9, c4_9, S4_9)) (rt2 rfl (r_tmp rfl) (r_tmp rfl)) ?_ (fun w hw => ?_)
   ·exact (by have hcc := congr (congr (congr (congr (congrArg (fun (y0 : Int) (y1 : Int) (y2 : List DFrame) (y3 : Bool) (y4 : Int) => (.tuple #[.bool y3, .int .i64 y4] : Value)) hr0) hr1) hr2) hr3) hr4; exact hcc)
   ·have h2 := hw.pick (H' := [outer w0 [box Bc [.int .i64 c.room, .int .i64 c.hand, .slice ac_0 c.frames.length cc_0] 122, own tFrame Sc_0 ac_0 cc_0 c.frames], box Bc [.int .i64 c.room, .int .i64 c.hand, .slice a4_9 (c.frames ++ [(⟨key, false⟩ : DFrame)]).length c4_9] 122, own tFrame S4_9 a4_9 c4_9 (c.frames ++ [(⟨key, false⟩ : DFrame)])]) [2, 3, 4] (by decide) rfl
    exact Eq.mp (congrArg (fun z => HeapIs w0 ((outer w0 [box Bc [.int .i64 c.room, .int .i64 c.hand, .slice ac_0 c.frames.length cc_0] 122, own tFrame Sc_0 ac_0 cc_0 c.frames]) :: z) w) ((by have hcc := congr (congr (congr (congr (congrArg (fun (y0 : Int) (y1 : Int) (y2 : List DFrame) (y3 : Bool) (y4 : Int) => ([box Bc [.int .i64 y0, .int .i64 y1, .slice a4_9 y2.length c4_9] 122, own tFrame S4_9 a4_9 c4_9 y2] : List Ent)) hr0) hr1) hr2) hr3) hr4; exact hcc))) h2
  ·simp only [decide_eq_false_iff_not, Int.not_lt] at hc3
   refine c_skip (q_then (c_seq (c_block ?_)))
   refine c_loop (St := DClock × Option Addr × Nat × (Nat → Prop))
    (fun ⟨cc, acc_0, ccc_0, Scc_0⟩ => [(0, .pointer (some ⟨Bc, 0, none⟩)), (3, .pointer (some ⟨B1, 0, none⟩))])
    (fun ⟨cc, acc_0, ccc_0, Scc_0⟩ => [box B1 [.int .i64 key] 3, outer w0 [box Bc [.int .i64 c.room, .int .i64 c.hand, .slice ac_0 c.frames.length cc_0] 122, own tFrame Sc_0 ac_0 cc_0 c.frames], box Bc [.int .i64 cc.room, .int .i64 cc.hand, .slice acc_0 cc.frames.length ccc_0] 122, own tFrame Scc_0 acc_0 ccc_0 cc.frames])
    (fun ⟨cc, acc_0, ccc_0, Scc_0⟩ => Clock.SInv c cc)
    (fun ⟨cc, acc_0, ccc_0, Scc_0⟩ => Clock.usedOf cc.frames)
    (c, ac_0, cc_0, Sc_0) ?_ (Sub.cons rfl (Sub.cons rfl (Sub.nil _))) (fun _ hw => hw) ?_
   ·exact Clock.SInv.start hy1 (by omega)
   rintro ⟨cc, acc_0, ccc_0, Scc_0⟩ hI K hK6
   have hh0 := hI.h0
   have hh1 := hI.h1
   have hsm := hI.small
   have hle := hI.len
   have hhl : cc.hand.toNat < cc.frames.length := by omega
   show SC _ _ Try.prog 106 w0 _ _ [(0, .pointer (some ⟨Bc, 0, none⟩)), (3, .pointer (some ⟨B1, 0, none⟩))] [box B1 [.int .i64 key] 3, outer w0 [box Bc [.int .i64 c.room, .int .i64 c.hand, .slice ac_0 c.frames.length cc_0] 122, own tFrame Sc_0 ac_0 cc_0 c.frames], box Bc [.int .i64 cc.room, .int .i64 cc.hand, .slice acc_0 cc.frames.length ccc_0] 122, own tFrame Scc_0 acc_0 ccc_0 cc.frames]
   refine c_seq (c_seq ?_)
   refine c_draw hmix (by kernel_rfl) ?_
   refine w_mv rfl rfl ?_
   refine w_pure (p_nilCheck rfl) rfl rfl rfl ?_
   refine w_pure (p_fieldAddr (B := Bc) (j := 0) (j' := 0) rfl fo122_0 rfl) rfl rfl rfl ?_
   refine w_pure (p_fieldAddr (B := Bc) (j := 0) (j' := 2) rfl fo95_2 rfl) rfl rfl rfl ?_
   refine w_pure (p_load (i := 2) (v := .slice acc_0 cc.frames.length ccc_0) rfl rfl sh93 rfl) rfl rfl rfl ?_
   refine w_mv rfl rfl ?_
   refine w_pure (p_nilCheck rfl) rfl rfl rfl ?_
   refine w_pure (p_fieldAddr (B := Bc) (j := 0) (j' := 0) rfl fo122_0 rfl) rfl rfl rfl ?_
   refine w_pure (p_fieldAddr (B := Bc) (j := 0) (j' := 1) rfl fo95_1 rfl) rfl rfl rfl ?_
   refine w_pure (p_load (i := 2) (v := .int .i64 cc.hand) rfl rfl sh3 rfl) rfl rfl rfl ?_
   refine w_pure (p_indexAddr (L := cc.frames) (T := tFrame) (i := cc.hand) rfl rfl (rd_own (i := 3) rfl) Try.underlying93 sz156 (by omega) (by omega)) rfl rfl rfl ?_
   refine w_pure (p_fieldAddrE rfl fo156_1) rfl rfl rfl ?_
   refine w_pure (p_loadF (i := cc.hand.toNat) (j := 1) (T := tFrame) (L := cc.frames) (v := .bool ((cc.frames[cc.hand.toNat]).used)) rfl (rd_own (i := 3) rfl) (by first | assumption | omega) sh4 rfl) rfl rfl rfl ?_
   refine w_nil (q_then ?_)
   refine c_cond (b := (cc.frames[cc.hand.toNat]).used) rfl (fun hc7 => ?_) (fun hc7 => ?_)
   ·skip
    refine c_skip (q_then (c_block (c_seq ?_)))
    refine c_held hmix [box B1 [.int .i64 key] 3, outer w0 [box Bc [.int .i64 c.room, .int .i64 c.hand, .slice ac_0 c.frames.length cc_0] 122, own tFrame Sc_0 ac_0 cc_0 c.frames], box Bc [.int .i64 cc.room, .int .i64 cc.hand, .slice acc_0 cc.frames.length ccc_0] 122, ownE tFrame Scc_0 acc_0 ccc_0 (cc.frames.length)] rfl rfl ?_
    refine h_tk (i := 0) (ls := #[true, false, false, false, false, false, false, false, false, false, false, false, false]) rfl (p_move rfl) (fun _ hw => HeapIs.drop (HeapIs.toE (i := 3) (m := cc.frames.length) (T := tFrame) rfl (by simp only [List.length_set]) hw) (List.Sublist.refl _)) ?_
    refine h_tk (i := 1) (ls := #[true, true, false, false, false, false, false, false, false, false, false, false, false]) rfl (p_nilCheck rfl) (fun _ hw => HeapIs.drop (HeapIs.toE (i := 3) (m := cc.frames.length) (T := tFrame) rfl (by simp only [List.length_set]) hw) (List.Sublist.refl _)) ?_
    refine h_tk (i := 2) (ls := #[true, true, true, false, false, false, false, false, false, false, false, false, false]) rfl (p_fieldAddr (B := Bc) (j := 0) (j' := 0) rfl fo122_0 rfl) (fun _ hw => HeapIs.drop (HeapIs.toE (i := 3) (m := cc.frames.length) (T := tFrame) rfl (by simp only [List.length_set]) hw) (List.Sublist.refl _)) ?_
    refine h_tk (i := 3) (ls := #[true, true, true, true, false, false, false, false, false, false, false, false, false]) rfl (p_fieldAddr (B := Bc) (j := 0) (j' := 2) rfl fo95_2 rfl) (fun _ hw => HeapIs.drop (HeapIs.toE (i := 3) (m := cc.frames.length) (T := tFrame) rfl (by simp only [List.length_set]) hw) (List.Sublist.refl _)) ?_
    refine h_tk (i := 4) (ls := #[true, true, true, true, true, false, false, false, false, false, false, false, false]) rfl (p_load (i := 2) (v := .slice acc_0 cc.frames.length ccc_0) rfl rfl sh93 rfl) (fun _ hw => HeapIs.drop (HeapIs.toE (i := 3) (m := cc.frames.length) (T := tFrame) rfl (by simp only [List.length_set]) hw) (List.Sublist.refl _)) ?_
    refine h_tk (i := 5) (ls := #[true, true, true, true, true, true, false, false, false, false, false, false, false]) rfl (p_move rfl) (fun _ hw => HeapIs.drop (HeapIs.toE (i := 3) (m := cc.frames.length) (T := tFrame) rfl (by simp only [List.length_set]) hw) (List.Sublist.refl _)) ?_
    refine h_tk (i := 6) (ls := #[true, true, true, true, true, true, true, false, false, false, false, false, false]) rfl (p_nilCheck rfl) (fun _ hw => HeapIs.drop (HeapIs.toE (i := 3) (m := cc.frames.length) (T := tFrame) rfl (by simp only [List.length_set]) hw) (List.Sublist.refl _)) ?_
    refine h_tk (i := 7) (ls := #[true, true, true, true, true, true, true, true, false, false, false, false, false]) rfl (p_fieldAddr (B := Bc) (j := 0) (j' := 0) rfl fo122_0 rfl) (fun _ hw => HeapIs.drop (HeapIs.toE (i := 3) (m := cc.frames.length) (T := tFrame) rfl (by simp only [List.length_set]) hw) (List.Sublist.refl _)) ?_
    refine h_tk (i := 8) (ls := #[true, true, true, true, true, true, true, true, true, false, false, false, false]) rfl (p_fieldAddr (B := Bc) (j := 0) (j' := 1) rfl fo95_1 rfl) (fun _ hw => HeapIs.drop (HeapIs.toE (i := 3) (m := cc.frames.length) (T := tFrame) rfl (by simp only [List.length_set]) hw) (List.Sublist.refl _)) ?_
    refine h_tk (i := 9) (ls := #[true, true, true, true, true, true, true, true, true, true, false, false, false]) rfl (p_load (i := 2) (v := .int .i64 cc.hand) rfl rfl sh3 rfl) (fun _ hw => HeapIs.drop (HeapIs.toE (i := 3) (m := cc.frames.length) (T := tFrame) rfl (by simp only [List.length_set]) hw) (List.Sublist.refl _)) ?_
    refine h_tk (i := 10) (ls := #[true, true, true, true, true, true, true, true, true, true, true, false, false]) rfl (p_indexAddrE (T := tFrame) (i := cc.hand) (j := 3) rfl rfl rfl Try.underlying93 sz156 (by omega) (by omega)) (fun _ hw => HeapIs.drop (HeapIs.toE (i := 3) (m := cc.frames.length) (T := tFrame) rfl (by simp only [List.length_set]) hw) (List.Sublist.refl _)) ?_
    refine h_tk (i := 11) (ls := #[true, true, true, true, true, true, true, true, true, true, true, true, false]) rfl (p_fieldAddrE rfl fo156_1) (fun _ hw => HeapIs.drop (HeapIs.toE (i := 3) (m := cc.frames.length) (T := tFrame) rfl (by simp only [List.length_set]) hw) (List.Sublist.refl _)) ?_
    refine h_one (i := 12) (ls := #[true, true, true, true, true, true, true, true, true, true, true, true, true]) (by kernel_rfl) rfl rfl ?_
    refine o_storeF (j := 1) (i := 3) (T := tFrame) (idx := cc.hand.toNat) (v := .bool false) (vs := [.bool false]) (z := (⟨(cc.frames[cc.hand.toNat]).key, false⟩ : DFrame)) rfl rfl rfl rfl (by first | assumption | omega | (simp only [List.length_set]; omega)) sz4 rfl rfl rfl rfl (Sub.refl _) ?_
    refine o_nil ?_
    refine h_next (fun _ hw => HeapIs.drop (HeapIs.toE (i := 3) (m := cc.frames.length) (T := tFrame) rfl (by simp only [List.length_set]) hw) (List.Sublist.refl _)) ?_
    refine h_done (by kernel_rfl) ?_
    refine q_cast (F' := [(0, .pointer (some ⟨Bc, 0, none⟩)), (3, .pointer (some ⟨B1, 0, none⟩))]) (H := [box B1 [.int .i64 key] 3, outer w0 [box Bc [.int .i64 c.room, .int .i64 c.hand, .slice ac_0 c.frames.length cc_0] 122, own tFrame Sc_0 ac_0 cc_0 c.frames], box Bc [.int .i64 cc.room, .int .i64 cc.hand, .slice acc_0 cc.frames.length ccc_0] 122, own tFrame Scc_0 acc_0 ccc_0 (cc.frames.set cc.hand.toNat (⟨(cc.frames[cc.hand.toNat]).key, false⟩ : DFrame))]) (H' := [box B1 [.int .i64 key] 3, outer w0 [box Bc [.int .i64 c.room, .int .i64 c.hand, .slice ac_0 c.frames.length cc_0] 122, own tFrame Sc_0 ac_0 cc_0 c.frames], box Bc [.int .i64 cc.room, .int .i64 cc.hand, .slice acc_0 (cc.frames.set cc.hand.toNat (⟨(cc.frames[cc.hand.toNat]).key, false⟩ : DFrame)).length ccc_0] 122, own tFrame Scc_0 acc_0 ccc_0 (cc.frames.set cc.hand.toNat (⟨(cc.frames[cc.hand.toNat]).key, false⟩ : DFrame))]) (Sub.cons rfl (Sub.cons rfl (Sub.nil _))) (by simp only [List.length_set, List.length_reverse]) ?_
    refine q_then (c_region ?_)
    refine o_mv rfl rfl ?_
    refine o_pick (H' := [box Bc [.int .i64 cc.room, .int .i64 cc.hand, .slice acc_0 (cc.frames.set cc.hand.toNat (⟨(cc.frames[cc.hand.toNat]).key, false⟩ : DFrame)).length ccc_0] 122, own tFrame Scc_0 acc_0 ccc_0 (cc.frames.set cc.hand.toNat (⟨(cc.frames[cc.hand.toNat]).key, false⟩ : DFrame)), box B1 [.int .i64 key] 3, outer w0 [box Bc [.int .i64 c.room, .int .i64 c.hand, .slice ac_0 c.frames.length cc_0] 122, own tFrame Sc_0 ac_0 cc_0 c.frames]]) [2, 3, 0, 1] (by decide) rfl ?_
    refine o_callX (pre := [box Bc [.int .i64 cc.room, .int .i64 cc.hand, .slice acc_0 (cc.frames.set cc.hand.toNat (⟨(cc.frames[cc.hand.toNat]).key, false⟩ : DFrame)).length ccc_0] 122, own tFrame Scc_0 acc_0 ccc_0 (cc.frames.set cc.hand.toNat (⟨(cc.frames[cc.hand.toNat]).key, false⟩ : DFrame))]) (R := [box B1 [.int .i64 key] 3, outer w0 [box Bc [.int .i64 c.room, .int .i64 c.hand, .slice ac_0 c.frames.length cc_0] 122, own tFrame Sc_0 ac_0 cc_0 c.frames]]) rfl (step_ok (⟨cc.room, cc.hand, (cc.frames.set cc.hand.toNat (⟨(cc.frames[cc.hand.toNat]).key, false⟩ : DFrame))⟩ : DClock) Bc acc_0 ccc_0 Scc_0 (by (try dsimp only); (try simp only [List.length_set]); omega)) hf121 rfl (fun _ _ => trivial) rfl ?_
    rintro ⟨a9, c10, S11⟩
    refine o_asH (H' := [box Bc [.int .i64 cc.room, .int .i64 ((cc.hand + 1).tmod ((cc.frames.set cc.hand.toNat (⟨(cc.frames[cc.hand.toNat]).key, false⟩ : DFrame)).length : Int)), .slice a9 (cc.frames.set cc.hand.toNat (⟨(cc.frames[cc.hand.toNat]).key, false⟩ : DFrame)).length c10] 122, own tFrame S11 a9 c10 (cc.frames.set cc.hand.toNat (⟨(cc.frames[cc.hand.toNat]).key, false⟩ : DFrame)), box B1 [.int .i64 key] 3, outer w0 [box Bc [.int .i64 c.room, .int .i64 c.hand, .slice ac_0 c.frames.length cc_0] 122, own tFrame Sc_0 ac_0 cc_0 c.frames]]) rfl ?_
    refine o_nil ?_
    refine q_block_normal ?_
    refine q_round hK6 ((⟨cc.room, (cc.hand + 1).tmod ((cc.frames.set cc.hand.toNat (⟨(cc.frames[cc.hand.toNat]).key, false⟩ : DFrame)).length : Int), (cc.frames.set cc.hand.toNat (⟨(cc.frames[cc.hand.toNat]).key, false⟩ : DFrame))⟩ : DClock), a9, c10, S11) ?_ ?_ ?_ ?_
    ·clear hK6
     exact (hI.next hhl (by assumption)).1
    ·exact (hI.next hhl (by assumption)).2
    ·exact Sub.cons rfl (Sub.cons rfl (Sub.nil _))
    ·exact fun _ hw => HeapIs.pick hw [2, 3, 0, 1] (by decide) rfl
   ·skip
    refine c_exit ?_
    refine q_then_exit (q_then_exit (q_block_exit (q_then ?_)))
    refine c_seq ?_
    refine c_draw hmix (by kernel_rfl) ?_
    refine w_mv rfl rfl ?_
    refine w_pure (p_nilCheck rfl) rfl rfl rfl ?_
    refine w_pure (p_fieldAddr (B := Bc) (j := 0) (j' := 0) rfl fo122_0 rfl) rfl rfl rfl ?_
    refine w_pure (p_fieldAddr (B := Bc) (j := 0) (j' := 2) rfl fo95_2 rfl) rfl rfl rfl ?_
    refine w_pure (p_load (i := 2) (v := .slice acc_0 cc.frames.length ccc_0) rfl rfl sh93 rfl) rfl rfl rfl ?_
    refine w_mv rfl rfl ?_
    refine w_pure (p_nilCheck rfl) rfl rfl rfl ?_
    refine w_pure (p_fieldAddr (B := Bc) (j := 0) (j' := 0) rfl fo122_0 rfl) rfl rfl rfl ?_
    refine w_pure (p_fieldAddr (B := Bc) (j := 0) (j' := 1) rfl fo95_1 rfl) rfl rfl rfl ?_
    refine w_pure (p_load (i := 2) (v := .int .i64 cc.hand) rfl rfl sh3 rfl) rfl rfl rfl ?_
    refine w_pure (p_indexAddr (L := cc.frames) (T := tFrame) (i := cc.hand) rfl rfl (rd_own (i := 3) rfl) Try.underlying93 sz156 (by omega) (by omega)) rfl rfl rfl ?_
    refine w_pure (p_fieldAddrE rfl fo156_0) rfl rfl rfl ?_
    refine w_pure (p_loadF (i := cc.hand.toNat) (j := 0) (T := tFrame) (L := cc.frames) (v := .int .i64 ((cc.frames[cc.hand.toNat]).key)) rfl (rd_own (i := 3) rfl) (by first | assumption | omega) sh3 rfl) rfl rfl rfl ?_
    refine w_pure (p_assign (v := .int .i64 ((cc.frames[cc.hand.toNat]).key)) rfl) rfl rfl rfl ?_
    refine w_nil (q_then (c_seq ?_))
    refine c_held hmix [box B1 [.int .i64 key] 3, outer w0 [box Bc [.int .i64 c.room, .int .i64 c.hand, .slice ac_0 c.frames.length cc_0] 122, own tFrame Sc_0 ac_0 cc_0 c.frames], box Bc [.int .i64 cc.room, .int .i64 cc.hand, .slice acc_0 cc.frames.length ccc_0] 122, ownE tFrame Scc_0 acc_0 ccc_0 (cc.frames.length)] rfl rfl ?_
    refine h_tk (i := 0) (ls := #[true, false, false, false, false, false, false, false, false, false, false, false, false, false]) rfl (p_move rfl) (fun _ hw => HeapIs.drop (HeapIs.toE (i := 3) (m := cc.frames.length) (T := tFrame) rfl (by simp only [List.length_set]) hw) (List.Sublist.refl _)) ?_
    refine h_tk (i := 1) (ls := #[true, true, false, false, false, false, false, false, false, false, false, false, false, false]) rfl (p_nilCheck rfl) (fun _ hw => HeapIs.drop (HeapIs.toE (i := 3) (m := cc.frames.length) (T := tFrame) rfl (by simp only [List.length_set]) hw) (List.Sublist.refl _)) ?_
    refine h_tk (i := 2) (ls := #[true, true, true, false, false, false, false, false, false, false, false, false, false, false]) rfl (p_fieldAddr (B := Bc) (j := 0) (j' := 0) rfl fo122_0 rfl) (fun _ hw => HeapIs.drop (HeapIs.toE (i := 3) (m := cc.frames.length) (T := tFrame) rfl (by simp only [List.length_set]) hw) (List.Sublist.refl _)) ?_
    refine h_tk (i := 3) (ls := #[true, true, true, true, false, false, false, false, false, false, false, false, false, false]) rfl (p_fieldAddr (B := Bc) (j := 0) (j' := 2) rfl fo95_2 rfl) (fun _ hw => HeapIs.drop (HeapIs.toE (i := 3) (m := cc.frames.length) (T := tFrame) rfl (by simp only [List.length_set]) hw) (List.Sublist.refl _)) ?_
    refine h_tk (i := 4) (ls := #[true, true, true, true, true, false, false, false, false, false, false, false, false, false]) rfl (p_load (i := 2) (v := .slice acc_0 cc.frames.length ccc_0) rfl rfl sh93 rfl) (fun _ hw => HeapIs.drop (HeapIs.toE (i := 3) (m := cc.frames.length) (T := tFrame) rfl (by simp only [List.length_set]) hw) (List.Sublist.refl _)) ?_
    refine h_tk (i := 5) (ls := #[true, true, true, true, true, true, false, false, false, false, false, false, false, false]) rfl (p_move rfl) (fun _ hw => HeapIs.drop (HeapIs.toE (i := 3) (m := cc.frames.length) (T := tFrame) rfl (by simp only [List.length_set]) hw) (List.Sublist.refl _)) ?_
    refine h_tk (i := 6) (ls := #[true, true, true, true, true, true, true, false, false, false, false, false, false, false]) rfl (p_nilCheck rfl) (fun _ hw => HeapIs.drop (HeapIs.toE (i := 3) (m := cc.frames.length) (T := tFrame) rfl (by simp only [List.length_set]) hw) (List.Sublist.refl _)) ?_
    refine h_tk (i := 7) (ls := #[true, true, true, true, true, true, true, true, false, false, false, false, false, false]) rfl (p_fieldAddr (B := Bc) (j := 0) (j' := 0) rfl fo122_0 rfl) (fun _ hw => HeapIs.drop (HeapIs.toE (i := 3) (m := cc.frames.length) (T := tFrame) rfl (by simp only [List.length_set]) hw) (List.Sublist.refl _)) ?_
    refine h_tk (i := 8) (ls := #[true, true, true, true, true, true, true, true, true, false, false, false, false, false]) rfl (p_fieldAddr (B := Bc) (j := 0) (j' := 1) rfl fo95_1 rfl) (fun _ hw => HeapIs.drop (HeapIs.toE (i := 3) (m := cc.frames.length) (T := tFrame) rfl (by simp only [List.length_set]) hw) (List.Sublist.refl _)) ?_
    refine h_tk (i := 9) (ls := #[true, true, true, true, true, true, true, true, true, true, false, false, false, false]) rfl (p_load (i := 2) (v := .int .i64 cc.hand) rfl rfl sh3 rfl) (fun _ hw => HeapIs.drop (HeapIs.toE (i := 3) (m := cc.frames.length) (T := tFrame) rfl (by simp only [List.length_set]) hw) (List.Sublist.refl _)) ?_
    refine h_tk (i := 10) (ls := #[true, true, true, true, true, true, true, true, true, true, true, false, false, false]) rfl (p_load (i := 0) (v := .int .i64 key) rfl rfl sh3 rfl) (fun _ hw => HeapIs.drop (HeapIs.toE (i := 3) (m := cc.frames.length) (T := tFrame) rfl (by simp only [List.length_set]) hw) (List.Sublist.refl _)) ?_
    refine h_tk (i := 11) (ls := #[true, true, true, true, true, true, true, true, true, true, true, true, false, false]) rfl (p_build (cells := [.int .i64 key, .bool false]) fp156 ze156 rfl rfl) (fun _ hw => HeapIs.drop (HeapIs.toE (i := 3) (m := cc.frames.length) (T := tFrame) rfl (by simp only [List.length_set]) hw) (List.Sublist.refl _)) ?_
    refine h_tk (i := 12) (ls := #[true, true, true, true, true, true, true, true, true, true, true, true, true, false]) rfl (p_indexAddrE (T := tFrame) (i := cc.hand) (j := 3) rfl rfl rfl Try.underlying93 sz156 (by omega) (by omega)) (fun _ hw => HeapIs.drop (HeapIs.toE (i := 3) (m := cc.frames.length) (T := tFrame) rfl (by simp only [List.length_set]) hw) (List.Sublist.refl _)) ?_
    refine h_one (i := 13) (ls := #[true, true, true, true, true, true, true, true, true, true, true, true, true, true]) (by kernel_rfl) rfl rfl ?_
    refine o_storeW (i := 3) (T := tFrame) (idx := cc.hand.toNat) (v := .agg #[.int .i64 key, .bool false]) (vs := [.int .i64 key, .bool false]) (z := (⟨key, false⟩ : DFrame)) rfl rfl rfl rfl (by first | assumption | omega | (simp only [List.length_set]; omega)) sz156 rfl rfl rfl rfl (Sub.refl _) ?_
    refine o_nil ?_
    refine h_next (fun _ hw => HeapIs.drop (HeapIs.toE (i := 3) (m := cc.frames.length) (T := tFrame) rfl (by simp only [List.length_set]) hw) (List.Sublist.refl _)) ?_
    refine h_done (by kernel_rfl) ?_
    refine q_cast (F' := [(0, .pointer (some ⟨Bc, 0, none⟩)), (7, .int .i64 ((cc.frames[cc.hand.toNat]).key))]) (H := [box B1 [.int .i64 key] 3, outer w0 [box Bc [.int .i64 c.room, .int .i64 c.hand, .slice ac_0 c.frames.length cc_0] 122, own tFrame Sc_0 ac_0 cc_0 c.frames], box Bc [.int .i64 cc.room, .int .i64 cc.hand, .slice acc_0 cc.frames.length ccc_0] 122, own tFrame Scc_0 acc_0 ccc_0 (cc.frames.set cc.hand.toNat (⟨key, false⟩ : DFrame))]) (H' := [box B1 [.int .i64 key] 3, outer w0 [box Bc [.int .i64 c.room, .int .i64 c.hand, .slice ac_0 c.frames.length cc_0] 122, own tFrame Sc_0 ac_0 cc_0 c.frames], box Bc [.int .i64 cc.room, .int .i64 cc.hand, .slice acc_0 (cc.frames.set cc.hand.toNat (⟨key, false⟩ : DFrame)).length ccc_0] 122, own tFrame Scc_0 acc_0 ccc_0 (cc.frames.set cc.hand.toNat (⟨key, false⟩ : DFrame))]) (Sub.cons rfl (Sub.cons rfl (Sub.nil _))) (by simp only [List.length_set, List.length_reverse]) ?_
    refine q_then (c_seq (c_region ?_))
    refine o_mv rfl rfl ?_
    refine o_pick (H' := [box Bc [.int .i64 cc.room, .int .i64 cc.hand, .slice acc_0 (cc.frames.set cc.hand.toNat (⟨key, false⟩ : DFrame)).length ccc_0] 122, own tFrame Scc_0 acc_0 ccc_0 (cc.frames.set cc.hand.toNat (⟨key, false⟩ : DFrame)), box B1 [.int .i64 key] 3, outer w0 [box Bc [.int .i64 c.room, .int .i64 c.hand, .slice ac_0 c.frames.length cc_0] 122, own tFrame Sc_0 ac_0 cc_0 c.frames]]) [2, 3, 0, 1] (by decide) rfl ?_
    refine o_callX (pre := [box Bc [.int .i64 cc.room, .int .i64 cc.hand, .slice acc_0 (cc.frames.set cc.hand.toNat (⟨key, false⟩ : DFrame)).length ccc_0] 122, own tFrame Scc_0 acc_0 ccc_0 (cc.frames.set cc.hand.toNat (⟨key, false⟩ : DFrame))]) (R := [box B1 [.int .i64 key] 3, outer w0 [box Bc [.int .i64 c.room, .int .i64 c.hand, .slice ac_0 c.frames.length cc_0] 122, own tFrame Sc_0 ac_0 cc_0 c.frames]]) rfl (step_ok (⟨cc.room, cc.hand, (cc.frames.set cc.hand.toNat (⟨key, false⟩ : DFrame))⟩ : DClock) Bc acc_0 ccc_0 Scc_0 (by (try dsimp only); (try simp only [List.length_set]); omega)) hf121 rfl (fun _ _ => trivial) rfl ?_
    rintro ⟨a14, c15, S16⟩
    refine o_asH (H' := [box Bc [.int .i64 cc.room, .int .i64 ((cc.hand + 1).tmod ((cc.frames.set cc.hand.toNat (⟨key, false⟩ : DFrame)).length : Int)), .slice a14 (cc.frames.set cc.hand.toNat (⟨key, false⟩ : DFrame)).length c15] 122, own tFrame S16 a14 c15 (cc.frames.set cc.hand.toNat (⟨key, false⟩ : DFrame)), box B1 [.int .i64 key] 3, outer w0 [box Bc [.int .i64 c.room, .int .i64 c.hand, .slice ac_0 c.frames.length cc_0] 122, own tFrame Sc_0 ac_0 cc_0 c.frames]]) rfl ?_
    refine o_nil (q_then (c_seq (c_region ?_)))
    refine o_mv rfl rfl ?_
    refine o_as rfl rfl ?_
    refine o_as rfl rfl ?_
    refine o_nil (q_then (c_ret ?_))
    first
     | have ht := Clock.touch_hit (c := c) (key := key) (by assumption)
     | have ht := Clock.touch_room (c := c) (key := key) (by omega) (by omega)
     | have ht := Clock.touch_evict (key := key) hI (by omega) (by omega) hhl (by assumption)
    have hr0 : (cc.room : Int) = ((Clock.touch c key).1).room := by
     simp only [ht, List.length_set]
    have hr1 : ((cc.hand + 1).tmod ((cc.frames.set cc.hand.toNat (⟨key, false⟩ : DFrame)).length : Int) : Int) = ((Clock.touch c key).1).hand := by
     simp only [ht, List.length_set]
    have hr2 : ((cc.frames.set cc.hand.toNat (⟨key, false⟩ : DFrame)) : List DFrame) = ((Clock.touch c key).1).frames := by
     simp only [ht, List.length_set]
    have hr3 : (false : Bool) = ((Clock.touch c key).2.1) := by
     simp only [ht, List.length_set]
    have hr4 : ((cc.frames[cc.hand.toNat]).key : Int) = ((Clock.touch c key).2.2) := by
     simp only [ht, List.length_set]
    refine q_endX (p := (a14, c15, S16)) (rt2 rfl (r_tmp rfl) (r_tmp rfl)) ?_ (fun w hw => ?_)
    ·exact (by have hcc := congr (congr (congr (congr (congrArg (fun (y0 : Int) (y1 : Int) (y2 : List DFrame) (y3 : Bool) (y4 : Int) => (.tuple #[.bool y3, .int .i64 y4] : Value)) hr0) hr1) hr2) hr3) hr4; exact hcc)
    ·have h2 := hw.pick (H' := [outer w0 [box Bc [.int .i64 c.room, .int .i64 c.hand, .slice ac_0 c.frames.length cc_0] 122, own tFrame Sc_0 ac_0 cc_0 c.frames], box Bc [.int .i64 cc.room, .int .i64 ((cc.hand + 1).tmod ((cc.frames.set cc.hand.toNat (⟨key, false⟩ : DFrame)).length : Int)), .slice a14 (cc.frames.set cc.hand.toNat (⟨key, false⟩ : DFrame)).length c15] 122, own tFrame S16 a14 c15 (cc.frames.set cc.hand.toNat (⟨key, false⟩ : DFrame))]) [3, 0, 1] (by decide) rfl
     exact Eq.mp (congrArg (fun z => HeapIs w0 ((outer w0 [box Bc [.int .i64 c.room, .int .i64 c.hand, .slice ac_0 c.frames.length cc_0] 122, own tFrame Sc_0 ac_0 cc_0 c.frames]) :: z) w) ((by have hcc := congr (congr (congr (congr (congrArg (fun (y0 : Int) (y1 : Int) (y2 : List DFrame) (y3 : Bool) (y4 : Int) => ([box Bc [.int .i64 y0, .int .i64 y1, .slice a14 y2.length c15] 122, own tFrame S16 a14 c15 y2] : List Ent)) hr0) hr1) hr2) hr3) hr4; exact hcc))) h2

set_option maxHeartbeats 8000000 in
set_option maxRecDepth 100000 in
theorem run_ok (c : DClock) (ac_0 : Option Addr) (cc_0 : Nat) (l : List Int) (al : Option Addr) (cl : Nat) : FnM Try.prog 66 [.agg #[.int .i64 c.room, .int .i64 c.hand, .slice ac_0 c.frames.length cc_0], .slice al l.length cl] (fun w => Rd tFrame w ac_0 cc_0 c.frames ∧ Rd tInt w al cl l) (Option Addr × Nat) (fun p => .tuple #[.agg #[.int .i64 (((Clock.run c l).1).room), .int .i64 (((Clock.run c l).1).hand), .slice p.1 (((Clock.run c l).1).frames).length p.2], .int .i64 ((Clock.run c l).2), .int .i64 (Clock.runErr c l)]) (fun p S w => SlO tFrame S w p.1 p.2 (((Clock.run c l).1).frames)) := by
 refine fnM (nt := 47) (F0 := [(0, .agg #[.int .i64 c.room, .int .i64 c.hand, .slice ac_0 c.frames.length cc_0]), (1, .slice al l.length cl)]) Try.func66 rfl Try.ntmps66 rfl rfl (fun w0 hpre => ?_)
 obtain ⟨hc_0, hl⟩ := hpre
 have hlhc_0 := hc_0.2.1
 have hlhl := hl.2.1
 refine c_seq (c_region ?_)
 refine o_box (v := .agg #[.int .i64 c.room, .int .i64 c.hand, .slice ac_0 c.frames.length cc_0]) rfl rfl (fun B1 => ?_)
 refine o_alloc ze95 rfl (fun B2 => ?_)
 refine o_as rfl rfl ?_
 refine o_as rfl rfl ?_
 refine o_nil (q_then (c_seq (c_region ?_)))
 refine o_pure (p_load_agg (i := 1) (vs := [.int .i64 c.room, .int .i64 c.hand, .slice ac_0 c.frames.length cc_0]) rfl rfl sh95 rfl rfl) rfl rfl rfl ?_
 refine o_call0 (v := .int .i64 (Clock.check c)) rfl (ccheck_ok c ac_0 cc_0) hf91 (fun w hw => (rd_base (i := 2) rfl hc_0) w hw) rfl ?_
 refine o_as rfl rfl ?_
 refine o_nil (q_then (c_seq (c_seq (c_region ?_))))
 refine o_mv rfl rfl ?_
 refine o_pure (p_eq (p := (Clock.check c)) (q := 0) rfl rfl) rfl rfl rfl ?_
 refine o_nil (q_then ?_)
 refine c_cond (b := ((Clock.check c) == 0)) rfl (fun hc3 => ?_) (fun hc3 => ?_)
 ·simp only [beq_iff_eq] at hc3
  have hok := Clock.ok_of hc3
  have hroom := hok.room
  have hlen := hok.len
  refine c_region ?_
  refine o_mv rfl rfl ?_
  refine o_call0 (v := .int .i64 (Lru.trace l)) rfl (checkTrace_ok l al cl) hf46 (fun w hw => (rd_base (i := 2) rfl hl) w hw) rfl ?_
  refine o_as rfl rfl ?_
  refine o_nil (q_then (c_seq (c_seq (c_region ?_))))
  refine o_mv rfl rfl ?_
  refine o_pure (p_ne (p := (Lru.trace l)) (q := 0) rfl rfl) rfl rfl rfl ?_
  refine o_nil (q_then ?_)
  refine c_cond (b := ((Lru.trace l) != 0)) rfl (fun hc4 => ?_) (fun hc4 => ?_)
  ·simp only [bne_iff_ne, ne_eq] at hc4
   refine c_seq (c_region ?_)
   refine o_pure (p_build (cells := [.int .i64 0, .int .i64 0, .slice none 0 0]) fp95 ze95 rfl rfl) rfl rfl rfl ?_
   refine o_mv rfl rfl ?_
   refine o_storeN (i := 0) (vs := [.int .i64 0, .int .i64 0, .slice none 0 0]) (cs' := [.int .i64 0, .int .i64 0, .slice none 0 0]) rfl rfl rfl sz95 rfl rfl rfl rfl ?_
   refine o_as rfl rfl ?_
   refine o_as rfl rfl ?_
   refine o_nil (q_then (c_ret ?_))
   refine q_then_ret ?_
   obtain ⟨ha, hae⟩ : _ ∧ _ := by first | exact Clock.run_chk l (by assumption) | exact Clock.run_tr (c := c) (l := l) (by assumption) (by assumption) | (obtain ⟨h1, h2⟩ := Clock.run_ok (c := c) (l := l) (by assumption) (by assumption); rw [hI.done (by omega)] at h1; exact ⟨h1, h2⟩)
   have hr0 : (0 : Int) = ((Clock.run c l).1).room := by
    simp only [ha, hae, Clock.zero]
   have hr1 : (0 : Int) = ((Clock.run c l).1).hand := by
    simp only [ha, hae, Clock.zero]
   have hr2 : ([] : List DFrame) = ((Clock.run c l).1).frames := by
    simp only [ha, hae, Clock.zero]
   have hr3 : (0 : Int) = ((Clock.run c l).2) := by
    simp only [ha, hae, Clock.zero]
   have hr4 : ((Lru.trace l) : Int) = (Clock.runErr c l) := by
    simp only [ha, hae, Clock.zero]
   refine q_endM (p := (none, 0)) (fun _ => False) (rt3 rfl (r_cell (i := 0) rfl rfl sh95 rfl) (r_tmp rfl) (r_tmp rfl)) (i := 2) rfl ?_ ?_ ?_
   ·exact (by have hcc := congr (congr (congr (congr (congrArg (fun (y0 : Int) (y1 : Int) (y2 : List DFrame) (y3 : Int) (y4 : Int) => (.tuple #[.agg #[.int .i64 y0, .int .i64 y1, .slice none y2.length 0], .int .i64 y3, .int .i64 y4] : Value)) hr0) hr1) hr2) hr3) hr4; exact hcc)
   ·intro w hw b hb; exact hb.elim
   ·intro w hw; exact Eq.mp (congrArg (fun y => SlO tFrame _ w none 0 y) hr2) (SlO.nil tFrame w)
  ·simp only [bne_eq_false_iff_eq] at hc4
   refine c_skip (q_then (c_seq (c_region ?_)))
   refine o_pure (p_load_agg (i := 1) (vs := [.int .i64 c.room, .int .i64 c.hand, .slice ac_0 c.frames.length cc_0]) rfl rfl sh95 rfl rfl) rfl rfl rfl ?_
   refine o_callX (pre := []) (R := [box B2 [.int .i64 0, .int .i64 0, .slice none 0 0] 95, box B1 [.int .i64 c.room, .int .i64 c.hand, .slice ac_0 c.frames.length cc_0] 95, base w0]) rfl (owned_ok c ac_0 cc_0 (by omega)) hf92 rfl (fun w hw => (rdX (i := 2) (js := []) rfl (by decide) rfl (fun _ hA => slR_base hc_0 hA)) w hw) rfl ?_
   rintro ⟨B5, a6, c7, S8⟩
   refine o_asH (H' := [box B5 [.int .i64 c.room, .int .i64 c.hand, .slice a6 c.frames.length c7] 122, own tFrame S8 a6 c7 c.frames, box B2 [.int .i64 0, .int .i64 0, .slice none 0 0] 95, box B1 [.int .i64 c.room, .int .i64 c.hand, .slice ac_0 c.frames.length cc_0] 95, base w0]) rfl ?_
   refine o_as rfl rfl ?_
   refine o_as rfl rfl ?_
   refine o_nil (q_then (c_seq (c_seq (c_region ?_))))
   refine o_mv rfl rfl ?_
   refine o_pure (p_len_slice (len := l.length) rfl rfl Try.underlying22) rfl rfl rfl ?_
   refine o_mv rfl rfl ?_
   refine o_nil (q_then (c_block ?_))
   refine c_loop (St := Int × Nat × DClock × Option Addr × Nat × (Nat → Prop))
    (fun ⟨hits, k, cc, acc_0, ccc_0, Scc_0⟩ => [(4, .pointer (some ⟨B2, 0, none⟩)), (8, .pointer (some ⟨B5, 0, none⟩)), (9, .int .i64 hits), (26, .slice al l.length cl), (27, .int .i64 (l.length : Int)), (28, .int .i64 (k : Int))])
    (fun ⟨hits, k, cc, acc_0, ccc_0, Scc_0⟩ => [box B5 [.int .i64 cc.room, .int .i64 cc.hand, .slice acc_0 cc.frames.length ccc_0] 122, own tFrame Scc_0 acc_0 ccc_0 cc.frames, box B2 [.int .i64 0, .int .i64 0, .slice none 0 0] 95, box B1 [.int .i64 c.room, .int .i64 c.hand, .slice ac_0 c.frames.length cc_0] 95, base w0])
    (fun ⟨hits, k, cc, acc_0, ccc_0, Scc_0⟩ => Clock.RInv c cc l hits k)
    (fun ⟨hits, k, cc, acc_0, ccc_0, Scc_0⟩ => l.length - k)
    (0, 0, c, a6, c7, S8) ?_ (Sub.cons rfl (Sub.cons rfl (Sub.cons rfl (Sub.cons rfl (Sub.cons rfl (Sub.cons rfl (Sub.nil _))))))) (fun _ hw => hw) ?_
   ·exact Clock.RInv.start hok l
   rintro ⟨hits, k, cc, acc_0, ccc_0, Scc_0⟩ hI K hK10
   have hn0 := hI.n0
   have hn1 := hI.n1
   show SC _ _ Try.prog 47 w0 _ _ [(4, .pointer (some ⟨B2, 0, none⟩)), (8, .pointer (some ⟨B5, 0, none⟩)), (9, .int .i64 hits), (26, .slice al l.length cl), (27, .int .i64 (l.length : Int)), (28, .int .i64 (k : Int))] [box B5 [.int .i64 cc.room, .int .i64 cc.hand, .slice acc_0 cc.frames.length ccc_0] 122, own tFrame Scc_0 acc_0 ccc_0 cc.frames, box B2 [.int .i64 0, .int .i64 0, .slice none 0 0] 95, box B1 [.int .i64 c.room, .int .i64 c.hand, .slice ac_0 c.frames.length cc_0] 95, base w0]
   refine c_seq (c_region ?_)
   refine o_pure (p_lt (p := (k : Int)) (q := (l.length : Int)) rfl rfl) rfl rfl rfl ?_
   refine o_nil (q_then (c_seq ?_))
   refine c_cond (b := decide ((k : Int) < (l.length : Int))) rfl (fun hc11 => ?_) (fun hc11 => ?_)
   ·simp only [decide_eq_true_eq] at hc11
    refine c_skip (q_then (c_seq (c_block (c_seq (c_region ?_)))))
    refine o_pure (p_indexAddr (L := l) (T := tInt) (i := (k : Int)) rfl rfl (rd_base (i := 4) rfl hl) Try.underlying22 sz3 (by omega) (by omega)) rfl rfl rfl ?_
    refine o_pure (p_loadE1 (i := k) (T := tInt) (L := l) (v := .int .i64 (l[k])) rfl (rd_base (i := 4) rfl hl) (by first | assumption | omega) sh3 rfl) rfl rfl rfl ?_
    refine o_as rfl rfl ?_
    refine o_nil (q_then (c_seq (c_region ?_)))
    refine o_mv rfl rfl ?_
    refine o_mv rfl rfl ?_
    refine o_callX (pre := [box B5 [.int .i64 cc.room, .int .i64 cc.hand, .slice acc_0 cc.frames.length ccc_0] 122, own tFrame Scc_0 acc_0 ccc_0 cc.frames]) (R := [box B2 [.int .i64 0, .int .i64 0, .slice none 0 0] 95, box B1 [.int .i64 c.room, .int .i64 c.hand, .slice ac_0 c.frames.length cc_0] 95, base w0]) rfl (touch_ok cc B5 acc_0 ccc_0 Scc_0 (l[k]) (by first | assumption | exact hI.ok | omega)) hf93 rfl (fun _ _ => trivial) rfl ?_
    rintro ⟨a12, c13, S14⟩
    refine o_asH (H' := [box B5 [.int .i64 (((Clock.touch cc (l[k])).1).room), .int .i64 (((Clock.touch cc (l[k])).1).hand), .slice a12 (((Clock.touch cc (l[k])).1).frames).length c13] 122, own tFrame S14 a12 c13 (((Clock.touch cc (l[k])).1).frames), box B2 [.int .i64 0, .int .i64 0, .slice none 0 0] 95, box B1 [.int .i64 c.room, .int .i64 c.hand, .slice ac_0 c.frames.length cc_0] 95, base w0]) rfl ?_
    refine o_mv rfl rfl ?_
    refine o_ex rfl rfl rfl ?_
    refine o_ex rfl rfl rfl ?_
    refine o_as rfl rfl ?_
    refine o_as rfl rfl ?_
    refine o_nil (q_then (c_seq (c_region ?_)))
    refine o_mv rfl rfl ?_
    refine o_nil (q_then ?_)
    refine c_cond (b := ((Clock.touch cc (l[k])).2.1)) rfl (fun hc16 => ?_) (fun hc16 => ?_)
    ·skip
     refine c_region ?_
     refine o_mv rfl rfl ?_
     refine o_pure (p_addb (p := hits) (q := 1) rfl rfl (by omega)) rfl rfl rfl ?_
     refine o_as rfl rfl ?_
     refine o_nil ?_
     refine q_block_normal (q_then ?_)
     refine c_region ?_
     refine o_pure (p_addb (p := (k : Int)) (q := 1) rfl rfl (by omega)) rfl rfl rfl ?_
     refine o_mv rfl rfl ?_
     refine o_nil ?_
     refine q_round hK10 ((hits + 1), k + 1, ((Clock.touch cc (l[k])).1), a12, c13, S14) ?_ ?_ ?_ ?_
     ·clear hK10
      first | exact hI.hit (by omega) (by assumption) | exact hI.miss (by omega) (by assumption)
     ·(try dsimp only); omega
     ·exact Sub.cons rfl (Sub.cons rfl (Sub.cons rfl (Sub.cons rfl (Sub.cons rfl (Sub.cons rfl (Sub.nil _))))))
     ·exact fun _ hw => HeapIs.pick hw [0, 1, 2, 3, 4] (by decide) rfl
    ·skip
     refine c_skip ?_
     refine q_block_normal (q_then ?_)
     refine c_region ?_
     refine o_pure (p_addb (p := (k : Int)) (q := 1) rfl rfl (by omega)) rfl rfl rfl ?_
     refine o_mv rfl rfl ?_
     refine o_nil ?_
     refine q_round hK10 (hits, k + 1, ((Clock.touch cc (l[k])).1), a12, c13, S14) ?_ ?_ ?_ ?_
     ·clear hK10
      first | exact hI.hit (by omega) (by assumption) | exact hI.miss (by omega) (by assumption)
     ·(try dsimp only); omega
     ·exact Sub.cons rfl (Sub.cons rfl (Sub.cons rfl (Sub.cons rfl (Sub.cons rfl (Sub.cons rfl (Sub.nil _))))))
     ·exact fun _ hw => HeapIs.pick hw [0, 1, 2, 3, 4] (by decide) rfl
   ·simp only [decide_eq_false_iff_not, Int.not_lt] at hc11
    refine c_exit ?_
    refine q_then_exit (q_then_exit (q_block_exit (q_then ?_)))
    refine c_seq (c_region ?_)
    refine o_mv rfl rfl ?_
    refine o_pure (p_nilCheck rfl) rfl rfl rfl ?_
    refine o_pure (p_fieldAddr (B := B5) (j := 0) (j' := 0) rfl fo122_0 rfl) rfl rfl rfl ?_
    refine o_pure (p_load_agg (i := 0) (vs := [.int .i64 cc.room, .int .i64 cc.hand, .slice acc_0 cc.frames.length ccc_0]) rfl rfl sh95 rfl rfl) rfl rfl rfl ?_
    refine o_mv rfl rfl ?_
    refine o_storeN (i := 2) (vs := [.int .i64 cc.room, .int .i64 cc.hand, .slice acc_0 cc.frames.length ccc_0]) (cs' := [.int .i64 cc.room, .int .i64 cc.hand, .slice acc_0 cc.frames.length ccc_0]) rfl rfl rfl sz95 rfl rfl rfl rfl ?_
    refine o_as rfl rfl ?_
    refine o_as rfl rfl ?_
    refine o_nil (q_then (c_ret ?_))
    obtain ⟨ha, hae⟩ : _ ∧ _ := by first | exact Clock.run_chk l (by assumption) | exact Clock.run_tr (c := c) (l := l) (by assumption) (by assumption) | (obtain ⟨h1, h2⟩ := Clock.run_ok (c := c) (l := l) (by assumption) (by assumption); rw [hI.done (by omega)] at h1; exact ⟨h1, h2⟩)
    have hr0 : (cc.room : Int) = ((Clock.run c l).1).room := by
     simp only [ha, hae, Clock.zero]
    have hr1 : (cc.hand : Int) = ((Clock.run c l).1).hand := by
     simp only [ha, hae, Clock.zero]
    have hr2 : (cc.frames : List DFrame) = ((Clock.run c l).1).frames := by
     simp only [ha, hae, Clock.zero]
    have hr3 : (hits : Int) = ((Clock.run c l).2) := by
     simp only [ha, hae, Clock.zero]
    have hr4 : (0 : Int) = (Clock.runErr c l) := by
     simp only [ha, hae, Clock.zero]
    refine q_endM (p := (acc_0, ccc_0)) Scc_0 (rt3 rfl (r_cell (i := 2) rfl rfl sh95 rfl) (r_tmp rfl) (r_tmp rfl)) (i := 4) rfl ?_ ?_ ?_
    ·exact (by have hcc := congr (congr (congr (congr (congrArg (fun (y0 : Int) (y1 : Int) (y2 : List DFrame) (y3 : Int) (y4 : Int) => (.tuple #[.agg #[.int .i64 y0, .int .i64 y1, .slice acc_0 y2.length ccc_0], .int .i64 y3, .int .i64 y4] : Value)) hr0) hr1) hr2) hr3) hr4; exact hcc)
    ·exact fun w hw => hw.above (i := 4) (j := 1) (by decide) rfl rfl
    ·intro w hw; exact Eq.mp (congrArg (fun y => SlO tFrame _ w acc_0 ccc_0 y) hr2) ((hw.at (i := 1) rfl).here)
 ·simp only [beq_eq_false_iff_ne, ne_eq] at hc3
  refine c_skip (q_then (c_seq (c_seq (c_region ?_))))
  refine o_mv rfl rfl ?_
  refine o_pure (p_ne (p := (Clock.check c)) (q := 0) rfl rfl) rfl rfl rfl ?_
  refine o_nil (q_then ?_)
  refine c_cond (b := ((Clock.check c) != 0)) rfl (fun hc17 => ?_) (fun hc17 => ?_)
  ·simp only [bne_iff_ne, ne_eq] at hc17
   refine c_seq (c_region ?_)
   refine o_pure (p_build (cells := [.int .i64 0, .int .i64 0, .slice none 0 0]) fp95 ze95 rfl rfl) rfl rfl rfl ?_
   refine o_mv rfl rfl ?_
   refine o_storeN (i := 0) (vs := [.int .i64 0, .int .i64 0, .slice none 0 0]) (cs' := [.int .i64 0, .int .i64 0, .slice none 0 0]) rfl rfl rfl sz95 rfl rfl rfl rfl ?_
   refine o_as rfl rfl ?_
   refine o_as rfl rfl ?_
   refine o_nil (q_then (c_ret ?_))
   refine q_then_ret ?_
   obtain ⟨ha, hae⟩ : _ ∧ _ := by first | exact Clock.run_chk l (by assumption) | exact Clock.run_tr (c := c) (l := l) (by assumption) (by assumption) | (obtain ⟨h1, h2⟩ := Clock.run_ok (c := c) (l := l) (by assumption) (by assumption); rw [hI.done (by omega)] at h1; exact ⟨h1, h2⟩)
   have hr0 : (0 : Int) = ((Clock.run c l).1).room := by
    simp only [ha, hae, Clock.zero]
   have hr1 : (0 : Int) = ((Clock.run c l).1).hand := by
    simp only [ha, hae, Clock.zero]
   have hr2 : ([] : List DFrame) = ((Clock.run c l).1).frames := by
    simp only [ha, hae, Clock.zero]
   have hr3 : (0 : Int) = ((Clock.run c l).2) := by
    simp only [ha, hae, Clock.zero]
   have hr4 : ((Clock.check c) : Int) = (Clock.runErr c l) := by
    simp only [ha, hae, Clock.zero]
   refine q_endM (p := (none, 0)) (fun _ => False) (rt3 rfl (r_cell (i := 0) rfl rfl sh95 rfl) (r_tmp rfl) (r_tmp rfl)) (i := 2) rfl ?_ ?_ ?_
   ·exact (by have hcc := congr (congr (congr (congr (congrArg (fun (y0 : Int) (y1 : Int) (y2 : List DFrame) (y3 : Int) (y4 : Int) => (.tuple #[.agg #[.int .i64 y0, .int .i64 y1, .slice none y2.length 0], .int .i64 y3, .int .i64 y4] : Value)) hr0) hr1) hr2) hr3) hr4; exact hcc)
   ·intro w hw b hb; exact hb.elim
   ·intro w hw; exact Eq.mp (congrArg (fun y => SlO tFrame _ w none 0 y) hr2) (SlO.nil tFrame w)
  ·simp only [bne_eq_false_iff_eq] at hc17
   exfalso; first | contradiction | omega | simp_all
end Go.Proofs.Ytfncgfcehkalnaa
