/- The walks, printed by a program from the translation and a specification. -/
import Derived.Test.YthbfdhphnofacabTfF
import Derived.Test.YthbfdhphnofacabTfLaw
import Derived.Test.YthbfdhphnofacabTfW1
import Derived.Test.YthbfdhphnofacabTfW2
namespace Go.Proofs.Ythbfdhphnofacab
open Go.Sx Go.RowKit
set_option maxHeartbeats 8000000 in
set_option maxRecDepth 100000 in
theorem touch1_ok (f : DFrame) (Bk : Nat) (key : Int) : Fn0 Try.prog 107 [.agg #[.int .i64 f.key, .bool f.used], .pointer (some ⟨Bk, 0, none⟩)] (fun w => (box Bk [.int .i64 key] 3).A w) (.bool (f.key == key)) := by
  refine fn0 (nt := 8) (F0 := [(0, .agg #[.int .i64 f.key, .bool f.used]), (1, .pointer (some ⟨Bk, 0, none⟩))]) Try.func107 rfl Try.ntmps107 rfl rfl (fun w0 hpre => ?_)
  have hBk := hpre
  refine c_seq ?_
  refine c_region ?_
  refine o_box (v := .agg #[.int .i64 f.key, .bool f.used]) rfl rfl (fun B1 => ?_)
  refine o_pure (p_assign (v := .bool false) rfl) rfl rfl rfl ?_
  refine o_nil ?_
  refine q_then ?_
  refine c_seq ?_
  refine c_region ?_
  refine o_pure (p_fieldAddr (B := B1) (j := 0) (j' := 0) rfl fo73_0 rfl) rfl rfl rfl ?_
  refine o_pure (p_load (i := 0) (v := .int .i64 f.key) rfl rfl sh3 rfl) rfl rfl rfl ?_
  refine o_pure (p_loadR (v := .int .i64 key) rfl (rbox_base (i := 1) rfl hBk) sh3 rfl) rfl rfl rfl ?_
  refine o_pure (p_eq (p := f.key) (q := key) rfl rfl) rfl rfl rfl ?_
  refine o_pure (p_assign (v := .bool (f.key == key)) rfl) rfl rfl rfl ?_
  refine o_nil ?_
  refine q_then ?_
  refine c_ret ?_
  refine q_end0 (v := .bool (f.key == key)) (rt1 rfl (r_tmp rfl)) (i := 1) rfl ?_
  exact rfl

set_option maxHeartbeats 8000000 in
set_option maxRecDepth 100000 in
theorem step_ok (c : DClock) (Bc : Nat) (ac_0 : Option Addr) (cc_0 : Nat) (Sc_0 : Nat → Prop) (hy1 : 0 ≤ c.hand ∧ c.hand ≤ 100 ∧ 0 < c.frames.length) : FnX Try.prog 108 [.pointer (some ⟨Bc, 0, none⟩)] [box Bc [.int .i64 c.room, .int .i64 c.hand, .slice ac_0 c.frames.length cc_0] 122, own tFrame Sc_0 ac_0 cc_0 c.frames] (fun _ => True) (Option Addr × Nat × (Nat → Prop)) (fun p => .tuple #[]) (fun p => [box Bc [.int .i64 c.room, .int .i64 ((c.hand + 1).tmod (c.frames.length : Int)), .slice p.1 c.frames.length p.2.1] 122, own tFrame p.2.2 p.1 p.2.1 c.frames]) := by
  refine fnX (nt := 19) (F0 := [(0, .pointer (some ⟨Bc, 0, none⟩))]) Try.func108 rfl Try.ntmps108 rfl rfl (fun w0 hpre => ?_)
  refine c_know (fun w hw => own_len (i := 2) (T := tFrame) hw rfl) (fun hlown_c_0 => ?_)
  obtain ⟨hcown_c_0, hlown_c_0⟩ := hlown_c_0
  refine c_cut (G := Unit) (fun _ => []) (fun _ => [outer w0 [box Bc [.int .i64 c.room, .int .i64 c.hand, .slice ac_0 c.frames.length cc_0] 122, own tFrame Sc_0 ac_0 cc_0 c.frames], box Bc [.int .i64 c.room, .int .i64 ((c.hand + 1).tmod (c.frames.length : Int)), .slice ac_0 c.frames.length cc_0] 122, own tFrame Sc_0 ac_0 cc_0 c.frames]) (fun K hK2 => ?_) ?_
  · refine c_held hmix [outer w0 [box Bc [.int .i64 c.room, .int .i64 c.hand, .slice ac_0 c.frames.length cc_0] 122, own tFrame Sc_0 ac_0 cc_0 c.frames], own tFrame Sc_0 ac_0 cc_0 c.frames] rfl rfl ?_
    refine h_take (i := 0) (ls := #[true, false, false, false, false, false, false, false, false, false, false, false, false, false, false, false, false, false]) rfl (by kernel_rfl) (by kernel_rfl) (by kernel_rfl) (fun _ _ _ h => h) (p_move (v := .pointer (some ⟨Bc, 0, none⟩)) rfl) rfl rfl rfl (fun _ hw => HeapIs.drop hw (List.Sublist.cons_cons _ (List.Sublist.cons _ (List.Sublist.cons_cons _ (List.Sublist.slnil))))) rfl ?_
    refine h_take (i := 1) (ls := #[true, true, false, false, false, false, false, false, false, false, false, false, false, false, false, false, false, false]) rfl (by kernel_rfl) (by kernel_rfl) (by kernel_rfl) (fun _ _ _ h => h) (p_move (v := .pointer (some ⟨Bc, 0, none⟩)) rfl) rfl rfl rfl (fun _ hw => HeapIs.drop hw (List.Sublist.cons_cons _ (List.Sublist.cons _ (List.Sublist.cons_cons _ (List.Sublist.slnil))))) rfl ?_
    refine h_take (i := 2) (ls := #[true, true, true, false, false, false, false, false, false, false, false, false, false, false, false, false, false, false]) rfl (by kernel_rfl) (by kernel_rfl) (by kernel_rfl) (fun _ _ _ h => h) (p_nilCheck rfl) rfl rfl rfl (fun _ hw => HeapIs.drop hw (List.Sublist.cons_cons _ (List.Sublist.cons _ (List.Sublist.cons_cons _ (List.Sublist.slnil))))) rfl ?_
    refine h_take (i := 3) (ls := #[true, true, true, true, false, false, false, false, false, false, false, false, false, false, false, false, false, false]) rfl (by kernel_rfl) (by kernel_rfl) (by kernel_rfl) (fun _ _ _ h => h) (p_fieldAddr (B := Bc) (j := 0) (j' := 0) rfl fo122_0 rfl) rfl rfl rfl (fun _ hw => HeapIs.drop hw (List.Sublist.cons_cons _ (List.Sublist.cons _ (List.Sublist.cons_cons _ (List.Sublist.slnil))))) rfl ?_
    refine h_take (i := 4) (ls := #[true, true, true, true, true, false, false, false, false, false, false, false, false, false, false, false, false, false]) rfl (by kernel_rfl) (by kernel_rfl) (by kernel_rfl) (fun _ _ _ h => h) (p_fieldAddr (B := Bc) (j := 0) (j' := 1) rfl fo59_1 rfl) rfl rfl rfl (fun _ hw => HeapIs.drop hw (List.Sublist.cons_cons _ (List.Sublist.cons _ (List.Sublist.cons_cons _ (List.Sublist.slnil))))) rfl ?_
    refine h_take (i := 7) (ls := #[true, true, true, true, true, false, false, true, false, false, false, false, false, false, false, false, false, false]) rfl (by kernel_rfl) (by kernel_rfl) (by kernel_rfl) (fun _ _ _ h => h) (p_move (v := .pointer (some ⟨Bc, 0, none⟩)) rfl) rfl rfl rfl (fun _ hw => HeapIs.drop hw (List.Sublist.cons_cons _ (List.Sublist.cons _ (List.Sublist.cons_cons _ (List.Sublist.slnil))))) rfl ?_
    refine h_take (i := 8) (ls := #[true, true, true, true, true, false, false, true, true, false, false, false, false, false, false, false, false, false]) rfl (by kernel_rfl) (by kernel_rfl) (by kernel_rfl) (fun _ _ _ h => h) (p_nilCheck rfl) rfl rfl rfl (fun _ hw => HeapIs.drop hw (List.Sublist.cons_cons _ (List.Sublist.cons _ (List.Sublist.cons_cons _ (List.Sublist.slnil))))) rfl ?_
    refine h_take (i := 9) (ls := #[true, true, true, true, true, false, false, true, true, true, false, false, false, false, false, false, false, false]) rfl (by kernel_rfl) (by kernel_rfl) (by kernel_rfl) (fun _ _ _ h => h) (p_fieldAddr (B := Bc) (j := 0) (j' := 0) rfl fo122_0 rfl) rfl rfl rfl (fun _ hw => HeapIs.drop hw (List.Sublist.cons_cons _ (List.Sublist.cons _ (List.Sublist.cons_cons _ (List.Sublist.slnil))))) rfl ?_
    refine h_take (i := 10) (ls := #[true, true, true, true, true, false, false, true, true, true, true, false, false, false, false, false, false, false]) rfl (by kernel_rfl) (by kernel_rfl) (by kernel_rfl) (fun _ _ _ h => h) (p_fieldAddr (B := Bc) (j := 0) (j' := 2) rfl fo59_2 rfl) rfl rfl rfl (fun _ hw => HeapIs.drop hw (List.Sublist.cons_cons _ (List.Sublist.cons _ (List.Sublist.cons_cons _ (List.Sublist.slnil))))) rfl ?_
    refine h_two (i := 5) (j := 11) (ls := #[true, true, true, true, true, true, false, true, true, true, true, false, false, false, false, false, false, false]) (ls' := #[true, true, true, true, true, false, false, true, true, true, true, true, false, false, false, false, false, false]) (by kernel_rfl) rfl rfl rfl rfl ?_ ?_
    · refine o_pure (p_load (i := 1) (v := .int .i64 c.hand) rfl rfl sh3 rfl) rfl rfl rfl ?_
      refine o_nil ?_
      refine h_next (fun _ hw => HeapIs.drop hw (List.Sublist.cons_cons _ (List.Sublist.cons _ (List.Sublist.cons_cons _ (List.Sublist.slnil))))) ?_
      refine h_take (i := 6) (ls := #[true, true, true, true, true, true, true, true, true, true, true, false, false, false, false, false, false, false]) rfl (by kernel_rfl) (by kernel_rfl) (by kernel_rfl) (fun _ _ _ h => h) (p_addb (p := c.hand) (q := 1) rfl rfl (by omega)) rfl rfl rfl (fun _ hw => HeapIs.drop hw (List.Sublist.cons_cons _ (List.Sublist.cons _ (List.Sublist.cons_cons _ (List.Sublist.slnil))))) rfl ?_
      refine h_one (i := 11) (ls := #[true, true, true, true, true, true, true, true, true, true, true, true, false, false, false, false, false, false]) (by kernel_rfl) rfl rfl ?_
      refine o_pure (p_load (i := 1) (v := .slice ac_0 c.frames.length cc_0) rfl rfl sh57 rfl) rfl rfl rfl ?_
      refine o_nil ?_
      refine h_next (fun _ hw => HeapIs.drop hw (List.Sublist.cons_cons _ (List.Sublist.cons _ (List.Sublist.cons_cons _ (List.Sublist.slnil))))) ?_
      refine h_take (i := 12) (ls := #[true, true, true, true, true, true, true, true, true, true, true, true, true, false, false, false, false, false]) rfl (by kernel_rfl) (by kernel_rfl) (by kernel_rfl) (fun _ _ _ h => h) (p_len_slice (len := c.frames.length) rfl rfl Try.underlying57) rfl rfl rfl (fun _ hw => HeapIs.drop hw (List.Sublist.cons_cons _ (List.Sublist.cons _ (List.Sublist.cons_cons _ (List.Sublist.slnil))))) rfl ?_
      refine h_take (i := 13) (ls := #[true, true, true, true, true, true, true, true, true, true, true, true, true, true, false, false, false, false]) rfl (by kernel_rfl) (by kernel_rfl) (by kernel_rfl) (fun _ _ _ h => h) (p_rem (p := (c.hand + 1)) (q := (c.frames.length : Int)) rfl rfl (by omega)) rfl rfl rfl (fun _ hw => HeapIs.drop hw (List.Sublist.cons_cons _ (List.Sublist.cons _ (List.Sublist.cons_cons _ (List.Sublist.slnil))))) rfl ?_
      refine h_take (i := 14) (ls := #[true, true, true, true, true, true, true, true, true, true, true, true, true, true, true, false, false, false]) rfl (by kernel_rfl) (by kernel_rfl) (by kernel_rfl) (fun _ _ _ h => h) (p_nilCheck rfl) rfl rfl rfl (fun _ hw => HeapIs.drop hw (List.Sublist.cons_cons _ (List.Sublist.cons _ (List.Sublist.cons_cons _ (List.Sublist.slnil))))) rfl ?_
      refine h_take (i := 15) (ls := #[true, true, true, true, true, true, true, true, true, true, true, true, true, true, true, true, false, false]) rfl (by kernel_rfl) (by kernel_rfl) (by kernel_rfl) (fun _ _ _ h => h) (p_fieldAddr (B := Bc) (j := 0) (j' := 0) rfl fo122_0 rfl) rfl rfl rfl (fun _ hw => HeapIs.drop hw (List.Sublist.cons_cons _ (List.Sublist.cons _ (List.Sublist.cons_cons _ (List.Sublist.slnil))))) rfl ?_
      refine h_take (i := 16) (ls := #[true, true, true, true, true, true, true, true, true, true, true, true, true, true, true, true, true, false]) rfl (by kernel_rfl) (by kernel_rfl) (by kernel_rfl) (fun _ _ _ h => h) (p_fieldAddr (B := Bc) (j := 0) (j' := 1) rfl fo59_1 rfl) rfl rfl rfl (fun _ hw => HeapIs.drop hw (List.Sublist.cons_cons _ (List.Sublist.cons _ (List.Sublist.cons_cons _ (List.Sublist.slnil))))) rfl ?_
      refine h_one (i := 17) (ls := #[true, true, true, true, true, true, true, true, true, true, true, true, true, true, true, true, true, true]) (by kernel_rfl) rfl rfl ?_
      refine o_store (i := 1) (v := .int .i64 ((c.hand + 1).tmod (c.frames.length : Int))) (cs' := [.int .i64 c.room, .int .i64 ((c.hand + 1).tmod (c.frames.length : Int)), .slice ac_0 c.frames.length cc_0]) rfl rfl rfl sz3 rfl rfl rfl ?_
      refine o_nil ?_
      refine h_next (fun _ hw => HeapIs.drop hw (List.Sublist.cons_cons _ (List.Sublist.cons _ (List.Sublist.cons_cons _ (List.Sublist.slnil))))) ?_
      refine h_done (by kernel_rfl) ?_
      refine q_kont hK2 () (Sub.nil _) (fun _ hw => HeapIs.pick hw [0, 1, 2] (by decide) rfl)
    · refine o_pure (p_load (i := 1) (v := .slice ac_0 c.frames.length cc_0) rfl rfl sh57 rfl) rfl rfl rfl ?_
      refine o_nil ?_
      refine h_next (fun _ hw => HeapIs.drop hw (List.Sublist.cons_cons _ (List.Sublist.cons _ (List.Sublist.cons_cons _ (List.Sublist.slnil))))) ?_
      refine h_take (i := 12) (ls := #[true, true, true, true, true, false, false, true, true, true, true, true, true, false, false, false, false, false]) rfl (by kernel_rfl) (by kernel_rfl) (by kernel_rfl) (fun _ _ _ h => h) (p_len_slice (len := c.frames.length) rfl rfl Try.underlying57) rfl rfl rfl (fun _ hw => HeapIs.drop hw (List.Sublist.cons_cons _ (List.Sublist.cons _ (List.Sublist.cons_cons _ (List.Sublist.slnil))))) rfl ?_
      refine h_one (i := 5) (ls := #[true, true, true, true, true, true, false, true, true, true, true, true, true, false, false, false, false, false]) (by kernel_rfl) rfl rfl ?_
      refine o_pure (p_load (i := 1) (v := .int .i64 c.hand) rfl rfl sh3 rfl) rfl rfl rfl ?_
      refine o_nil ?_
      refine h_next (fun _ hw => HeapIs.drop hw (List.Sublist.cons_cons _ (List.Sublist.cons _ (List.Sublist.cons_cons _ (List.Sublist.slnil))))) ?_
      refine h_take (i := 6) (ls := #[true, true, true, true, true, true, true, true, true, true, true, true, true, false, false, false, false, false]) rfl (by kernel_rfl) (by kernel_rfl) (by kernel_rfl) (fun _ _ _ h => h) (p_addb (p := c.hand) (q := 1) rfl rfl (by omega)) rfl rfl rfl (fun _ hw => HeapIs.drop hw (List.Sublist.cons_cons _ (List.Sublist.cons _ (List.Sublist.cons_cons _ (List.Sublist.slnil))))) rfl ?_
      refine h_take (i := 13) (ls := #[true, true, true, true, true, true, true, true, true, true, true, true, true, true, false, false, false, false]) rfl (by kernel_rfl) (by kernel_rfl) (by kernel_rfl) (fun _ _ _ h => h) (p_rem (p := (c.hand + 1)) (q := (c.frames.length : Int)) rfl rfl (by omega)) rfl rfl rfl (fun _ hw => HeapIs.drop hw (List.Sublist.cons_cons _ (List.Sublist.cons _ (List.Sublist.cons_cons _ (List.Sublist.slnil))))) rfl ?_
      refine h_take (i := 14) (ls := #[true, true, true, true, true, true, true, true, true, true, true, true, true, true, true, false, false, false]) rfl (by kernel_rfl) (by kernel_rfl) (by kernel_rfl) (fun _ _ _ h => h) (p_nilCheck rfl) rfl rfl rfl (fun _ hw => HeapIs.drop hw (List.Sublist.cons_cons _ (List.Sublist.cons _ (List.Sublist.cons_cons _ (List.Sublist.slnil))))) rfl ?_
      refine h_take (i := 15) (ls := #[true, true, true, true, true, true, true, true, true, true, true, true, true, true, true, true, false, false]) rfl (by kernel_rfl) (by kernel_rfl) (by kernel_rfl) (fun _ _ _ h => h) (p_fieldAddr (B := Bc) (j := 0) (j' := 0) rfl fo122_0 rfl) rfl rfl rfl (fun _ hw => HeapIs.drop hw (List.Sublist.cons_cons _ (List.Sublist.cons _ (List.Sublist.cons_cons _ (List.Sublist.slnil))))) rfl ?_
      refine h_take (i := 16) (ls := #[true, true, true, true, true, true, true, true, true, true, true, true, true, true, true, true, true, false]) rfl (by kernel_rfl) (by kernel_rfl) (by kernel_rfl) (fun _ _ _ h => h) (p_fieldAddr (B := Bc) (j := 0) (j' := 1) rfl fo59_1 rfl) rfl rfl rfl (fun _ hw => HeapIs.drop hw (List.Sublist.cons_cons _ (List.Sublist.cons _ (List.Sublist.cons_cons _ (List.Sublist.slnil))))) rfl ?_
      refine h_one (i := 17) (ls := #[true, true, true, true, true, true, true, true, true, true, true, true, true, true, true, true, true, true]) (by kernel_rfl) rfl rfl ?_
      refine o_store (i := 1) (v := .int .i64 ((c.hand + 1).tmod (c.frames.length : Int))) (cs' := [.int .i64 c.room, .int .i64 ((c.hand + 1).tmod (c.frames.length : Int)), .slice ac_0 c.frames.length cc_0]) rfl rfl rfl sz3 rfl rfl rfl ?_
      refine o_nil ?_
      refine h_next (fun _ hw => HeapIs.drop hw (List.Sublist.cons_cons _ (List.Sublist.cons _ (List.Sublist.cons_cons _ (List.Sublist.slnil))))) ?_
      refine h_done (by kernel_rfl) ?_
      refine q_kont hK2 () (Sub.nil _) (fun _ hw => HeapIs.pick hw [0, 1, 2] (by decide) rfl)
  rintro _
  show SQ _ 19 w0 _ _ [] [outer w0 [box Bc [.int .i64 c.room, .int .i64 c.hand, .slice ac_0 c.frames.length cc_0] 122, own tFrame Sc_0 ac_0 cc_0 c.frames], box Bc [.int .i64 c.room, .int .i64 ((c.hand + 1).tmod (c.frames.length : Int)), .slice ac_0 c.frames.length cc_0] 122, own tFrame Sc_0 ac_0 cc_0 c.frames]
  refine q_endX (p := (ac_0, cc_0, Sc_0)) (rt0 rfl) ?_ (fun w hw => ?_)
  · exact rfl
  · have h2 := hw.pick (H' := [outer w0 [box Bc [.int .i64 c.room, .int .i64 c.hand, .slice ac_0 c.frames.length cc_0] 122, own tFrame Sc_0 ac_0 cc_0 c.frames], box Bc [.int .i64 c.room, .int .i64 ((c.hand + 1).tmod (c.frames.length : Int)), .slice ac_0 c.frames.length cc_0] 122, own tFrame Sc_0 ac_0 cc_0 c.frames]) [0, 1, 2] (by decide) rfl
    exact Eq.mp (congrArg (fun z => HeapIs w0 ((outer w0 [box Bc [.int .i64 c.room, .int .i64 c.hand, .slice ac_0 c.frames.length cc_0] 122, own tFrame Sc_0 ac_0 cc_0 c.frames]) :: z) w) (rfl)) h2

set_option maxHeartbeats 8000000 in
set_option maxRecDepth 100000 in
theorem ckeys_ok (l : List DFrame) (al : Option Addr) (cl : Nat) (hy1 : l.length ≤ 1000000) : FnM Try.prog 85 [.slice al l.length cl] (fun w => Rd tFrame w al cl l) (Option Addr × Nat) (fun p => .slice p.1 (Clock.keysOf l).length p.2) (fun p S w => SlO tInt S w p.1 p.2 (Clock.keysOf l)) := by
  refine fnM (nt := 23) (F0 := [(0, .slice al l.length cl)]) Try.func85 rfl Try.ntmps85 rfl rfl (fun w0 hpre => ?_)
  have hl := hpre
  have hlhl := hl.2.1
  refine c_seq ?_
  refine c_region ?_
  refine o_pure (p_assign (v := .slice none 0 0) rfl) rfl rfl rfl ?_
  refine o_nil ?_
  refine q_then ?_
  refine c_seq ?_
  refine c_region ?_
  refine o_pure (p_move (v := .slice al l.length cl) rfl) rfl rfl rfl ?_
  refine o_pure (p_len_slice (len := l.length) rfl rfl Try.underlying57) rfl rfl rfl ?_
  refine o_makeSlice (T := tInt) (m := (l.length : Int)) (z := 0) rfl rfl Try.underlying22 el3 ze3 rfl (by decide) (by omega) (by omega) rfl (fun S2 a1 => ?_)
  refine o_pure (p_assign (v := .slice a1 (List.replicate ((l.length : Int).toNat) 0).length ((l.length : Int).toNat)) rfl) rfl rfl rfl ?_
  refine o_nil ?_
  refine q_then ?_
  refine c_seq ?_
  refine c_seq ?_
  refine c_region ?_
  refine o_pure (p_move (v := .slice al l.length cl) rfl) rfl rfl rfl ?_
  refine o_pure (p_len_slice (len := l.length) rfl rfl Try.underlying57) rfl rfl rfl ?_
  refine o_pure (p_move (v := .int .i64 0) rfl) rfl rfl rfl ?_
  refine o_nil ?_
  refine q_then ?_
  refine c_block ?_
  refine c_loop (St := Nat × List Int)
    (fun ⟨k, out⟩ => [(3, .slice a1 out.length ((l.length : Int).toNat)), (9, .slice al l.length cl), (10, .int .i64 (l.length : Int)), (11, .int .i64 (k : Int))])
    (fun ⟨k, out⟩ => [own tInt S2 a1 ((l.length : Int).toNat) out, base w0])
    (fun ⟨k, out⟩ => k ≤ l.length ∧ out = Clock.keysTo l k)
    (fun ⟨k, out⟩ => l.length - k)
    (0, (List.replicate ((l.length : Int).toNat) 0)) ?_ (Sub.cons rfl (Sub.cons rfl (Sub.cons rfl (Sub.cons rfl (Sub.nil _))))) (fun _ hw => hw) ?_
  · exact ⟨Nat.zero_le _, Clock.keysTo_zero l⟩
  rintro ⟨k, out⟩ hI K hK4
  obtain ⟨hI1, hI2⟩ := hI
  have ho : out.length = l.length := by rw [hI2, Clock.keysTo_length hI1]
  show SC _ _ Try.prog 23 w0 _ _ [(3, .slice a1 out.length ((l.length : Int).toNat)), (9, .slice al l.length cl), (10, .int .i64 (l.length : Int)), (11, .int .i64 (k : Int))] [own tInt S2 a1 ((l.length : Int).toNat) out, base w0]
  refine c_seq ?_
  refine c_region ?_
  refine o_pure (p_lt (p := (k : Int)) (q := (l.length : Int)) rfl rfl) rfl rfl rfl ?_
  refine o_nil ?_
  refine q_then ?_
  refine c_seq ?_
  refine c_cond (b := decide ((k : Int) < (l.length : Int))) rfl (fun hc5 => ?_) (fun hc5 => ?_)
  · simp only [decide_eq_true_eq] at hc5
    refine c_skip ?_
    refine q_then ?_
    refine c_seq ?_
    refine c_block ?_
    refine c_seq ?_
    refine c_region ?_
    refine o_pure (p_move (v := .int .i64 (k : Int)) rfl) rfl rfl rfl ?_
    refine o_pure (p_indexAddr (L := l) (T := tFrame) (i := (k : Int)) rfl rfl (rd_base (i := 1) rfl hl) Try.underlying57 sz73 (by omega) (by omega)) rfl rfl rfl ?_
    refine o_pure (p_loadEn (i := k) (T := tFrame) (L := l) (vs := [.int .i64 ((l[k]).key), .bool ((l[k]).used)]) rfl (rd_base (i := 1) rfl hl) (by first | assumption | omega) sh73 rfl) rfl rfl rfl ?_
    refine o_alloc ze73 rfl (fun B6 => ?_)
    refine o_pure (p_assign (v := .int .i64 (k : Int)) rfl) rfl rfl rfl ?_
    refine o_storeN (i := 0) (vs := [.int .i64 ((l[k]).key), .bool ((l[k]).used)]) (cs' := [.int .i64 ((l[k]).key), .bool ((l[k]).used)]) rfl rfl rfl sz73 rfl rfl rfl rfl ?_
    refine o_nil ?_
    refine q_then ?_
    refine c_region ?_
    refine o_pure (p_move (v := .slice a1 out.length ((l.length : Int).toNat)) rfl) rfl rfl rfl ?_
    refine o_pure (p_move (v := .int .i64 (k : Int)) rfl) rfl rfl rfl ?_
    refine o_pure (p_fieldAddr (B := B6) (j := 0) (j' := 0) rfl fo73_0 rfl) rfl rfl rfl ?_
    refine o_pure (p_load (i := 0) (v := .int .i64 ((l[k]).key)) rfl rfl sh3 rfl) rfl rfl rfl ?_
    refine o_pure (p_indexAddr (L := out) (T := tInt) (i := (k : Int)) rfl rfl (rd_own (i := 1) rfl) Try.underlying22 sz3 (by omega) (by omega)) rfl rfl rfl ?_
    refine o_storeW (i := 1) (T := tInt) (idx := k) (v := .int .i64 ((l[k]).key)) (vs := [.int .i64 ((l[k]).key)]) (z := (l[k]).key) (F' := [(3, .slice a1 (out.set k ((l[k]).key)).length ((l.length : Int).toNat)), (9, .slice al l.length cl), (10, .int .i64 (l.length : Int)), (11, .int .i64 (k : Int))]) rfl rfl rfl rfl (by first | assumption | omega | (simp only [List.length_set]; omega)) sz3 rfl rfl rfl rfl (Sub.cons (by simp only [List.length_set]; rfl) (Sub.cons rfl (Sub.cons rfl (Sub.cons rfl (Sub.nil _))))) ?_
    refine o_nil ?_
    refine q_block_normal (q_then ?_)
    refine c_region ?_
    refine o_pure (p_addb (p := (k : Int)) (q := 1) rfl rfl (by omega)) rfl rfl rfl ?_
    refine o_pure (p_move (v := .int .i64 ((k : Int) + 1)) rfl) rfl rfl rfl ?_
    refine o_nil ?_
    refine q_round hK4 (k + 1, (out.set k ((l[k]).key))) ?_ ?_ ?_ ?_
    · clear hK4
      exact ⟨by omega, Clock.keysTo_next (by omega) hI2⟩
    · (try dsimp only); omega
    · exact Sub.cons rfl (Sub.cons rfl (Sub.cons rfl (Sub.cons rfl (Sub.nil _))))
    · exact fun _ hw => HeapIs.pick hw [1, 2] (by decide) rfl
  · simp only [decide_eq_false_iff_not, Int.not_lt] at hc5
    refine c_exit ?_
    refine q_then_exit (q_then_exit (q_block_exit (q_then ?_)))
    refine c_seq ?_
    refine c_region ?_
    refine o_pure (p_move (v := .slice a1 out.length ((l.length : Int).toNat)) rfl) rfl rfl rfl ?_
    refine o_pure (p_assign (v := .slice a1 out.length ((l.length : Int).toNat)) rfl) rfl rfl rfl ?_
    refine o_nil ?_
    refine q_then ?_
    refine c_ret ?_
    have hr0 : (out : List Int) = (Clock.keysOf l) := by
      exact Clock.keys_end (by omega) hI2
    refine q_endM (p := (a1, (l.length : Int).toNat)) S2 (rt1 rfl (r_tmp rfl)) (i := 1) rfl ?_ ?_ ?_
    · exact (by have hcc := congrArg (fun (y0 : List Int) => (.slice a1 y0.length ((l.length : Int).toNat) : Value)) hr0; exact hcc)
    · exact fun w hw => hw.above (i := 1) (j := 0) (by decide) rfl rfl
    · intro w hw; exact Eq.mp (congrArg (fun y => SlO tInt _ w a1 ((l.length : Int).toNat) y) hr0) ((hw.at (i := 0) rfl).here)

set_option maxHeartbeats 8000000 in
set_option maxRecDepth 100000 in
theorem ccheck_ok (c : DClock) (ac_0 : Option Addr) (cc_0 : Nat) : Fn0 Try.prog 45 [.agg #[.int .i64 c.room, .int .i64 c.hand, .slice ac_0 c.frames.length cc_0]] (fun w => Rd tFrame w ac_0 cc_0 c.frames) (.int .i64 (Clock.check c)) := by
  refine fn0 (nt := 36) (F0 := [(0, .agg #[.int .i64 c.room, .int .i64 c.hand, .slice ac_0 c.frames.length cc_0])]) Try.func45 rfl Try.ntmps45 rfl rfl (fun w0 hpre => ?_)
  have hc_0 := hpre
  have hlhc_0 := hc_0.2.1
  refine c_seq ?_
  refine c_region ?_
  refine o_box (v := .agg #[.int .i64 c.room, .int .i64 c.hand, .slice ac_0 c.frames.length cc_0]) rfl rfl (fun B1 => ?_)
  refine o_pure (p_assign (v := .int .i64 0) rfl) rfl rfl rfl ?_
  refine o_nil ?_
  refine q_then ?_
  refine c_seq ?_
  refine c_block ?_
  refine c_seq ?_
  refine c_region ?_
  refine o_pure (p_fieldAddr (B := B1) (j := 0) (j' := 0) rfl fo59_0 rfl) rfl rfl rfl ?_
  refine o_pure (p_load (i := 0) (v := .int .i64 c.room) rfl rfl sh3 rfl) rfl rfl rfl ?_
  refine o_call0 (v := .bool (Lru.okRoom c.room)) rfl (room_ok c.room) hf63 (fun _ _ => trivial) rfl ?_
  refine o_pure (p_not (b := (Lru.okRoom c.room)) rfl) rfl rfl rfl ?_
  refine o_pure (p_assign (v := .bool (!(Lru.okRoom c.room))) rfl) rfl rfl rfl ?_
  refine o_nil ?_
  refine q_then ?_
  refine c_cond (b := (!(Lru.okRoom c.room))) rfl (fun hc2 => ?_) (fun hc2 => ?_)
  · simp only [Bool.not_eq_true'] at hc2
    refine c_seq ?_
    refine c_region ?_
    refine o_pure (p_assign (v := .int .i64 3) rfl) rfl rfl rfl ?_
    refine o_nil ?_
    refine q_then ?_
    refine c_ret ?_
    refine q_block_ret (q_then_ret ?_)
    have hr0 : (3 : Int) = (Clock.check c) := by
      simp only [Clock.check]; grind
    refine q_end0 (v := .int .i64 3) (rt1 rfl (r_tmp rfl)) (i := 1) rfl ?_
    exact (by have hcc := congrArg (fun (y0 : Int) => (.int .i64 y0 : Value)) hr0; exact hcc)
  · simp only [Bool.not_eq_false'] at hc2
    have hroom := Lru.room_ok hc2
    refine c_seq ?_
    refine c_region ?_
    refine o_pure (p_fieldAddr (B := B1) (j := 0) (j' := 2) rfl fo59_2 rfl) rfl rfl rfl ?_
    refine o_pure (p_load (i := 0) (v := .slice ac_0 c.frames.length cc_0) rfl rfl sh57 rfl) rfl rfl rfl ?_
    refine o_pure (p_len_slice (len := c.frames.length) rfl rfl Try.underlying57) rfl rfl rfl ?_
    refine o_pure (p_fieldAddr (B := B1) (j := 0) (j' := 0) rfl fo59_0 rfl) rfl rfl rfl ?_
    refine o_pure (p_load (i := 0) (v := .int .i64 c.room) rfl rfl sh3 rfl) rfl rfl rfl ?_
    refine o_pure (p_gt (p := (c.frames.length : Int)) (q := c.room) rfl rfl) rfl rfl rfl ?_
    refine o_pure (p_assign (v := .bool (decide (c.room < (c.frames.length : Int)))) rfl) rfl rfl rfl ?_
    refine o_nil ?_
    refine q_then ?_
    refine c_cond (b := decide (c.room < (c.frames.length : Int))) rfl (fun hc3 => ?_) (fun hc3 => ?_)
    · simp only [decide_eq_true_eq] at hc3
      refine c_seq ?_
      refine c_region ?_
      refine o_pure (p_assign (v := .int .i64 2) rfl) rfl rfl rfl ?_
      refine o_nil ?_
      refine q_then ?_
      refine c_ret ?_
      refine q_block_ret (q_then_ret ?_)
      have hr0 : (2 : Int) = (Clock.check c) := by
        simp only [Clock.check]; grind
      refine q_end0 (v := .int .i64 2) (rt1 rfl (r_tmp rfl)) (i := 1) rfl ?_
      exact (by have hcc := congrArg (fun (y0 : Int) => (.int .i64 y0 : Value)) hr0; exact hcc)
    · simp only [decide_eq_false_iff_not, Int.not_lt] at hc3
      refine c_skip ?_
      refine q_block_normal (q_then ?_)
      refine c_seq ?_
      refine c_seq ?_
      refine c_region ?_
      refine o_pure (p_fieldAddr (B := B1) (j := 0) (j' := 2) rfl fo59_2 rfl) rfl rfl rfl ?_
      refine o_pure (p_load (i := 0) (v := .slice ac_0 c.frames.length cc_0) rfl rfl sh57 rfl) rfl rfl rfl ?_
      refine o_callM rfl (ckeys_ok c.frames ac_0 cc_0 (by omega)) hf85 (fun w hw => (rd_base (i := 1) rfl hc_0) w hw) rfl (fun _ _ _ _ ha hA => SlO.agree ha hA) ?_
      rintro ⟨a6, c7⟩ S4
      refine o_know (fun w hw => own_len (i := 0) (T := tInt) hw rfl) (fun hlr8 => ?_)
      refine o_call0 (v := .int .i64 (Lru.keys (Clock.keysOf c.frames))) rfl (keys_ok (Clock.keysOf c.frames) a6 c7) hf84 (fun w hw => (rd_own (i := 0) rfl) w hw) rfl ?_
      refine o_pure (p_assign (v := .int .i64 (Lru.keys (Clock.keysOf c.frames))) rfl) rfl rfl rfl ?_
      refine o_nil ?_
      refine q_then ?_
      refine c_seq ?_
      refine c_region ?_
      refine o_pure (p_move (v := .int .i64 (Lru.keys (Clock.keysOf c.frames))) rfl) rfl rfl rfl ?_
      refine o_pure (p_ne (p := (Lru.keys (Clock.keysOf c.frames))) (q := 0) rfl rfl) rfl rfl rfl ?_
      refine o_nil ?_
      refine q_then ?_
      refine c_cond (b := ((Lru.keys (Clock.keysOf c.frames)) != 0)) rfl (fun hc9 => ?_) (fun hc9 => ?_)
      · simp only [bne_iff_ne, ne_eq] at hc9
        refine c_seq ?_
        refine c_region ?_
        refine o_pure (p_move (v := .int .i64 (Lru.keys (Clock.keysOf c.frames))) rfl) rfl rfl rfl ?_
        refine o_pure (p_assign (v := .int .i64 (Lru.keys (Clock.keysOf c.frames))) rfl) rfl rfl rfl ?_
        refine o_nil ?_
        refine q_then ?_
        refine c_ret ?_
        refine q_then_ret ?_
        have hr0 : ((Lru.keys (Clock.keysOf c.frames)) : Int) = (Clock.check c) := by
          simp only [Clock.check]; grind
        refine q_end0 (v := .int .i64 (Lru.keys (Clock.keysOf c.frames))) (rt1 rfl (r_tmp rfl)) (i := 2) rfl ?_
        exact (by have hcc := congrArg (fun (y0 : Int) => (.int .i64 y0 : Value)) hr0; exact hcc)
      · simp only [bne_eq_false_iff_eq] at hc9
        refine c_skip ?_
        refine q_then ?_
        refine c_seq ?_
        refine c_seq ?_
        refine c_region ?_
        refine o_pure (p_fieldAddr (B := B1) (j := 0) (j' := 1) rfl fo59_1 rfl) rfl rfl rfl ?_
        refine o_pure (p_load (i := 1) (v := .int .i64 c.hand) rfl rfl sh3 rfl) rfl rfl rfl ?_
        refine o_pure (p_lt (p := c.hand) (q := 0) rfl rfl) rfl rfl rfl ?_
        refine o_pure (p_move (v := .bool (decide (c.hand < 0))) rfl) rfl rfl rfl ?_
        refine o_or (p := 35) 9 (decide ((max 0 ((c.frames.length : Int) - 1)) < c.hand)) ?_ ?_ ?_
        · intro hb10 hk
          simp only [decide_eq_false_iff_not, Int.not_lt] at hb10
          refine o_unguard 26 rfl rfl ?_
          refine o_pure (p_fieldAddr (B := B1) (j := 0) (j' := 1) rfl fo59_1 rfl) rfl rfl rfl ?_
          refine o_unguard 26 rfl rfl ?_
          refine o_pure (p_load (i := 1) (v := .int .i64 c.hand) rfl rfl sh3 rfl) rfl rfl rfl ?_
          refine o_unguard 26 rfl rfl ?_
          refine o_pure (p_fieldAddr (B := B1) (j := 0) (j' := 2) rfl fo59_2 rfl) rfl rfl rfl ?_
          refine o_unguard 26 rfl rfl ?_
          refine o_pure (p_load (i := 1) (v := .slice ac_0 c.frames.length cc_0) rfl rfl sh57 rfl) rfl rfl rfl ?_
          refine o_unguard 26 rfl rfl ?_
          refine o_pure (p_len_slice (len := c.frames.length) rfl rfl Try.underlying57) rfl rfl rfl ?_
          refine o_unguard 26 rfl rfl ?_
          refine o_pure (p_subb (p := (c.frames.length : Int)) (q := 1) rfl rfl (by omega)) rfl rfl rfl ?_
          refine o_unguard 26 rfl rfl ?_
          refine o_pure (p_max (p := 0) (q := ((c.frames.length : Int) - 1)) rfl rfl) rfl rfl rfl ?_
          refine o_unguard 26 rfl rfl ?_
          refine o_pure (p_gt (p := c.hand) (q := (max 0 ((c.frames.length : Int) - 1))) rfl rfl) rfl rfl rfl ?_
          refine o_pure (p_pick_false (v := .bool (decide ((max 0 ((c.frames.length : Int) - 1)) < c.hand))) rfl rfl) rfl rfl rfl ?_
          exact o_sub (Sub.cons rfl (Sub.skip rfl (Sub.skip rfl (Sub.skip rfl (Sub.skip rfl (Sub.skip rfl (Sub.skip rfl (Sub.skip rfl (Sub.skip rfl (Sub.skip rfl (Sub.skip rfl (Sub.refl _)))))))))))) hk
        · intro hb10 hk
          refine o_guard_no rfl 26 rfl rfl rfl rfl rfl ?_
          refine o_guard_no rfl 26 rfl rfl rfl rfl rfl ?_
          refine o_guard_no rfl 26 rfl rfl rfl rfl rfl ?_
          refine o_guard_no rfl 26 rfl rfl rfl rfl rfl ?_
          refine o_guard_no rfl 26 rfl rfl rfl rfl rfl ?_
          refine o_guard_no rfl 26 rfl rfl rfl rfl rfl ?_
          refine o_guard_no rfl 26 rfl rfl rfl rfl rfl ?_
          refine o_guard_no rfl 26 rfl rfl rfl rfl rfl ?_
          refine o_pure (p_pick_true (u := .bool true) rfl rfl) rfl rfl rfl ?_
          exact o_sub (Sub.cons rfl (Sub.skip rfl (Sub.skip rfl (Sub.skip rfl (Sub.skip rfl (Sub.skip rfl (Sub.skip rfl (Sub.skip rfl (Sub.skip rfl (Sub.skip rfl (Sub.skip rfl (Sub.refl _)))))))))))) hk
        refine o_nil ?_
        refine q_then ?_
        refine c_cond (b := (decide (c.hand < 0) || decide ((max 0 ((c.frames.length : Int) - 1)) < c.hand))) rfl (fun hc11 => ?_) (fun hc11 => ?_)
        · simp only [Bool.or_eq_true, decide_eq_true_eq] at hc11
          refine c_seq ?_
          refine c_region ?_
          refine o_pure (p_assign (v := .int .i64 4) rfl) rfl rfl rfl ?_
          refine o_nil ?_
          refine q_then ?_
          refine c_ret ?_
          refine q_then_ret ?_
          have hr0 : (4 : Int) = (Clock.check c) := by
            simp only [Clock.check]; grind
          refine q_end0 (v := .int .i64 4) (rt1 rfl (r_tmp rfl)) (i := 2) rfl ?_
          exact (by have hcc := congrArg (fun (y0 : Int) => (.int .i64 y0 : Value)) hr0; exact hcc)
        · simp only [Bool.or_eq_false_iff, decide_eq_false_iff_not, Int.not_lt] at hc11
          refine c_skip ?_
          refine q_then ?_
          refine c_seq ?_
          refine c_region ?_
          refine o_pure (p_assign (v := .int .i64 0) rfl) rfl rfl rfl ?_
          refine o_nil ?_
          refine q_then ?_
          refine c_ret ?_
          have hr0 : (0 : Int) = (Clock.check c) := by
            simp only [Clock.check]; grind
          refine q_end0 (v := .int .i64 0) (rt1 rfl (r_tmp rfl)) (i := 2) rfl ?_
          exact (by have hcc := congrArg (fun (y0 : Int) => (.int .i64 y0 : Value)) hr0; exact hcc)

set_option maxHeartbeats 8000000 in
set_option maxRecDepth 100000 in
theorem owned_ok (c : DClock) (ac_0 : Option Addr) (cc_0 : Nat) (hy1 : c.frames.length ≤ 1000000) : FnX Try.prog 80 [.agg #[.int .i64 c.room, .int .i64 c.hand, .slice ac_0 c.frames.length cc_0]] [] (fun w => SlR tFrame (outer w []).S w ac_0 cc_0 c.frames) (Nat × Option Addr × Nat × (Nat → Prop)) (fun p => .pointer (some ⟨p.1, 0, none⟩)) (fun p => [box p.1 [.int .i64 c.room, .int .i64 c.hand, .slice p.2.1 c.frames.length p.2.2.1] 122, own tFrame p.2.2.2 p.2.1 p.2.2.1 c.frames]) := by
  refine fnX (nt := 10) (F0 := [(0, .agg #[.int .i64 c.room, .int .i64 c.hand, .slice ac_0 c.frames.length cc_0])]) Try.func80 rfl Try.ntmps80 rfl rfl (fun w0 hpre => ?_)
  have hc_0 := hpre
  have hlhc_0 := hc_0.2.1
  refine c_seq ?_
  refine c_region ?_
  refine o_box (v := .agg #[.int .i64 c.room, .int .i64 c.hand, .slice ac_0 c.frames.length cc_0]) rfl rfl (fun B1 => ?_)
  refine o_pure (p_assign (v := .pointer none) rfl) rfl rfl rfl ?_
  refine o_nil ?_
  refine q_then ?_
  refine c_seq ?_
  refine c_region ?_
  refine o_pure (p_fieldAddr (B := B1) (j := 0) (j' := 2) rfl fo59_2 rfl) rfl rfl rfl ?_
  refine o_pure (p_load (i := 0) (v := .slice ac_0 c.frames.length cc_0) rfl rfl sh57 rfl) rfl rfl rfl ?_
  refine o_callM rfl (clone_Frame_ok c.frames ac_0 cc_0 (by first | assumption | omega | (simp only [List.length_append, List.length_take, List.length_drop]; omega))) hf105 (fun w hw => (rd_outer (i := 1) rfl hc_0) w hw) rfl (fun _ _ _ _ ha hA => SlO.agree ha hA) ?_
  rintro ⟨a4, c5⟩ S2
  refine o_know (fun w hw => own_len (i := 0) (T := tFrame) hw rfl) (fun hlr6 => ?_)
  refine o_pure (p_fieldAddr (B := B1) (j := 0) (j' := 2) rfl fo59_2 rfl) rfl rfl rfl ?_
  refine o_store (i := 1) (v := .slice a4 c.frames.length c5) (cs' := [.int .i64 c.room, .int .i64 c.hand, .slice a4 c.frames.length c5]) rfl rfl rfl sz57 rfl rfl rfl ?_
  refine o_nil ?_
  refine q_then ?_
  refine c_seq ?_
  refine c_region ?_
  refine o_pure (p_load_agg (i := 1) (vs := [.int .i64 c.room, .int .i64 c.hand, .slice a4 c.frames.length c5]) rfl rfl sh59 rfl rfl) rfl rfl rfl ?_
  refine o_pure (p_build (cells := [.int .i64 c.room, .int .i64 c.hand, .slice a4 c.frames.length c5]) fp122 ze122 rfl rfl) rfl rfl rfl ?_
  refine o_box (v := .agg #[.int .i64 c.room, .int .i64 c.hand, .slice a4 c.frames.length c5]) rfl rfl (fun B7 => ?_)
  refine o_pure (p_assign (v := .pointer (some ⟨B7, 0, none⟩)) rfl) rfl rfl rfl ?_
  refine o_nil ?_
  refine q_then ?_
  refine c_ret ?_
  refine q_endX (p := (B7, a4, c5, S2)) (rt1 rfl (r_tmp rfl)) ?_ (fun w hw => ?_)
  · exact rfl
  · have h2 := hw.pick (H' := [outer w0 [], box B7 [.int .i64 c.room, .int .i64 c.hand, .slice a4 c.frames.length c5] 122, own tFrame S2 a4 c5 c.frames]) [3, 0, 1] (by decide) rfl
    exact Eq.mp (congrArg (fun z => HeapIs w0 ((outer w0 []) :: z) w) (rfl)) h2
end Go.Proofs.Ythbfdhphnofacab
