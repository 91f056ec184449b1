
import Derived.Test.YtgkihbbeimhmbaaGreatDoorCpLaw6
import Derived.Test.YtgkihbbeimhmbaaGreatDoorOpLaw4M17
import Derived.Test.YtgkihbbeimhmbaaGreatDoorTxF
import Derived.Test.YtgkihbbeimhmbaaGreatDoorTxW5M2
import Derived.Test.YtgkihbbeimhmbaaGreatDoorTxKM4
namespace Go.Proofs.Tx
open Go.Sx
theorem cl {s : ByteArray} (h : (Trc.parse s).2 = 0) : Trc.parse (Trc.compact s) = ((Trc.parse s).1, 0) := (Trc.compact_law h).1
theorem cl1 {s : ByteArray} (h : (Trc.parse s).2 = 0) : (Trc.parse (Trc.compact s)).1 = (Trc.parse s).1 := by rw [cl h]
theorem key_le {m : List Int} (h : Lru.trace m = 0) (i : Nat) (hi : i < m.length) : 0 ≤ m.getD i default ∧ m.getD i default ≤ 1048576 := by
  have h1 := (Trc.trace_ok.1 h).2
  exact Trc.key_bd h1 i
/-- the keys' other names, up to a place -/
structure OI (m out : List Int) (i : Nat) : Prop where
  le : i ≤ m.length
  eq : out = (m.take i).map (fun k => min k 1048575 + 1)
theorem OI.start (m : List Int) : OI m [] 0 := ⟨Nat.zero_le _, by simp⟩
theorem OI.len {m out : List Int} {i : Nat} (h : OI m out i) : out.length = i := by rw [h.eq, List.length_map, List.length_take]; have := h.le; omega
theorem OI.next {m out : List Int} {i : Nat} (h : OI m out i) (hi : i < m.length) : OI m (out ++ [min (m.getD i default) 1048575 + 1]) (i + 1) := by
  refine ⟨hi, ?_⟩
  rw [h.eq, List.take_add_one, List.map_append]
  congr 1
  rw [List.getElem?_eq_getElem hi, List.getD_eq_getElem?_getD, List.getElem?_eq_getElem hi]; rfl
/-- no key is the greatest, up to a place -/
structure NI (m : List Int) (i : Nat) : Prop where
  le : i ≤ m.length
  no : ∀ j, j < i → m.getD j default ≠ 1048576
theorem NI.start (m : List Int) : NI m 0 := ⟨Nat.zero_le _, fun j h => absurd h (by omega)⟩
theorem NI.next {m : List Int} {i : Nat} (h : NI m i) (hi : i < m.length) (hn : m.getD i default ≠ 1048576) : NI m (i + 1) :=
  ⟨hi, fun j hj => if e : j = i then e ▸ hn else h.no j (by omega)⟩
theorem fin {m out : List Int} {i j : Nat} (ht : Lru.trace m = 0) (h : OI m out i) (hi : m.length ≤ i) (hn : NI m j) (hj : m.length ≤ j) : out = m.map Cmp.sh ∧ ∀ k ∈ m, k ≠ 1048576 := by
  have hno : ∀ k ∈ m, k ≠ 1048576 := fun k hk => by
    obtain ⟨n, hl, e⟩ := List.mem_iff_getElem.1 hk
    have := hn.no n (by omega)
    rwa [List.getD_eq_getElem?_getD, List.getElem?_eq_getElem hl, Option.getD_some, e] at this
  refine ⟨?_, hno⟩
  rw [h.eq, List.take_of_length_le hi]
  refine List.map_congr_left fun k hk => ?_
  have h1 := (Trc.trace_ok.1 ht).2 k hk
  have h2 := hno k hk
  have h3 : 0 ≤ k ∧ k ≤ 1048576 := by simpa [Lru.okKey] using h1
  unfold Cmp.sh
  omega
theorem last {m out : List Int} {room : Int} {i j : Nat} (hc : Cmp.check m room = 0) (h : OI m out i) (hi : m.length ≤ i) (hn : NI m j) (hj : m.length ≤ j) :
    Cmp.hits out room = Cmp.hits m room ∧ Cmp.check out room = 0 := by
  have ht := (Cmp.chk_ok.1 hc).1
  obtain ⟨e, hno⟩ := fin ht h hi hn hj
  rw [e]
  exact ⟨(Cmp.hits_sh ht hno room).1, (Cmp.hits_sh ht hno room).2.trans hc⟩
end Go.Proofs.Tx

/- The walks, printed by a program from the translation and a specification. -/
namespace Go.Proofs.YtgkihbbeimhmbaaGreatDoor
open Go.Sx Go.RowKit
set_option maxHeartbeats 8000000 in
set_option maxRecDepth 100000 in
theorem topCompare_ok (room : Int) (salt : Int) (s : ByteArray) : Fn0 Tryz.prog 3 [Vi room, Vi salt, .string s] (fun w => MaxW w ∧ TabW w) (.bool true) := by
 refine fn0 (nt := 113) (F0 := [(0, Vi room), (1, Vi salt), (2, .string s)]) Tryz.func3 rfl Tryz.ntmps3 rfl rfl (fun w0 hpre => ?_)
 obtain ⟨hMaxW, hTabW⟩ := hpre
 refine c_seq (c_region ?_)
 refine o_as rfl rfl ?_
 refine o_nil (q_then (c_seq (c_seq (c_region ?_))))
 refine o_call0 (v := .bool true) rfl (tbegun_ok ) hf4 (fun _ _ => trivial) rfl ?_
 refine o_p (p_not (b := true) rfl) ?_
 refine o_nil (q_then ?_)
 refine c_false rfl ?_
 refine c_skip (q_then (c_seq (c_region ?_)))
 refine o_mv rfl rfl ?_
 refine o_call0 (v := .tuple #[.string (Trc.compact s), Vi ((Trc.parse s).2)]) rfl (tcompact_ok s) hf5 (fun w hw => ⟨pre_base (i := 0) rfl MaxW_st hMaxW w hw, pre_base (i := 0) rfl TabW_st hTabW w hw⟩) rfl ?_
 refine o_mv rfl rfl ?_
 refine o_ex rfl rfl rfl ?_
 refine o_ex rfl rfl rfl ?_
 refine o_as rfl rfl ?_
 refine o_as rfl rfl ?_
 refine o_nil (q_then (c_seq (c_region ?_)))
 refine o_mv rfl rfl ?_
 refine o_callM rfl (tparse_ok s) hf6 (fun w hw => pre_base (i := 0) rfl MaxW_st hMaxW w hw) rfl (fun _ _ _ _ ha hA => SlO.agree ha hA) ?_
 rintro ⟨a3, c4⟩ S1
 refine o_know (fun w hw => own_len (i := 0) (T := tInt) hw rfl) (fun hlr5 => ?_)
 refine o_mv rfl rfl ?_
 refine o_ex rfl rfl rfl ?_
 refine o_ex rfl rfl rfl ?_
 refine o_as rfl rfl ?_
 refine o_as rfl rfl ?_
 refine o_nil (q_then (c_seq (c_region ?_)))
 refine o_mv rfl rfl ?_
 refine o_callM rfl (tparse_ok (Trc.compact s)) hf6 (fun w hw => pre_base (i := 1) rfl MaxW_st hMaxW w hw) rfl (fun _ _ _ _ ha hA => SlO.agree ha hA) ?_
 rintro ⟨a8, c9⟩ S6
 refine o_know (fun w hw => own_len (i := 0) (T := tInt) hw rfl) (fun hlr10 => ?_)
 refine o_mv rfl rfl ?_
 refine o_ex rfl rfl rfl ?_
 refine o_ex rfl rfl rfl ?_
 refine o_as rfl rfl ?_
 refine o_as rfl rfl ?_
 refine o_nil (q_then (c_seq (c_seq (c_region ?_))))
 refine o_mv rfl rfl ?_
 refine o_p (p_ne rfl rfl) ?_
 refine o_mv rfl rfl ?_
 refine o_or (p := 44) 3 (((Trc.parse s).2) != 0) ?_ ?_ ?_
 ·intro hb11 hk
  simp only [bne_eq_false_iff_eq] at hb11
  refine o_unguard 41 rfl rfl ?_
  refine o_mv rfl rfl ?_
  refine o_unguard 41 rfl rfl ?_
  refine o_p (p_ne rfl rfl) ?_
  refine o_pf rfl rfl rfl ?_
  exact o_sub (sr (Sub.skip rfl (Sub.skip rfl (Sub.skip rfl (Sub.skip rfl (Sub.refl _)))))) hk
 ·intro hb11 hk
  refine o_guard_no rfl 41 rfl rfl rfl rfl rfl ?_
  refine o_guard_no rfl 41 rfl rfl rfl rfl rfl ?_
  refine o_pt rfl rfl rfl ?_
  exact o_sub (sr (Sub.skip rfl (Sub.skip rfl (Sub.skip rfl (Sub.skip rfl (Sub.refl _)))))) hk
 refine o_mv rfl rfl ?_
 refine o_or (p := 48) 3 (((Trc.parse (Trc.compact s)).2) != 0) ?_ ?_ ?_
 ·intro hb12 hk
  simp only [Bool.or_eq_false_iff, bne_eq_false_iff_eq] at hb12
  refine o_unguard 45 rfl rfl ?_
  refine o_mv rfl rfl ?_
  refine o_unguard 45 rfl rfl ?_
  refine o_p (p_ne rfl rfl) ?_
  refine o_pf rfl rfl rfl ?_
  exact o_sub (sr (Sub.skip rfl (Sub.skip rfl (Sub.skip rfl (Sub.skip rfl (Sub.refl _)))))) hk
 ·intro hb12 hk
  refine o_guard_no rfl 45 rfl rfl rfl rfl rfl ?_
  refine o_guard_no rfl 45 rfl rfl rfl rfl rfl ?_
  refine o_pt rfl rfl rfl ?_
  exact o_sub (sr (Sub.skip rfl (Sub.skip rfl (Sub.skip rfl (Sub.skip rfl (Sub.refl _)))))) hk
 refine o_nil (q_then ?_)
 refine c_cond rfl (fun hc13 => ?_) (fun hc13 => ?_)
 ·simp only [Bool.or_eq_true, bne_iff_ne, ne_eq] at hc13
  refine c_seq (c_region ?_)
  refine o_as rfl rfl ?_
  refine o_nil (q_then (c_ret ?_))
  refine q_then_ret ?_
  refine q_end0 (v := .bool true) (rt1 rfl (r_tmp rfl)) (i := 2) rfl ?_
  exact rfl
 ·simp only [Bool.or_eq_false_iff, bne_eq_false_iff_eq] at hc13
  have hps := hc13
  have hml := Tx.cl1 (s := s) (by omega)
  have hpl := Trc.parse_len (s := Trc.compact s)
  refine c_skip (q_then (c_seq (c_region ?_)))
  refine o_as rfl rfl ?_
  refine o_nil (q_then (c_seq (c_seq (c_region ?_))))
  refine o_as rfl rfl ?_
  refine o_nil (q_then (c_block ?_))
  refine c_ownNil tInt ?_
  refine c_loop (St := List Int × Option Addr × Nat × (Nat → Prop) × Nat)
   (fun ⟨other, aother, cother, Sother, i⟩ => [(0, Vi room), (9, .slice a3 ((Trc.parse s).1).length c4), (11, .slice a8 ((Trc.parse (Trc.compact s)).1).length c9), (13, .slice aother other.length cother), (14, Vi (i : Int))])
   (fun ⟨other, aother, cother, Sother, i⟩ => [own tInt Sother aother cother other, own tInt S6 a8 c9 ((Trc.parse (Trc.compact s)).1), own tInt S1 a3 c4 ((Trc.parse s).1), base w0])
   (fun ⟨other, aother, cother, Sother, i⟩ => Tx.OI (Trc.parse (Trc.compact s)).1 other i)
   (fun ⟨other, aother, cother, Sother, i⟩ => (Trc.parse (Trc.compact s)).1.length - i)
   ([], none, 0, (fun _ => False), 0) ?_ (sr (sr (sr (sr (sr (Sub.nil _)))))) (fun _ hw => hw) ?_
  ·exact Tx.OI.start _
  rintro ⟨other, aother, cother, Sother, i⟩ hI K hK15
  have hle := hI.le
  have hlo := hI.len
  show SC _ _ Tryz.prog 113 w0 _ _ [(0, Vi room), (9, .slice a3 ((Trc.parse s).1).length c4), (11, .slice a8 ((Trc.parse (Trc.compact s)).1).length c9), (13, .slice aother other.length cother), (14, Vi (i : Int))] [own tInt Sother aother cother other, own tInt S6 a8 c9 ((Trc.parse (Trc.compact s)).1), own tInt S1 a3 c4 ((Trc.parse s).1), base w0]
  refine c_seq (c_seq (c_region ?_))
  refine o_mv rfl rfl ?_
  refine o_mv rfl rfl ?_
  refine o_p (p_len_slice rfl rfl Tryz.underlying26) ?_
  refine o_p (p_lt rfl rfl) ?_
  refine o_nil (q_then ?_)
  refine c_cond rfl (fun hc16 => ?_) (fun hc16 => ?_)
  ·simp only [decide_eq_true_eq] at hc16
   have hkm := Tx.key_le (m := (Trc.parse (Trc.compact s)).1) (Trc.parse_ok (by omega)) i (by omega)
   refine c_skip (q_then (c_seq (c_block (c_region ?_))))
   refine o_mv rfl rfl ?_
   refine o_mv rfl rfl ?_
   refine o_mv rfl rfl ?_
   refine o_p (p_indexAddr (L := ((Trc.parse (Trc.compact s)).1)) (T := tInt) (i := (i : Int)) rfl rfl (rd_own (i := 1) rfl) Tryz.underlying26 sz3 (by omega) (by omega)) ?_
   refine o_p (p_loadE1 (i := i) (T := tInt) (L := ((Trc.parse (Trc.compact s)).1)) (v := Vi (((Trc.parse (Trc.compact s)).1).getD i default)) rfl (rd_own (i := 1) rfl) (by first | assumption | omega) sh3 (congrArg tInt.enc (getd_at (by first | assumption | omega) default))) ?_
   refine o_p (p_min (p := (((Trc.parse (Trc.compact s)).1).getD i default)) (q := 1048575) rfl rfl) ?_
   refine o_p (p_addb rfl rfl (by omega)) ?_
   refine o_buildSlice (m := 1) (T := tInt) (L := [((min (((Trc.parse (Trc.compact s)).1).getD i default) 1048575) + 1)]) (vs := [Vi ((min (((Trc.parse (Trc.compact s)).1).getD i default) 1048575) + 1)]) rfl rfl rfl rfl Tryz.underlying26 sz3 (by decide) ze3 rfl (by decide) rfl (fun S17 a18 => ?_)
   refine o_append (i := 1) (L := other) (M := [((min (((Trc.parse (Trc.compact s)).1).getD i default) 1048575) + 1)]) (T := tInt) rfl rfl rfl (rd_own (i := 0) rfl) Tryz.underlying26 Tryz.underlying26 (by intro k h; cases h) el3 (by intro z; simp [tInt, one1]) (by decide) (by first | omega | (simp only [List.length_cons, List.length_nil]; omega) | (simp only [List.length_append, List.length_cons, List.length_nil, List.length_take, List.length_drop]; omega)) rfl (fun a20 c21 S22 => ?_)
   refine o_as rfl rfl ?_
   refine o_nil ?_
   refine q_block_normal (q_then ?_)
   refine c_region ?_
   refine o_mv rfl rfl ?_
   refine o_p (p_addb rfl rfl (by omega)) ?_
   refine o_as rfl rfl ?_
   refine o_nil ?_
   refine q_round hK15 ((other ++ [((min (((Trc.parse (Trc.compact s)).1).getD i default) 1048575) + 1)]), a20, c21, S22, i + 1) ?_ ?_ ?_ ?_
   ·clear hK15
    exact hI.next (by omega)
   ·(try dsimp only); omega
   ·exact sr (sr (sr (sr (sr (Sub.nil _)))))
   ·exact pk [1, 2, 3, 4]
  ·simp only [decide_eq_false_iff_not, Int.not_lt] at hc16
   have hi9 := hc16
   refine c_exit ?_
   refine q_then_exit (q_then_exit (q_block_exit (q_then ?_)))
   refine c_seq (c_region ?_)
   refine o_mv rfl rfl ?_
   refine o_mv rfl rfl ?_
   refine o_callM rfl (cphits_ok ((Trc.parse s).1) a3 c4 room) hf7 (fun w hw => (rd_own (i := 2) rfl) w hw) rfl (fun _ _ _ _ ha hA => SlO.agree ha hA) ?_
   rintro ⟨a25, c26⟩ S23
   refine o_know (fun w hw => own_len (i := 0) (T := tInt) hw rfl) (fun hlr27 => ?_)
   refine o_mv rfl rfl ?_
   refine o_ex rfl rfl rfl ?_
   refine o_ex rfl rfl rfl ?_
   refine o_as rfl rfl ?_
   refine o_as rfl rfl ?_
   refine o_nil (q_then (c_seq (c_region ?_)))
   refine o_mv rfl rfl ?_
   refine o_mv rfl rfl ?_
   refine o_callM rfl (cphits_ok ((Trc.parse (Trc.compact s)).1) a8 c9 room) hf7 (fun w hw => (rd_own (i := 2) rfl) w hw) rfl (fun _ _ _ _ ha hA => SlO.agree ha hA) ?_
   rintro ⟨a30, c31⟩ S28
   refine o_know (fun w hw => own_len (i := 0) (T := tInt) hw rfl) (fun hlr32 => ?_)
   refine o_mv rfl rfl ?_
   refine o_ex rfl rfl rfl ?_
   refine o_ex rfl rfl rfl ?_
   refine o_as rfl rfl ?_
   refine o_as rfl rfl ?_
   refine o_nil (q_then (c_seq (c_seq (c_region ?_))))
   refine o_mv rfl rfl ?_
   refine o_p (p_ne rfl rfl) ?_
   refine o_nil (q_then ?_)
   refine c_cond rfl (fun hc33 => ?_) (fun hc33 => ?_)
   ·simp only [bne_iff_ne, ne_eq] at hc33
    have hbad := hc33
    refine c_seq (c_region ?_)
    refine o_mv rfl rfl ?_
    refine o_mv rfl rfl ?_
    refine o_p (p_eq rfl rfl) ?_
    refine o_as rfl rfl ?_
    refine o_nil (q_then (c_ret ?_))
    refine q_then_ret ?_
    have hr0 : (((Cmp.check ((Trc.parse (Trc.compact s)).1) room) == (Cmp.check ((Trc.parse s).1) room)) : Bool) = true := by
     first | rfl | (rw [hml]; simp; done) | (rw [hla.1, hla.2, hml, hck]; simp [Ref.sameInts]; done)
    refine q_end0 (v := .bool ((Cmp.check ((Trc.parse (Trc.compact s)).1) room) == (Cmp.check ((Trc.parse s).1) room))) (rt1 rfl (r_tmp rfl)) (i := 5) rfl ?_
    exact (by have hcc := congrArg (fun (y0 : Bool) => (.bool y0 : Value)) hr0; exact hcc)
   ·simp only [bne_eq_false_iff_eq] at hc33
    have hck := hc33
    refine c_skip (q_then (c_seq (c_seq (c_region ?_))))
    refine o_mv rfl rfl ?_
    refine o_mv rfl rfl ?_
    refine o_call0 (v := .bool (Ref.sameInts (Cmp.hits ((Trc.parse s).1) room) (Cmp.hits ((Trc.parse (Trc.compact s)).1) room))) rfl (tsame_ok (Cmp.hits ((Trc.parse s).1) room) a25 c26 (Cmp.hits ((Trc.parse (Trc.compact s)).1) room) a30 c31) hf8 (fun w hw => ⟨(rd_own (i := 1) rfl) w hw, (rd_own (i := 0) rfl) w hw⟩) rfl ?_
    refine o_p (p_not (b := (Ref.sameInts (Cmp.hits ((Trc.parse s).1) room) (Cmp.hits ((Trc.parse (Trc.compact s)).1) room))) rfl) ?_
    refine o_nil (q_then ?_)
    refine c_cond rfl (fun hc34 => ?_) (fun hc34 => ?_)
    ·simp only [Bool.not_eq_true'] at hc34
     exfalso; rw [hml] at hc34; exact absurd (Trc.same_self _) (by simpa using hc34)
    ·simp only [Bool.not_eq_false'] at hc34
     refine c_skip (q_then (c_seq (c_seq (c_region ?_))))
     refine o_as rfl rfl ?_
     refine o_nil (q_then (c_block ?_))
     refine c_loop (St := Nat)
      (fun i2 => [(0, Vi room), (11, .slice a8 ((Trc.parse (Trc.compact s)).1).length c9), (13, .slice aother other.length cother), (15, .slice a25 (Cmp.hits ((Trc.parse s).1) room).length c26), (18, Vi (Cmp.check ((Trc.parse (Trc.compact s)).1) room)), (19, Vi (i2 : Int))])
      (fun i2 => [own tInt S28 a30 c31 (Cmp.hits ((Trc.parse (Trc.compact s)).1) room), own tInt S23 a25 c26 (Cmp.hits ((Trc.parse s).1) room), own tInt Sother aother cother other, own tInt S6 a8 c9 ((Trc.parse (Trc.compact s)).1), own tInt S1 a3 c4 ((Trc.parse s).1), base w0])
      (fun i2 => Tx.NI (Trc.parse (Trc.compact s)).1 i2)
      (fun i2 => (Trc.parse (Trc.compact s)).1.length - i2)
      0 ?_ (sr (sr (sr (sr (sr (sr (Sub.nil _))))))) (fun _ hw => hw) ?_
     ·exact Tx.NI.start _
     rintro i2 hN K hK35
     have hn0 := hN.le
     show SC _ _ Tryz.prog 113 w0 _ _ [(0, Vi room), (11, .slice a8 ((Trc.parse (Trc.compact s)).1).length c9), (13, .slice aother other.length cother), (15, .slice a25 (Cmp.hits ((Trc.parse s).1) room).length c26), (18, Vi (Cmp.check ((Trc.parse (Trc.compact s)).1) room)), (19, Vi (i2 : Int))] [own tInt S28 a30 c31 (Cmp.hits ((Trc.parse (Trc.compact s)).1) room), own tInt S23 a25 c26 (Cmp.hits ((Trc.parse s).1) room), own tInt Sother aother cother other, own tInt S6 a8 c9 ((Trc.parse (Trc.compact s)).1), own tInt S1 a3 c4 ((Trc.parse s).1), base w0]
     refine c_seq (c_seq (c_region ?_))
     refine o_mv rfl rfl ?_
     refine o_mv rfl rfl ?_
     refine o_p (p_len_slice rfl rfl Tryz.underlying26) ?_
     refine o_p (p_lt rfl rfl) ?_
     refine o_nil (q_then ?_)
     refine c_cond rfl (fun hc36 => ?_) (fun hc36 => ?_)
     ·simp only [decide_eq_true_eq] at hc36
      refine c_skip (q_then (c_seq (c_block (c_seq (c_region ?_)))))
      refine o_mv rfl rfl ?_
      refine o_mv rfl rfl ?_
      refine o_p (p_indexAddr (L := ((Trc.parse (Trc.compact s)).1)) (T := tInt) (i := (i2 : Int)) rfl rfl (rd_own (i := 3) rfl) Tryz.underlying26 sz3 (by omega) (by omega)) ?_
      refine o_p (p_loadE1 (i := i2) (T := tInt) (L := ((Trc.parse (Trc.compact s)).1)) (v := Vi (((Trc.parse (Trc.compact s)).1).getD i2 default)) rfl (rd_own (i := 3) rfl) (by first | assumption | omega) sh3 (congrArg tInt.enc (getd_at (by first | assumption | omega) default))) ?_
      refine o_p (p_eq rfl rfl) ?_
      refine o_nil (q_then ?_)
      refine c_cond rfl (fun hc37 => ?_) (fun hc37 => ?_)
      ·simp only [beq_iff_eq] at hc37
       refine c_seq (c_region ?_)
       refine o_as rfl rfl ?_
       refine o_nil (q_then (c_ret ?_))
       refine q_block_ret (q_then_ret (q_then_ret (q_block_ret (q_then_ret ?_))))
       refine q_end0 (v := .bool true) (rt1 rfl (r_tmp rfl)) (i := 5) rfl ?_
       exact rfl
      ·simp only [beq_eq_false_iff_ne, ne_eq] at hc37
       refine c_skip ?_
       refine q_block_normal (q_then ?_)
       refine c_region ?_
       refine o_mv rfl rfl ?_
       refine o_p (p_addb rfl rfl (by omega)) ?_
       refine o_as rfl rfl ?_
       refine o_nil ?_
       refine q_round hK35 (i2 + 1) ?_ ?_ ?_ ?_
       ·clear hK35
        exact hN.next (by omega) (by assumption)
       ·(try dsimp only); omega
       ·exact sr (sr (sr (sr (sr (sr (Sub.nil _))))))
       ·exact pk [0, 1, 2, 3, 4, 5]
     ·simp only [decide_eq_false_iff_not, Int.not_lt] at hc36
      have hla := Tx.last (by rw [hml]; exact hck) hI (by omega) hN (by omega)
      refine c_exit ?_
      refine q_then_exit (q_then_exit (q_block_exit (q_then ?_)))
      refine c_seq (c_region ?_)
      refine o_mv rfl rfl ?_
      refine o_mv rfl rfl ?_
      refine o_callM rfl (cphits_ok other aother cother room) hf7 (fun w hw => (rd_own (i := 2) rfl) w hw) rfl (fun _ _ _ _ ha hA => SlO.agree ha hA) ?_
      rintro ⟨a40, c41⟩ S38
      refine o_know (fun w hw => own_len (i := 0) (T := tInt) hw rfl) (fun hlr42 => ?_)
      refine o_mv rfl rfl ?_
      refine o_ex rfl rfl rfl ?_
      refine o_ex rfl rfl rfl ?_
      refine o_as rfl rfl ?_
      refine o_as rfl rfl ?_
      refine o_nil (q_then (c_seq (c_region ?_)))
      refine o_mv rfl rfl ?_
      refine o_p (p_eq rfl rfl) ?_
      refine o_mv rfl rfl ?_
      refine o_and (p := 107) 3 ((Cmp.check other room) == 0) ?_ ?_ ?_
      ·intro hb43 hk
       simp only [beq_iff_eq] at hb43
       refine o_unguard 104 rfl rfl ?_
       refine o_mv rfl rfl ?_
       refine o_unguard 104 rfl rfl ?_
       refine o_p (p_eq rfl rfl) ?_
       refine o_pt rfl rfl rfl ?_
       exact o_sub (sr (Sub.skip rfl (Sub.skip rfl (Sub.skip rfl (Sub.skip rfl (Sub.refl _)))))) hk
      ·intro hb43 hk
       refine o_guard_no rfl 104 rfl rfl rfl rfl rfl ?_
       refine o_guard_no rfl 104 rfl rfl rfl rfl rfl ?_
       refine o_pf rfl rfl rfl ?_
       exact o_sub (sr (Sub.skip rfl (Sub.skip rfl (Sub.skip rfl (Sub.skip rfl (Sub.refl _)))))) hk
      refine o_mv rfl rfl ?_
      refine o_and (p := 112) 4 (Ref.sameInts (Cmp.hits ((Trc.parse s).1) room) (Cmp.hits other room)) ?_ ?_ ?_
      ·intro hb44 hk
       simp only [Bool.and_eq_true, beq_iff_eq] at hb44
       refine o_unguard 108 rfl rfl ?_
       refine o_mv rfl rfl ?_
       refine o_unguard 108 rfl rfl ?_
       refine o_mv rfl rfl ?_
       refine o_unguard 108 rfl rfl ?_
       refine o_call0 (v := .bool (Ref.sameInts (Cmp.hits ((Trc.parse s).1) room) (Cmp.hits other room))) rfl (tsame_ok (Cmp.hits ((Trc.parse s).1) room) a25 c26 (Cmp.hits other room) a40 c41) hf8 (fun w hw => ⟨(rd_own (i := 2) rfl) w hw, (rd_own (i := 0) rfl) w hw⟩) rfl ?_
       refine o_pt rfl rfl rfl ?_
       exact o_sub (sr (Sub.skip rfl (Sub.skip rfl (Sub.skip rfl (Sub.skip rfl (Sub.skip rfl (Sub.refl _))))))) hk
      ·intro hb44 hk
       refine o_guard_no rfl 108 rfl rfl rfl rfl rfl ?_
       refine o_guard_no rfl 108 rfl rfl rfl rfl rfl ?_
       refine o_guard_no rfl 108 rfl rfl rfl rfl rfl ?_
       refine o_pf rfl rfl rfl ?_
       exact o_sub (sr (Sub.skip rfl (Sub.skip rfl (Sub.skip rfl (Sub.skip rfl (Sub.skip rfl (Sub.refl _))))))) hk
      refine o_as rfl rfl ?_
      refine o_nil (q_then (c_ret ?_))
      have hr0 : (((((Cmp.check ((Trc.parse (Trc.compact s)).1) room) == 0) && ((Cmp.check other room) == 0)) && (Ref.sameInts (Cmp.hits ((Trc.parse s).1) room) (Cmp.hits other room))) : Bool) = true := by
       first | rfl | (rw [hml]; simp; done) | (rw [hla.1, hla.2, hml, hck]; simp [Ref.sameInts]; done)
      refine q_end0 (v := .bool ((((Cmp.check ((Trc.parse (Trc.compact s)).1) room) == 0) && ((Cmp.check other room) == 0)) && (Ref.sameInts (Cmp.hits ((Trc.parse s).1) room) (Cmp.hits other room)))) (rt1 rfl (r_tmp rfl)) (i := 6) rfl ?_
      exact (by have hcc := congrArg (fun (y0 : Bool) => (.bool y0 : Value)) hr0; exact hcc)
end Go.Proofs.YtgkihbbeimhmbaaGreatDoor
