/- The walks, printed by a program from the translation and a specification. -/
import Derived.Test.YtagbihjkdejdjaaLfF
import Derived.Test.YtagbihjkdejdjaaLfLaw5
import Derived.Test.YtagbihjkdejdjaaLfW10
namespace Go.Proofs.Ytagbihjkdejdjaa
open Go.Sx Go.RowKit
set_option maxHeartbeats 8000000 in
set_option maxRecDepth 100000 in
theorem rftouch_ok (u : DUses) (au_0 : Option Addr) (cu_0 : Nat) (key : Int) (hy1 : Lfu.Ok u) : FnM Try.prog 20 [.agg #[.int .i64 u.room, .slice au_0 u.list.length cu_0], .int .i64 key] (fun w => Rd tUse w au_0 cu_0 u.list) (Option Addr × Nat) (fun p => .tuple #[.agg #[.int .i64 (((Lfu.touch u key).1).room), .slice p.1 (((Lfu.touch u key).1).list).length p.2], .bool ((Lfu.touch u key).2.1), .int .i64 ((Lfu.touch u key).2.2)]) (fun p S w => SlO tUse S w p.1 p.2 (((Lfu.touch u key).1).list)) := by
  refine fnM (nt := 96) (F0 := [(0, .agg #[.int .i64 u.room, .slice au_0 u.list.length cu_0]), (1, .int .i64 key)]) Try.func20 rfl Try.ntmps20 rfl rfl (fun w0 hpre => ?_)
  have hu_0 := hpre
  have hlhu_0 := hu_0.2.1
  have hroom := hy1.room
  have hlen := hy1.len
  refine c_seq ?_
  refine c_region ?_
  refine o_box (v := .agg #[.int .i64 u.room, .slice au_0 u.list.length cu_0]) rfl rfl (fun B1 => ?_)
  refine o_alloc ze24 rfl (fun B2 => ?_)
  refine o_pure (p_assign (v := .bool false) rfl) rfl rfl rfl ?_
  refine o_pure (p_assign (v := .int .i64 0) rfl) rfl rfl rfl ?_
  refine o_nil ?_
  refine q_then ?_
  refine c_seq ?_
  refine c_region ?_
  refine o_pure (p_assign (v := .int .i64 0) rfl) rfl rfl rfl ?_
  refine o_pure (p_assign (v := .int .i64 (-1)) rfl) rfl rfl rfl ?_
  refine o_pure (p_assign (v := .bool false) rfl) rfl rfl rfl ?_
  refine o_nil ?_
  refine q_then ?_
  refine c_seq ?_
  refine c_seq ?_
  refine c_region ?_
  refine o_pure (p_assign (v := .int .i64 0) rfl) rfl rfl rfl ?_
  refine o_nil ?_
  refine q_then ?_
  refine c_block ?_
  refine c_loop (St := Int × Bool × Nat)
    (fun ⟨count, hit, i⟩ => [(1, .int .i64 key), (2, .pointer (some ⟨B1, 0, none⟩)), (4, .pointer (some ⟨B2, 0, none⟩)), (7, .int .i64 count), (8, .int .i64 (-1)), (9, .bool hit), (10, .int .i64 (i : Int))])
    (fun ⟨count, hit, i⟩ => [box B2 [.int .i64 0, .slice none 0 0] 24, box B1 [.int .i64 u.room, .slice au_0 u.list.length cu_0] 24, base w0])
    (fun ⟨count, hit, i⟩ => Lfu.AInv u.list key count hit i)
    (fun ⟨count, hit, i⟩ => u.list.length - i)
    (0, false, 0) ?_ (Sub.cons rfl (Sub.cons rfl (Sub.cons rfl (Sub.cons rfl (Sub.cons rfl (Sub.cons rfl (Sub.cons rfl (Sub.nil _)))))))) (fun _ hw => hw) ?_
  · exact Lfu.AInv.start _ _
  rintro ⟨count, hit, i⟩ hI K hK3
  have hle := hI.le
  show SC _ _ Try.prog 96 w0 _ _ [(1, .int .i64 key), (2, .pointer (some ⟨B1, 0, none⟩)), (4, .pointer (some ⟨B2, 0, none⟩)), (7, .int .i64 count), (8, .int .i64 (-1)), (9, .bool hit), (10, .int .i64 (i : Int))] [box B2 [.int .i64 0, .slice none 0 0] 24, box B1 [.int .i64 u.room, .slice au_0 u.list.length cu_0] 24, base w0]
  refine c_seq ?_
  refine c_seq ?_
  refine c_region ?_
  refine o_pure (p_move (v := .int .i64 (i : Int)) rfl) rfl rfl rfl ?_
  refine o_pure (p_fieldAddr (B := B1) (j := 0) (j' := 1) rfl fo24_1 rfl) rfl rfl rfl ?_
  refine o_pure (p_load (i := 1) (v := .slice au_0 u.list.length cu_0) rfl rfl sh22 rfl) rfl rfl rfl ?_
  refine o_pure (p_len_slice (len := u.list.length) rfl rfl Try.underlying22) rfl rfl rfl ?_
  refine o_pure (p_lt (p := (i : Int)) (q := (u.list.length : Int)) rfl rfl) rfl rfl rfl ?_
  refine o_nil ?_
  refine q_then ?_
  refine c_cond (b := decide ((i : Int) < (u.list.length : Int))) rfl (fun hc4 => ?_) (fun hc4 => ?_)
  · simp only [decide_eq_true_eq] at hc4
    refine c_skip ?_
    refine q_then ?_
    refine c_seq ?_
    refine c_block ?_
    refine c_seq ?_
    refine c_region ?_
    refine o_pure (p_fieldAddr (B := B1) (j := 0) (j' := 1) rfl fo24_1 rfl) rfl rfl rfl ?_
    refine o_pure (p_load (i := 1) (v := .slice au_0 u.list.length cu_0) rfl rfl sh22 rfl) rfl rfl rfl ?_
    refine o_pure (p_move (v := .int .i64 (i : Int)) rfl) rfl rfl rfl ?_
    refine o_pure (p_indexAddr (L := u.list) (T := tUse) (i := (i : Int)) rfl rfl (rd_base (i := 2) rfl hu_0) Try.underlying22 sz42 (by omega) (by omega)) rfl rfl rfl ?_
    refine o_pure (p_fieldAddrE rfl fo42_0) rfl rfl rfl ?_
    refine o_pure (p_loadF (i := i) (j := 0) (T := tUse) (L := u.list) (v := .int .i64 ((u.list[i]).key)) rfl (rd_base (i := 2) rfl hu_0) (by first | assumption | omega) sh3 rfl) rfl rfl rfl ?_
    refine o_pure (p_move (v := .int .i64 key) rfl) rfl rfl rfl ?_
    refine o_pure (p_eq (p := (u.list[i]).key) (q := key) rfl rfl) rfl rfl rfl ?_
    refine o_nil ?_
    refine q_then ?_
    refine c_cond (b := ((u.list[i]).key == key)) rfl (fun hc5 => ?_) (fun hc5 => ?_)
    · simp only [beq_iff_eq] at hc5
      refine c_region ?_
      refine o_pure (p_fieldAddr (B := B1) (j := 0) (j' := 1) rfl fo24_1 rfl) rfl rfl rfl ?_
      refine o_pure (p_load (i := 1) (v := .slice au_0 u.list.length cu_0) rfl rfl sh22 rfl) rfl rfl rfl ?_
      refine o_pure (p_move (v := .int .i64 (i : Int)) rfl) rfl rfl rfl ?_
      refine o_pure (p_indexAddr (L := u.list) (T := tUse) (i := (i : Int)) rfl rfl (rd_base (i := 2) rfl hu_0) Try.underlying22 sz42 (by omega) (by omega)) rfl rfl rfl ?_
      refine o_pure (p_fieldAddrE rfl fo42_1) rfl rfl rfl ?_
      refine o_pure (p_loadF (i := i) (j := 1) (T := tUse) (L := u.list) (v := .int .i64 ((u.list[i]).count)) rfl (rd_base (i := 2) rfl hu_0) (by first | assumption | omega) sh3 rfl) rfl rfl rfl ?_
      refine o_pure (p_assign (v := .int .i64 ((u.list[i]).count)) rfl) rfl rfl rfl ?_
      refine o_pure (p_assign (v := .bool true) rfl) rfl rfl rfl ?_
      refine o_nil ?_
      refine q_block_normal (q_then ?_)
      refine c_region ?_
      refine o_pure (p_move (v := .int .i64 (i : Int)) rfl) rfl rfl rfl ?_
      refine o_pure (p_addb (p := (i : Int)) (q := 1) rfl rfl (by omega)) rfl rfl rfl ?_
      refine o_pure (p_assign (v := .int .i64 ((i : Int) + 1)) rfl) rfl rfl rfl ?_
      refine o_nil ?_
      refine q_round hK3 ((u.list[i]).count, true, i + 1) ?_ ?_ ?_ ?_
      · clear hK3
        first | exact hI.found (by omega) (by assumption) | exact hI.skip (by omega) (by assumption)
      · (try dsimp only); omega
      · exact Sub.cons rfl (Sub.cons rfl (Sub.cons rfl (Sub.cons rfl (Sub.cons rfl (Sub.cons rfl (Sub.cons rfl (Sub.nil _)))))))
      · exact fun _ hw => HeapIs.pick hw [0, 1, 2] (by decide) rfl
    · simp only [beq_eq_false_iff_ne, ne_eq] at hc5
      refine c_skip ?_
      refine q_block_normal (q_then ?_)
      refine c_region ?_
      refine o_pure (p_move (v := .int .i64 (i : Int)) rfl) rfl rfl rfl ?_
      refine o_pure (p_addb (p := (i : Int)) (q := 1) rfl rfl (by omega)) rfl rfl rfl ?_
      refine o_pure (p_assign (v := .int .i64 ((i : Int) + 1)) rfl) rfl rfl rfl ?_
      refine o_nil ?_
      refine q_round hK3 (count, hit, i + 1) ?_ ?_ ?_ ?_
      · clear hK3
        first | exact hI.found (by omega) (by assumption) | exact hI.skip (by omega) (by assumption)
      · (try dsimp only); omega
      · exact Sub.cons rfl (Sub.cons rfl (Sub.cons rfl (Sub.cons rfl (Sub.cons rfl (Sub.cons rfl (Sub.cons rfl (Sub.nil _)))))))
      · exact fun _ hw => HeapIs.pick hw [0, 1, 2] (by decide) rfl
  · simp only [decide_eq_false_iff_not, Int.not_lt] at hc4
    refine c_exit ?_
    refine q_then_exit (q_then_exit (q_block_exit (q_then ?_)))
    refine c_seq ?_
    refine c_seq ?_
    refine c_region ?_
    refine o_pure (p_move (v := .bool hit) rfl) rfl rfl rfl ?_
    refine o_pure (p_not (b := hit) rfl) rfl rfl rfl ?_
    refine o_pure (p_move (v := .bool (!hit)) rfl) rfl rfl rfl ?_
    refine o_and (p := 43) 7 ((u.list.length : Int) == u.room) ?_ ?_ ?_
    · intro hb6 hk
      simp only [Bool.not_eq_true'] at hb6
      refine o_unguard 36 rfl rfl ?_
      refine o_pure (p_fieldAddr (B := B1) (j := 0) (j' := 1) rfl fo24_1 rfl) rfl rfl rfl ?_
      refine o_unguard 36 rfl rfl ?_
      refine o_pure (p_load (i := 1) (v := .slice au_0 u.list.length cu_0) rfl rfl sh22 rfl) rfl rfl rfl ?_
      refine o_unguard 36 rfl rfl ?_
      refine o_pure (p_len_slice (len := u.list.length) rfl rfl Try.underlying22) rfl rfl rfl ?_
      refine o_unguard 36 rfl rfl ?_
      refine o_pure (p_fieldAddr (B := B1) (j := 0) (j' := 0) rfl fo24_0 rfl) rfl rfl rfl ?_
      refine o_unguard 36 rfl rfl ?_
      refine o_pure (p_load (i := 1) (v := .int .i64 u.room) rfl rfl sh3 rfl) rfl rfl rfl ?_
      refine o_unguard 36 rfl rfl ?_
      refine o_pure (p_eq (p := (u.list.length : Int)) (q := u.room) rfl rfl) rfl rfl rfl ?_
      refine o_pure (p_pick_true (u := .bool ((u.list.length : Int) == u.room)) rfl rfl) rfl rfl rfl ?_
      exact o_sub (Sub.cons rfl (Sub.skip rfl (Sub.skip rfl (Sub.skip rfl (Sub.skip rfl (Sub.skip rfl (Sub.skip rfl (Sub.skip rfl (Sub.skip rfl (Sub.refl _)))))))))) hk
    · intro hb6 hk
      refine o_guard_no rfl 36 rfl rfl rfl rfl rfl ?_
      refine o_guard_no rfl 36 rfl rfl rfl rfl rfl ?_
      refine o_guard_no rfl 36 rfl rfl rfl rfl rfl ?_
      refine o_guard_no rfl 36 rfl rfl rfl rfl rfl ?_
      refine o_guard_no rfl 36 rfl rfl rfl rfl rfl ?_
      refine o_guard_no rfl 36 rfl rfl rfl rfl rfl ?_
      refine o_pure (p_pick_false (v := .bool false) rfl rfl) rfl rfl rfl ?_
      exact o_sub (Sub.cons rfl (Sub.skip rfl (Sub.skip rfl (Sub.skip rfl (Sub.skip rfl (Sub.skip rfl (Sub.skip rfl (Sub.skip rfl (Sub.skip rfl (Sub.refl _)))))))))) hk
    refine o_nil ?_
    refine q_then ?_
    refine c_cond (b := ((!hit) && ((u.list.length : Int) == u.room))) rfl (fun hc7 => ?_) (fun hc7 => ?_)
    · simp only [Bool.and_eq_true, Bool.not_eq_true', beq_iff_eq] at hc7
      have hA := hI
      have hcb := Lfu.ref_bd hA (by omega) hy1
      have hgo := Lfu.ref_full hA (by omega) hy1 hc7.1 hc7.2
      refine c_region ?_
      refine o_pure (p_fieldAddr (B := B1) (j := 0) (j' := 1) rfl fo24_1 rfl) rfl rfl rfl ?_
      refine o_pure (p_load (i := 1) (v := .slice au_0 u.list.length cu_0) rfl rfl sh22 rfl) rfl rfl rfl ?_
      refine o_call0 (v := .int .i64 ((u.list.getD (Lfu.least u.list) default).key)) rfl (rfleast_ok u.list au_0 cu_0 (by omega)) hf23 (fun w hw => (rd_base (i := 2) rfl hu_0) w hw) rfl ?_
      refine o_pure (p_assign (v := .int .i64 ((u.list.getD (Lfu.least u.list) default).key)) rfl) rfl rfl rfl ?_
      refine o_nil ?_
      refine q_then ?_
      refine c_seq ?_
      refine c_seq ?_
      refine c_region ?_
      refine o_pure (p_move (v := .int .i64 count) rfl) rfl rfl rfl ?_
      refine o_pure (p_lt (p := count) (q := 1099511627776) rfl rfl) rfl rfl rfl ?_
      refine o_nil ?_
      refine q_then ?_
      refine c_cond (b := decide (count < 1099511627776)) rfl (fun hc8 => ?_) (fun hc8 => ?_)
      · simp only [decide_eq_true_eq] at hc8
        have hst := Lfu.ref_lt hA (by omega) hy1 hc8
        refine c_region ?_
        refine o_pure (p_move (v := .int .i64 count) rfl) rfl rfl rfl ?_
        refine o_pure (p_addb (p := count) (q := 1) rfl rfl (by omega)) rfl rfl rfl ?_
        refine o_pure (p_assign (v := .int .i64 (count + 1)) rfl) rfl rfl rfl ?_
        refine o_nil ?_
        refine q_then ?_
        refine c_seq ?_
        refine c_region ?_
        refine o_pure (p_fieldAddr (B := B1) (j := 0) (j' := 0) rfl fo24_0 rfl) rfl rfl rfl ?_
        refine o_pure (p_load (i := 1) (v := .int .i64 u.room) rfl rfl sh3 rfl) rfl rfl rfl ?_
        refine o_pure (p_move (v := .int .i64 key) rfl) rfl rfl rfl ?_
        refine o_pure (p_move (v := .int .i64 (count + 1)) rfl) rfl rfl rfl ?_
        refine o_pure (p_build (cells := [.int .i64 key, .int .i64 (count + 1)]) fp42 ze42 rfl rfl) rfl rfl rfl ?_
        refine o_buildSlice (m := 1) (T := tUse) (L := [(⟨key, (count + 1)⟩ : DUse)]) (vs := [.agg #[.int .i64 key, .int .i64 (count + 1)]]) rfl rfl rfl rfl Try.underlying22 sz42 (by decide) ze42 rfl (by decide) rfl (fun S9 a10 => ?_)
        refine o_pure (p_build (cells := [.int .i64 u.room, .slice a10 ([(⟨key, (count + 1)⟩ : DUse)]).length ([(⟨key, (count + 1)⟩ : DUse)].length)]) fp24 ze24 rfl rfl) rfl rfl rfl ?_
        refine o_alloc ze24 rfl (fun B12 => ?_)
        refine o_storeN (i := 0) (vs := [.int .i64 u.room, .slice a10 ([(⟨key, (count + 1)⟩ : DUse)]).length ([(⟨key, (count + 1)⟩ : DUse)].length)]) (cs' := [.int .i64 u.room, .slice a10 ([(⟨key, (count + 1)⟩ : DUse)]).length ([(⟨key, (count + 1)⟩ : DUse)].length)]) rfl rfl rfl sz24 rfl rfl rfl rfl ?_
        refine o_nil ?_
        refine q_then ?_
        refine c_seq ?_
        refine c_seq ?_
        refine c_region ?_
        refine o_pure (p_assign (v := .int .i64 0) rfl) rfl rfl rfl ?_
        refine o_nil ?_
        refine q_then ?_
        refine c_block ?_
        refine c_loop (St := Nat × DUses × Option Addr × Nat × (Nat → Prop))
          (fun ⟨i2, oc, aoc_0, coc_0, Soc_0⟩ => [(1, .int .i64 key), (2, .pointer (some ⟨B1, 0, none⟩)), (4, .pointer (some ⟨B2, 0, none⟩)), (8, .int .i64 ((u.list.getD (Lfu.least u.list) default).key)), (9, .bool hit), (11, .pointer (some ⟨B12, 0, none⟩)), (12, .int .i64 (i2 : Int))])
          (fun ⟨i2, oc, aoc_0, coc_0, Soc_0⟩ => [box B12 [.int .i64 oc.room, .slice aoc_0 oc.list.length coc_0] 24, own tUse Soc_0 aoc_0 coc_0 oc.list, box B2 [.int .i64 0, .slice none 0 0] 24, box B1 [.int .i64 u.room, .slice au_0 u.list.length cu_0] 24, base w0])
          (fun ⟨i2, oc, aoc_0, coc_0, Soc_0⟩ => Lfu.OInv u key oc i2)
          (fun ⟨i2, oc, aoc_0, coc_0, Soc_0⟩ => u.list.length - i2)
          (0, (⟨u.room, [(⟨key, (count + 1)⟩ : DUse)]⟩ : DUses), a10, [(⟨key, (count + 1)⟩ : DUse)].length, S9) ?_ (Sub.cons rfl (Sub.cons rfl (Sub.cons rfl (Sub.cons rfl (Sub.cons rfl (Sub.cons rfl (Sub.cons rfl (Sub.nil _)))))))) (fun _ hw => hw) ?_
        · exact Lfu.OInv.start hst
        rintro ⟨i2, oc, aoc_0, coc_0, Soc_0⟩ hI K hK13
        have hle2 := hI.le
        have hol := hI.len
        have hor := hI.room
        show SC _ _ Try.prog 96 w0 _ _ [(1, .int .i64 key), (2, .pointer (some ⟨B1, 0, none⟩)), (4, .pointer (some ⟨B2, 0, none⟩)), (8, .int .i64 ((u.list.getD (Lfu.least u.list) default).key)), (9, .bool hit), (11, .pointer (some ⟨B12, 0, none⟩)), (12, .int .i64 (i2 : Int))] [box B12 [.int .i64 oc.room, .slice aoc_0 oc.list.length coc_0] 24, own tUse Soc_0 aoc_0 coc_0 oc.list, box B2 [.int .i64 0, .slice none 0 0] 24, box B1 [.int .i64 u.room, .slice au_0 u.list.length cu_0] 24, base w0]
        refine c_seq ?_
        refine c_seq ?_
        refine c_region ?_
        refine o_pure (p_move (v := .int .i64 (i2 : Int)) rfl) rfl rfl rfl ?_
        refine o_pure (p_fieldAddr (B := B1) (j := 0) (j' := 1) rfl fo24_1 rfl) rfl rfl rfl ?_
        refine o_pure (p_load (i := 3) (v := .slice au_0 u.list.length cu_0) rfl rfl sh22 rfl) rfl rfl rfl ?_
        refine o_pure (p_len_slice (len := u.list.length) rfl rfl Try.underlying22) rfl rfl rfl ?_
        refine o_pure (p_lt (p := (i2 : Int)) (q := (u.list.length : Int)) rfl rfl) rfl rfl rfl ?_
        refine o_nil ?_
        refine q_then ?_
        refine c_cond (b := decide ((i2 : Int) < (u.list.length : Int))) rfl (fun hc14 => ?_) (fun hc14 => ?_)
        · simp only [decide_eq_true_eq] at hc14
          refine c_skip ?_
          refine q_then ?_
          refine c_seq ?_
          refine c_block ?_
          refine c_seq ?_
          refine c_region ?_
          refine o_pure (p_fieldAddr (B := B1) (j := 0) (j' := 1) rfl fo24_1 rfl) rfl rfl rfl ?_
          refine o_pure (p_load (i := 3) (v := .slice au_0 u.list.length cu_0) rfl rfl sh22 rfl) rfl rfl rfl ?_
          refine o_pure (p_move (v := .int .i64 (i2 : Int)) rfl) rfl rfl rfl ?_
          refine o_pure (p_indexAddr (L := u.list) (T := tUse) (i := (i2 : Int)) rfl rfl (rd_base (i := 4) rfl hu_0) Try.underlying22 sz42 (by omega) (by omega)) rfl rfl rfl ?_
          refine o_pure (p_fieldAddrE rfl fo42_0) rfl rfl rfl ?_
          refine o_pure (p_loadF (i := i2) (j := 0) (T := tUse) (L := u.list) (v := .int .i64 ((u.list[i2]).key)) rfl (rd_base (i := 4) rfl hu_0) (by first | assumption | omega) sh3 rfl) rfl rfl rfl ?_
          refine o_pure (p_move (v := .int .i64 key) rfl) rfl rfl rfl ?_
          refine o_pure (p_ne (p := (u.list[i2]).key) (q := key) rfl rfl) rfl rfl rfl ?_
          refine o_pure (p_move (v := .bool ((u.list[i2]).key != key)) rfl) rfl rfl rfl ?_
          refine o_and (p := 82) 9 ((u.list[i2]).key != ((u.list.getD (Lfu.least u.list) default).key)) ?_ ?_ ?_
          · intro hb15 hk
            simp only [bne_iff_ne, ne_eq] at hb15
            refine o_unguard 73 rfl rfl ?_
            refine o_pure (p_fieldAddr (B := B1) (j := 0) (j' := 1) rfl fo24_1 rfl) rfl rfl rfl ?_
            refine o_unguard 73 rfl rfl ?_
            refine o_pure (p_load (i := 3) (v := .slice au_0 u.list.length cu_0) rfl rfl sh22 rfl) rfl rfl rfl ?_
            refine o_unguard 73 rfl rfl ?_
            refine o_pure (p_move (v := .int .i64 (i2 : Int)) rfl) rfl rfl rfl ?_
            refine o_unguard 73 rfl rfl ?_
            refine o_pure (p_indexAddr (L := u.list) (T := tUse) (i := (i2 : Int)) rfl rfl (rd_base (i := 4) rfl hu_0) Try.underlying22 sz42 (by omega) (by omega)) rfl rfl rfl ?_
            refine o_unguard 73 rfl rfl ?_
            refine o_pure (p_fieldAddrE rfl fo42_0) rfl rfl rfl ?_
            refine o_unguard 73 rfl rfl ?_
            refine o_pure (p_loadF (i := i2) (j := 0) (T := tUse) (L := u.list) (v := .int .i64 ((u.list[i2]).key)) rfl (rd_base (i := 4) rfl hu_0) (by first | assumption | omega) sh3 rfl) rfl rfl rfl ?_
            refine o_unguard 73 rfl rfl ?_
            refine o_pure (p_move (v := .int .i64 ((u.list.getD (Lfu.least u.list) default).key)) rfl) rfl rfl rfl ?_
            refine o_unguard 73 rfl rfl ?_
            refine o_pure (p_ne (p := (u.list[i2]).key) (q := ((u.list.getD (Lfu.least u.list) default).key)) rfl rfl) rfl rfl rfl ?_
            refine o_pure (p_pick_true (u := .bool ((u.list[i2]).key != ((u.list.getD (Lfu.least u.list) default).key))) rfl rfl) rfl rfl rfl ?_
            exact o_sub (Sub.cons rfl (Sub.skip rfl (Sub.skip rfl (Sub.skip rfl (Sub.skip rfl (Sub.skip rfl (Sub.skip rfl (Sub.skip rfl (Sub.skip rfl (Sub.skip rfl (Sub.skip rfl (Sub.refl _)))))))))))) hk
          · intro hb15 hk
            refine o_guard_no rfl 73 rfl rfl rfl rfl rfl ?_
            refine o_guard_no rfl 73 rfl rfl rfl rfl rfl ?_
            refine o_guard_no rfl 73 rfl rfl rfl rfl rfl ?_
            refine o_guard_no rfl 73 rfl rfl rfl rfl rfl ?_
            refine o_guard_no rfl 73 rfl rfl rfl rfl rfl ?_
            refine o_guard_no rfl 73 rfl rfl rfl rfl rfl ?_
            refine o_guard_no rfl 73 rfl rfl rfl rfl rfl ?_
            refine o_guard_no rfl 73 rfl rfl rfl rfl rfl ?_
            refine o_pure (p_pick_false (v := .bool false) rfl rfl) rfl rfl rfl ?_
            exact o_sub (Sub.cons rfl (Sub.skip rfl (Sub.skip rfl (Sub.skip rfl (Sub.skip rfl (Sub.skip rfl (Sub.skip rfl (Sub.skip rfl (Sub.skip rfl (Sub.skip rfl (Sub.skip rfl (Sub.refl _)))))))))))) hk
          refine o_nil ?_
          refine q_then ?_
          refine c_cond (b := (((u.list[i2]).key != key) && ((u.list[i2]).key != ((u.list.getD (Lfu.least u.list) default).key)))) rfl (fun hc16 => ?_) (fun hc16 => ?_)
          · simp only [Bool.and_eq_true, bne_iff_ne, ne_eq] at hc16
            refine c_cut (G := (Nat → Prop) × Option Addr × Option Addr × Nat × (Nat → Prop)) (fun ⟨S17_7, a17_7, a17_8, c17_8, S17_8⟩ => [(1, .int .i64 key), (2, .pointer (some ⟨B1, 0, none⟩)), (4, .pointer (some ⟨B2, 0, none⟩)), (8, .int .i64 ((u.list.getD (Lfu.least u.list) default).key)), (9, .bool hit), (11, .pointer (some ⟨B12, 0, none⟩)), (12, .int .i64 (i2 : Int))]) (fun ⟨S17_7, a17_7, a17_8, c17_8, S17_8⟩ => [own tUse S17_7 a17_7 ([(⟨(u.list[i2]).key, (u.list[i2]).count⟩ : DUse)].length) ([(⟨(u.list[i2]).key, (u.list[i2]).count⟩ : DUse)]), box B12 [.int .i64 oc.room, .slice a17_8 (oc.list ++ [(⟨(u.list[i2]).key, (u.list[i2]).count⟩ : DUse)]).length c17_8] 24, own tUse S17_8 a17_8 c17_8 (oc.list ++ [(⟨(u.list[i2]).key, (u.list[i2]).count⟩ : DUse)]), box B2 [.int .i64 0, .slice none 0 0] 24, box B1 [.int .i64 u.room, .slice au_0 u.list.length cu_0] 24, base w0]) (fun K hK18 => ?_) ?_
            · refine c_held hmix [box B2 [.int .i64 0, .slice none 0 0] 24, box B1 [.int .i64 u.room, .slice au_0 u.list.length cu_0] 24, base w0] rfl rfl ?_
              refine h_take (i := 0) (ls := #[true, false, false, false, false, false, false, false, false, false, false]) rfl (by kernel_rfl) (by kernel_rfl) (by kernel_rfl) (fun _ _ _ h => h) (p_fieldAddr (B := B12) (j := 0) (j' := 1) rfl fo24_1 rfl) rfl rfl rfl (fun _ hw => HeapIs.drop hw (List.Sublist.cons _ (List.Sublist.cons _ (List.Sublist.cons_cons _ (List.Sublist.cons_cons _ (List.Sublist.cons_cons _ (List.Sublist.slnil))))))) rfl ?_
              refine h_take (i := 2) (ls := #[true, false, true, false, false, false, false, false, false, false, false]) rfl (by kernel_rfl) (by kernel_rfl) (by kernel_rfl) (fun _ _ _ h => h) (p_fieldAddr (B := B1) (j := 0) (j' := 1) rfl fo24_1 rfl) rfl rfl rfl (fun _ hw => HeapIs.drop hw (List.Sublist.cons _ (List.Sublist.cons _ (List.Sublist.cons_cons _ (List.Sublist.cons_cons _ (List.Sublist.cons_cons _ (List.Sublist.slnil))))))) rfl ?_
              refine h_take (i := 3) (ls := #[true, false, true, true, false, false, false, false, false, false, false]) rfl (by kernel_rfl) (by kernel_rfl) (by kernel_rfl) (fun _ _ _ h => h) (p_load (i := 1) (v := .slice au_0 u.list.length cu_0) rfl rfl sh22 rfl) rfl rfl rfl (fun _ hw => HeapIs.drop hw (List.Sublist.cons _ (List.Sublist.cons _ (List.Sublist.cons_cons _ (List.Sublist.cons_cons _ (List.Sublist.cons_cons _ (List.Sublist.slnil))))))) rfl ?_
              refine h_take (i := 4) (ls := #[true, false, true, true, true, false, false, false, false, false, false]) rfl (by kernel_rfl) (by kernel_rfl) (by kernel_rfl) (fun _ _ _ h => h) (p_move (v := .int .i64 (i2 : Int)) rfl) rfl rfl rfl (fun _ hw => HeapIs.drop hw (List.Sublist.cons _ (List.Sublist.cons _ (List.Sublist.cons_cons _ (List.Sublist.cons_cons _ (List.Sublist.cons_cons _ (List.Sublist.slnil))))))) rfl ?_
              refine h_take (i := 5) (ls := #[true, false, true, true, true, true, false, false, false, false, false]) rfl (by kernel_rfl) (by kernel_rfl) (by kernel_rfl) (fun _ _ _ h => h) (p_indexAddr (L := u.list) (T := tUse) (i := (i2 : Int)) rfl rfl (rd_base (i := 2) rfl hu_0) Try.underlying22 sz42 (by omega) (by omega)) rfl rfl rfl (fun _ hw => HeapIs.drop hw (List.Sublist.cons _ (List.Sublist.cons _ (List.Sublist.cons_cons _ (List.Sublist.cons_cons _ (List.Sublist.cons_cons _ (List.Sublist.slnil))))))) rfl ?_
              refine h_take (i := 6) (ls := #[true, false, true, true, true, true, true, false, false, false, false]) rfl (by kernel_rfl) (by kernel_rfl) (by kernel_rfl) (fun _ _ _ h => h) (p_loadEn (i := i2) (T := tUse) (L := u.list) (vs := [.int .i64 ((u.list[i2]).key), .int .i64 ((u.list[i2]).count)]) rfl (rd_base (i := 2) rfl hu_0) (by first | assumption | omega) sh42 rfl) rfl rfl rfl (fun _ hw => HeapIs.drop hw (List.Sublist.cons _ (List.Sublist.cons _ (List.Sublist.cons_cons _ (List.Sublist.cons_cons _ (List.Sublist.cons_cons _ (List.Sublist.slnil))))))) rfl ?_
              refine h_two (i := 1) (j := 7) (ls := #[true, true, true, true, true, true, true, false, false, false, false]) (ls' := #[true, false, true, true, true, true, true, true, false, false, false]) (by kernel_rfl) rfl rfl rfl rfl ?_ ?_
              · refine o_pure (p_load (i := 0) (v := .slice aoc_0 oc.list.length coc_0) rfl rfl sh22 rfl) rfl rfl rfl ?_
                refine o_nil ?_
                refine h_next (fun _ hw => HeapIs.drop hw (List.Sublist.cons _ (List.Sublist.cons _ (List.Sublist.cons_cons _ (List.Sublist.cons_cons _ (List.Sublist.cons_cons _ (List.Sublist.slnil))))))) ?_
                refine h_one (i := 7) (ls := #[true, true, true, true, true, true, true, true, false, false, false]) (by kernel_rfl) rfl rfl ?_
                refine o_buildSlice (m := 1) (T := tUse) (L := [(⟨(u.list[i2]).key, (u.list[i2]).count⟩ : DUse)]) (vs := [.agg #[.int .i64 ((u.list[i2]).key), .int .i64 ((u.list[i2]).count)]]) rfl rfl rfl rfl Try.underlying22 sz42 (by decide) ze42 rfl (by decide) rfl (fun S17_7 a17_7 => ?_)
                refine o_nil ?_
                refine h_next (fun _ hw => HeapIs.drop hw (List.Sublist.cons _ (List.Sublist.cons _ (List.Sublist.cons _ (List.Sublist.cons_cons _ (List.Sublist.cons_cons _ (List.Sublist.cons_cons _ (List.Sublist.slnil)))))))) ?_
                refine h_one (i := 8) (ls := #[true, true, true, true, true, true, true, true, true, false, false]) (by kernel_rfl) rfl rfl ?_
                refine o_append (i := 2) (L := oc.list) (M := [(⟨(u.list[i2]).key, (u.list[i2]).count⟩ : DUse)]) (T := tUse) rfl rfl rfl (rd_own (i := 0) rfl) Try.underlying22 Try.underlying22 (by intro k h; cases h) el42 (by intro z; simp [tUse, one1]) (by decide) (by first | omega | (simp only [List.length_cons, List.length_nil]; omega) | (simp only [List.length_append, List.length_cons, List.length_nil, List.length_take, List.length_drop]; omega)) rfl (fun a17_8 c17_8 S17_8 => ?_)
                refine o_nil ?_
                refine h_next (fun _ hw => HeapIs.drop hw (List.Sublist.cons _ (List.Sublist.cons _ (List.Sublist.cons _ (List.Sublist.cons_cons _ (List.Sublist.cons_cons _ (List.Sublist.cons_cons _ (List.Sublist.slnil)))))))) ?_
                refine h_take (i := 9) (ls := #[true, true, true, true, true, true, true, true, true, true, false]) rfl (by kernel_rfl) (by kernel_rfl) (by kernel_rfl) (fun _ _ _ h => h) (p_fieldAddr (B := B12) (j := 0) (j' := 1) rfl fo24_1 rfl) rfl rfl rfl (fun _ hw => HeapIs.drop hw (List.Sublist.cons _ (List.Sublist.cons _ (List.Sublist.cons _ (List.Sublist.cons_cons _ (List.Sublist.cons_cons _ (List.Sublist.cons_cons _ (List.Sublist.slnil)))))))) rfl ?_
                refine h_one (i := 10) (ls := #[true, true, true, true, true, true, true, true, true, true, true]) (by kernel_rfl) rfl rfl ?_
                refine o_store (i := 1) (v := .slice a17_8 (oc.list ++ [(⟨(u.list[i2]).key, (u.list[i2]).count⟩ : DUse)]).length c17_8) (cs' := [.int .i64 oc.room, .slice a17_8 (oc.list ++ [(⟨(u.list[i2]).key, (u.list[i2]).count⟩ : DUse)]).length c17_8]) rfl rfl rfl sz22 rfl rfl rfl ?_
                refine o_nil ?_
                refine h_next (fun _ hw => HeapIs.drop hw (List.Sublist.cons _ (List.Sublist.cons _ (List.Sublist.cons _ (List.Sublist.cons_cons _ (List.Sublist.cons_cons _ (List.Sublist.cons_cons _ (List.Sublist.slnil)))))))) ?_
                refine h_done (by kernel_rfl) ?_
                refine q_kont hK18 (S17_7, a17_7, a17_8, c17_8, S17_8) (Sub.cons rfl (Sub.cons rfl (Sub.cons rfl (Sub.cons rfl (Sub.cons rfl (Sub.cons rfl (Sub.cons rfl (Sub.nil _)))))))) (fun _ hw => HeapIs.pick hw [0, 1, 2, 3, 4, 5] (by decide) rfl)
              · refine o_buildSlice (m := 1) (T := tUse) (L := [(⟨(u.list[i2]).key, (u.list[i2]).count⟩ : DUse)]) (vs := [.agg #[.int .i64 ((u.list[i2]).key), .int .i64 ((u.list[i2]).count)]]) rfl rfl rfl rfl Try.underlying22 sz42 (by decide) ze42 rfl (by decide) rfl (fun S17_7 a17_7 => ?_)
                refine o_nil ?_
                refine h_next (fun _ hw => HeapIs.drop hw (List.Sublist.cons _ (List.Sublist.cons _ (List.Sublist.cons _ (List.Sublist.cons_cons _ (List.Sublist.cons_cons _ (List.Sublist.cons_cons _ (List.Sublist.slnil)))))))) ?_
                refine h_one (i := 1) (ls := #[true, true, true, true, true, true, true, true, false, false, false]) (by kernel_rfl) rfl rfl ?_
                refine o_pure (p_load (i := 1) (v := .slice aoc_0 oc.list.length coc_0) rfl rfl sh22 rfl) rfl rfl rfl ?_
                refine o_nil ?_
                refine h_next (fun _ hw => HeapIs.drop hw (List.Sublist.cons _ (List.Sublist.cons _ (List.Sublist.cons _ (List.Sublist.cons_cons _ (List.Sublist.cons_cons _ (List.Sublist.cons_cons _ (List.Sublist.slnil)))))))) ?_
                refine h_one (i := 8) (ls := #[true, true, true, true, true, true, true, true, true, false, false]) (by kernel_rfl) rfl rfl ?_
                refine o_append (i := 2) (L := oc.list) (M := [(⟨(u.list[i2]).key, (u.list[i2]).count⟩ : DUse)]) (T := tUse) rfl rfl rfl (rd_own (i := 0) rfl) Try.underlying22 Try.underlying22 (by intro k h; cases h) el42 (by intro z; simp [tUse, one1]) (by decide) (by first | omega | (simp only [List.length_cons, List.length_nil]; omega) | (simp only [List.length_append, List.length_cons, List.length_nil, List.length_take, List.length_drop]; omega)) rfl (fun a17_8 c17_8 S17_8 => ?_)
                refine o_nil ?_
                refine h_next (fun _ hw => HeapIs.drop hw (List.Sublist.cons _ (List.Sublist.cons _ (List.Sublist.cons _ (List.Sublist.cons_cons _ (List.Sublist.cons_cons _ (List.Sublist.cons_cons _ (List.Sublist.slnil)))))))) ?_
                refine h_take (i := 9) (ls := #[true, true, true, true, true, true, true, true, true, true, false]) rfl (by kernel_rfl) (by kernel_rfl) (by kernel_rfl) (fun _ _ _ h => h) (p_fieldAddr (B := B12) (j := 0) (j' := 1) rfl fo24_1 rfl) rfl rfl rfl (fun _ hw => HeapIs.drop hw (List.Sublist.cons _ (List.Sublist.cons _ (List.Sublist.cons _ (List.Sublist.cons_cons _ (List.Sublist.cons_cons _ (List.Sublist.cons_cons _ (List.Sublist.slnil)))))))) rfl ?_
                refine h_one (i := 10) (ls := #[true, true, true, true, true, true, true, true, true, true, true]) (by kernel_rfl) rfl rfl ?_
                refine o_store (i := 1) (v := .slice a17_8 (oc.list ++ [(⟨(u.list[i2]).key, (u.list[i2]).count⟩ : DUse)]).length c17_8) (cs' := [.int .i64 oc.room, .slice a17_8 (oc.list ++ [(⟨(u.list[i2]).key, (u.list[i2]).count⟩ : DUse)]).length c17_8]) rfl rfl rfl sz22 rfl rfl rfl ?_
                refine o_nil ?_
                refine h_next (fun _ hw => HeapIs.drop hw (List.Sublist.cons _ (List.Sublist.cons _ (List.Sublist.cons _ (List.Sublist.cons_cons _ (List.Sublist.cons_cons _ (List.Sublist.cons_cons _ (List.Sublist.slnil)))))))) ?_
                refine h_done (by kernel_rfl) ?_
                refine q_kont hK18 (S17_7, a17_7, a17_8, c17_8, S17_8) (Sub.cons rfl (Sub.cons rfl (Sub.cons rfl (Sub.cons rfl (Sub.cons rfl (Sub.cons rfl (Sub.cons rfl (Sub.nil _)))))))) (fun _ hw => HeapIs.pick hw [0, 1, 2, 3, 4, 5] (by decide) rfl)
            rintro ⟨S17_7, a17_7, a17_8, c17_8, S17_8⟩
            show SQ _ 96 w0 _ _ [(1, .int .i64 key), (2, .pointer (some ⟨B1, 0, none⟩)), (4, .pointer (some ⟨B2, 0, none⟩)), (8, .int .i64 ((u.list.getD (Lfu.least u.list) default).key)), (9, .bool hit), (11, .pointer (some ⟨B12, 0, none⟩)), (12, .int .i64 (i2 : Int))] [own tUse S17_7 a17_7 ([(⟨(u.list[i2]).key, (u.list[i2]).count⟩ : DUse)].length) ([(⟨(u.list[i2]).key, (u.list[i2]).count⟩ : DUse)]), box B12 [.int .i64 oc.room, .slice a17_8 (oc.list ++ [(⟨(u.list[i2]).key, (u.list[i2]).count⟩ : DUse)]).length c17_8] 24, own tUse S17_8 a17_8 c17_8 (oc.list ++ [(⟨(u.list[i2]).key, (u.list[i2]).count⟩ : DUse)]), box B2 [.int .i64 0, .slice none 0 0] 24, box B1 [.int .i64 u.room, .slice au_0 u.list.length cu_0] 24, base w0]
            refine q_cast (F' := [(1, .int .i64 key), (2, .pointer (some ⟨B1, 0, none⟩)), (4, .pointer (some ⟨B2, 0, none⟩)), (8, .int .i64 ((u.list.getD (Lfu.least u.list) default).key)), (9, .bool hit), (11, .pointer (some ⟨B12, 0, none⟩)), (12, .int .i64 (i2 : Int))]) (H := [own tUse S17_7 a17_7 ([(⟨(u.list[i2]).key, (u.list[i2]).count⟩ : DUse)].length) ([(⟨(u.list[i2]).key, (u.list[i2]).count⟩ : DUse)]), box B12 [.int .i64 oc.room, .slice a17_8 (oc.list ++ [(⟨(u.list[i2]).key, (u.list[i2]).count⟩ : DUse)]).length c17_8] 24, own tUse S17_8 a17_8 c17_8 (oc.list ++ [(⟨(u.list[i2]).key, (u.list[i2]).count⟩ : DUse)]), box B2 [.int .i64 0, .slice none 0 0] 24, box B1 [.int .i64 u.room, .slice au_0 u.list.length cu_0] 24, base w0]) (H' := [own tUse S17_7 a17_7 ([(⟨(u.list[i2]).key, (u.list[i2]).count⟩ : DUse)].length) ([(⟨(u.list[i2]).key, (u.list[i2]).count⟩ : DUse)]), box B12 [.int .i64 oc.room, .slice a17_8 (oc.list ++ [(⟨(u.list[i2]).key, (u.list[i2]).count⟩ : DUse)]).length c17_8] 24, own tUse S17_8 a17_8 c17_8 (oc.list ++ [(⟨(u.list[i2]).key, (u.list[i2]).count⟩ : DUse)]), box B2 [.int .i64 0, .slice none 0 0] 24, box B1 [.int .i64 u.room, .slice au_0 u.list.length cu_0] 24, base w0]) (Sub.cons rfl (Sub.cons rfl (Sub.cons rfl (Sub.cons rfl (Sub.cons rfl (Sub.cons rfl (Sub.cons rfl (Sub.nil _)))))))) (by rfl) ?_
            refine q_block_normal (q_then ?_)
            refine c_region ?_
            refine o_pure (p_move (v := .int .i64 (i2 : Int)) rfl) rfl rfl rfl ?_
            refine o_pure (p_addb (p := (i2 : Int)) (q := 1) rfl rfl (by omega)) rfl rfl rfl ?_
            refine o_pure (p_assign (v := .int .i64 ((i2 : Int) + 1)) rfl) rfl rfl rfl ?_
            refine o_nil ?_
            refine q_round hK13 (i2 + 1, (⟨oc.room, (oc.list ++ [(⟨(u.list[i2]).key, (u.list[i2]).count⟩ : DUse)])⟩ : DUses), a17_8, c17_8, S17_8) ?_ ?_ ?_ ?_
            · clear hK13
              first | exact hI.add hgo (by omega) (by simp_all) (by simp_all) | exact hI.drop hgo (by omega) (by grind)
            · (try dsimp only); omega
            · exact Sub.cons rfl (Sub.cons rfl (Sub.cons rfl (Sub.cons rfl (Sub.cons rfl (Sub.cons rfl (Sub.cons rfl (Sub.nil _)))))))
            · exact fun _ hw => HeapIs.pick hw [1, 2, 3, 4, 5] (by decide) rfl
          · simp only [Bool.and_eq_false_iff, bne_eq_false_iff_eq] at hc16
            refine c_skip ?_
            refine q_block_normal (q_then ?_)
            refine c_region ?_
            refine o_pure (p_move (v := .int .i64 (i2 : Int)) rfl) rfl rfl rfl ?_
            refine o_pure (p_addb (p := (i2 : Int)) (q := 1) rfl rfl (by omega)) rfl rfl rfl ?_
            refine o_pure (p_assign (v := .int .i64 ((i2 : Int) + 1)) rfl) rfl rfl rfl ?_
            refine o_nil ?_
            refine q_round hK13 (i2 + 1, oc, aoc_0, coc_0, Soc_0) ?_ ?_ ?_ ?_
            · clear hK13
              first | exact hI.add hgo (by omega) (by simp_all) (by simp_all) | exact hI.drop hgo (by omega) (by grind)
            · (try dsimp only); omega
            · exact Sub.cons rfl (Sub.cons rfl (Sub.cons rfl (Sub.cons rfl (Sub.cons rfl (Sub.cons rfl (Sub.cons rfl (Sub.nil _)))))))
            · exact fun _ hw => HeapIs.pick hw [0, 1, 2, 3, 4] (by decide) rfl
        · simp only [decide_eq_false_iff_not, Int.not_lt] at hc14
          refine c_exit ?_
          refine q_then_exit (q_then_exit (q_block_exit (q_then ?_)))
          refine c_seq ?_
          refine c_region ?_
          refine o_pure (p_load_agg (i := 0) (vs := [.int .i64 oc.room, .slice aoc_0 oc.list.length coc_0]) rfl rfl sh24 rfl rfl) rfl rfl rfl ?_
          refine o_pure (p_move (v := .bool hit) rfl) rfl rfl rfl ?_
          refine o_pure (p_move (v := .int .i64 ((u.list.getD (Lfu.least u.list) default).key)) rfl) rfl rfl rfl ?_
          refine o_storeN (i := 2) (vs := [.int .i64 oc.room, .slice aoc_0 oc.list.length coc_0]) (cs' := [.int .i64 oc.room, .slice aoc_0 oc.list.length coc_0]) rfl rfl rfl sz24 rfl rfl rfl rfl ?_
          refine o_pure (p_assign (v := .bool hit) rfl) rfl rfl rfl ?_
          refine o_pure (p_assign (v := .int .i64 ((u.list.getD (Lfu.least u.list) default).key)) rfl) rfl rfl rfl ?_
          refine o_nil ?_
          refine q_then ?_
          refine c_ret ?_
          have hd := hI.done hy1 (by omega)
          have hr0 : (oc.room : Int) = ((Lfu.touch u key).1).room := by
            first | (rw [hd]; done) | (rw [← hd]; done) | exact hgo | exact Lfu.ref_is hA (by omega) hy1
          have hr1 : (oc.list : List DUse) = ((Lfu.touch u key).1).list := by
            first | (rw [hd]; done) | (rw [← hd]; done) | exact hgo | exact Lfu.ref_is hA (by omega) hy1
          have hr2 : (hit : Bool) = ((Lfu.touch u key).2.1) := by
            first | (rw [hd]; done) | (rw [← hd]; done) | exact hgo | exact Lfu.ref_is hA (by omega) hy1
          have hr3 : (((u.list.getD (Lfu.least u.list) default).key) : Int) = ((Lfu.touch u key).2.2) := by
            first | (rw [hd]; done) | (rw [← hd]; done) | exact hgo | exact Lfu.ref_is hA (by omega) hy1
          refine q_endM (p := (aoc_0, coc_0)) Soc_0 (rt3 rfl (r_cell (i := 2) rfl rfl sh24 rfl) (r_tmp rfl) (r_tmp rfl)) (i := 4) rfl ?_ ?_ ?_
          · exact (by have hcc := congr (congr (congr (congrArg (fun (y0 : Int) (y1 : List DUse) (y2 : Bool) (y3 : Int) => (.tuple #[.agg #[.int .i64 y0, .slice aoc_0 y1.length coc_0], .bool y2, .int .i64 y3] : Value)) hr0) hr1) hr2) hr3; exact hcc)
          · exact fun w hw => hw.above (i := 4) (j := 1) (by decide) rfl rfl
          · intro w hw; exact Eq.mp (congrArg (fun y => SlO tUse _ w aoc_0 coc_0 y) hr1) ((hw.at (i := 1) rfl).here)
      · simp only [decide_eq_false_iff_not, Int.not_lt] at hc8
        have hst := Lfu.ref_ge hA (by omega) hy1 hc8
        refine c_skip ?_
        refine q_then ?_
        refine c_seq ?_
        refine c_region ?_
        refine o_pure (p_fieldAddr (B := B1) (j := 0) (j' := 0) rfl fo24_0 rfl) rfl rfl rfl ?_
        refine o_pure (p_load (i := 1) (v := .int .i64 u.room) rfl rfl sh3 rfl) rfl rfl rfl ?_
        refine o_pure (p_move (v := .int .i64 key) rfl) rfl rfl rfl ?_
        refine o_pure (p_move (v := .int .i64 count) rfl) rfl rfl rfl ?_
        refine o_pure (p_build (cells := [.int .i64 key, .int .i64 count]) fp42 ze42 rfl rfl) rfl rfl rfl ?_
        refine o_buildSlice (m := 1) (T := tUse) (L := [(⟨key, count⟩ : DUse)]) (vs := [.agg #[.int .i64 key, .int .i64 count]]) rfl rfl rfl rfl Try.underlying22 sz42 (by decide) ze42 rfl (by decide) rfl (fun S19 a20 => ?_)
        refine o_pure (p_build (cells := [.int .i64 u.room, .slice a20 ([(⟨key, count⟩ : DUse)]).length ([(⟨key, count⟩ : DUse)].length)]) fp24 ze24 rfl rfl) rfl rfl rfl ?_
        refine o_alloc ze24 rfl (fun B22 => ?_)
        refine o_storeN (i := 0) (vs := [.int .i64 u.room, .slice a20 ([(⟨key, count⟩ : DUse)]).length ([(⟨key, count⟩ : DUse)].length)]) (cs' := [.int .i64 u.room, .slice a20 ([(⟨key, count⟩ : DUse)]).length ([(⟨key, count⟩ : DUse)].length)]) rfl rfl rfl sz24 rfl rfl rfl rfl ?_
        refine o_nil ?_
        refine q_then ?_
        refine c_seq ?_
        refine c_seq ?_
        refine c_region ?_
        refine o_pure (p_assign (v := .int .i64 0) rfl) rfl rfl rfl ?_
        refine o_nil ?_
        refine q_then ?_
        refine c_block ?_
        refine c_loop (St := Nat × DUses × Option Addr × Nat × (Nat → Prop))
          (fun ⟨i2, oc, aoc_0, coc_0, Soc_0⟩ => [(1, .int .i64 key), (2, .pointer (some ⟨B1, 0, none⟩)), (4, .pointer (some ⟨B2, 0, none⟩)), (8, .int .i64 ((u.list.getD (Lfu.least u.list) default).key)), (9, .bool hit), (11, .pointer (some ⟨B22, 0, none⟩)), (12, .int .i64 (i2 : Int))])
          (fun ⟨i2, oc, aoc_0, coc_0, Soc_0⟩ => [box B22 [.int .i64 oc.room, .slice aoc_0 oc.list.length coc_0] 24, own tUse Soc_0 aoc_0 coc_0 oc.list, box B2 [.int .i64 0, .slice none 0 0] 24, box B1 [.int .i64 u.room, .slice au_0 u.list.length cu_0] 24, base w0])
          (fun ⟨i2, oc, aoc_0, coc_0, Soc_0⟩ => Lfu.OInv u key oc i2)
          (fun ⟨i2, oc, aoc_0, coc_0, Soc_0⟩ => u.list.length - i2)
          (0, (⟨u.room, [(⟨key, count⟩ : DUse)]⟩ : DUses), a20, [(⟨key, count⟩ : DUse)].length, S19) ?_ (Sub.cons rfl (Sub.cons rfl (Sub.cons rfl (Sub.cons rfl (Sub.cons rfl (Sub.cons rfl (Sub.cons rfl (Sub.nil _)))))))) (fun _ hw => hw) ?_
        · exact Lfu.OInv.start hst
        rintro ⟨i2, oc, aoc_0, coc_0, Soc_0⟩ hI K hK23
        have hle2 := hI.le
        have hol := hI.len
        have hor := hI.room
        show SC _ _ Try.prog 96 w0 _ _ [(1, .int .i64 key), (2, .pointer (some ⟨B1, 0, none⟩)), (4, .pointer (some ⟨B2, 0, none⟩)), (8, .int .i64 ((u.list.getD (Lfu.least u.list) default).key)), (9, .bool hit), (11, .pointer (some ⟨B22, 0, none⟩)), (12, .int .i64 (i2 : Int))] [box B22 [.int .i64 oc.room, .slice aoc_0 oc.list.length coc_0] 24, own tUse Soc_0 aoc_0 coc_0 oc.list, box B2 [.int .i64 0, .slice none 0 0] 24, box B1 [.int .i64 u.room, .slice au_0 u.list.length cu_0] 24, base w0]
        refine c_seq ?_
        refine c_seq ?_
        refine c_region ?_
        refine o_pure (p_move (v := .int .i64 (i2 : Int)) rfl) rfl rfl rfl ?_
        refine o_pure (p_fieldAddr (B := B1) (j := 0) (j' := 1) rfl fo24_1 rfl) rfl rfl rfl ?_
        refine o_pure (p_load (i := 3) (v := .slice au_0 u.list.length cu_0) rfl rfl sh22 rfl) rfl rfl rfl ?_
        refine o_pure (p_len_slice (len := u.list.length) rfl rfl Try.underlying22) rfl rfl rfl ?_
        refine o_pure (p_lt (p := (i2 : Int)) (q := (u.list.length : Int)) rfl rfl) rfl rfl rfl ?_
        refine o_nil ?_
        refine q_then ?_
        refine c_cond (b := decide ((i2 : Int) < (u.list.length : Int))) rfl (fun hc24 => ?_) (fun hc24 => ?_)
        · simp only [decide_eq_true_eq] at hc24
          refine c_skip ?_
          refine q_then ?_
          refine c_seq ?_
          refine c_block ?_
          refine c_seq ?_
          refine c_region ?_
          refine o_pure (p_fieldAddr (B := B1) (j := 0) (j' := 1) rfl fo24_1 rfl) rfl rfl rfl ?_
          refine o_pure (p_load (i := 3) (v := .slice au_0 u.list.length cu_0) rfl rfl sh22 rfl) rfl rfl rfl ?_
          refine o_pure (p_move (v := .int .i64 (i2 : Int)) rfl) rfl rfl rfl ?_
          refine o_pure (p_indexAddr (L := u.list) (T := tUse) (i := (i2 : Int)) rfl rfl (rd_base (i := 4) rfl hu_0) Try.underlying22 sz42 (by omega) (by omega)) rfl rfl rfl ?_
          refine o_pure (p_fieldAddrE rfl fo42_0) rfl rfl rfl ?_
          refine o_pure (p_loadF (i := i2) (j := 0) (T := tUse) (L := u.list) (v := .int .i64 ((u.list[i2]).key)) rfl (rd_base (i := 4) rfl hu_0) (by first | assumption | omega) sh3 rfl) rfl rfl rfl ?_
          refine o_pure (p_move (v := .int .i64 key) rfl) rfl rfl rfl ?_
          refine o_pure (p_ne (p := (u.list[i2]).key) (q := key) rfl rfl) rfl rfl rfl ?_
          refine o_pure (p_move (v := .bool ((u.list[i2]).key != key)) rfl) rfl rfl rfl ?_
          refine o_and (p := 82) 9 ((u.list[i2]).key != ((u.list.getD (Lfu.least u.list) default).key)) ?_ ?_ ?_
          · intro hb25 hk
            simp only [bne_iff_ne, ne_eq] at hb25
            refine o_unguard 73 rfl rfl ?_
            refine o_pure (p_fieldAddr (B := B1) (j := 0) (j' := 1) rfl fo24_1 rfl) rfl rfl rfl ?_
            refine o_unguard 73 rfl rfl ?_
            refine o_pure (p_load (i := 3) (v := .slice au_0 u.list.length cu_0) rfl rfl sh22 rfl) rfl rfl rfl ?_
            refine o_unguard 73 rfl rfl ?_
            refine o_pure (p_move (v := .int .i64 (i2 : Int)) rfl) rfl rfl rfl ?_
            refine o_unguard 73 rfl rfl ?_
            refine o_pure (p_indexAddr (L := u.list) (T := tUse) (i := (i2 : Int)) rfl rfl (rd_base (i := 4) rfl hu_0) Try.underlying22 sz42 (by omega) (by omega)) rfl rfl rfl ?_
            refine o_unguard 73 rfl rfl ?_
            refine o_pure (p_fieldAddrE rfl fo42_0) rfl rfl rfl ?_
            refine o_unguard 73 rfl rfl ?_
            refine o_pure (p_loadF (i := i2) (j := 0) (T := tUse) (L := u.list) (v := .int .i64 ((u.list[i2]).key)) rfl (rd_base (i := 4) rfl hu_0) (by first | assumption | omega) sh3 rfl) rfl rfl rfl ?_
            refine o_unguard 73 rfl rfl ?_
            refine o_pure (p_move (v := .int .i64 ((u.list.getD (Lfu.least u.list) default).key)) rfl) rfl rfl rfl ?_
            refine o_unguard 73 rfl rfl ?_
            refine o_pure (p_ne (p := (u.list[i2]).key) (q := ((u.list.getD (Lfu.least u.list) default).key)) rfl rfl) rfl rfl rfl ?_
            refine o_pure (p_pick_true (u := .bool ((u.list[i2]).key != ((u.list.getD (Lfu.least u.list) default).key))) rfl rfl) rfl rfl rfl ?_
            exact o_sub (Sub.cons rfl (Sub.skip rfl (Sub.skip rfl (Sub.skip rfl (Sub.skip rfl (Sub.skip rfl (Sub.skip rfl (Sub.skip rfl (Sub.skip rfl (Sub.skip rfl (Sub.skip rfl (Sub.refl _)))))))))))) hk
          · intro hb25 hk
            refine o_guard_no rfl 73 rfl rfl rfl rfl rfl ?_
            refine o_guard_no rfl 73 rfl rfl rfl rfl rfl ?_
            refine o_guard_no rfl 73 rfl rfl rfl rfl rfl ?_
            refine o_guard_no rfl 73 rfl rfl rfl rfl rfl ?_
            refine o_guard_no rfl 73 rfl rfl rfl rfl rfl ?_
            refine o_guard_no rfl 73 rfl rfl rfl rfl rfl ?_
            refine o_guard_no rfl 73 rfl rfl rfl rfl rfl ?_
            refine o_guard_no rfl 73 rfl rfl rfl rfl rfl ?_
            refine o_pure (p_pick_false (v := .bool false) rfl rfl) rfl rfl rfl ?_
            exact o_sub (Sub.cons rfl (Sub.skip rfl (Sub.skip rfl (Sub.skip rfl (Sub.skip rfl (Sub.skip rfl (Sub.skip rfl (Sub.skip rfl (Sub.skip rfl (Sub.skip rfl (Sub.skip rfl (Sub.refl _)))))))))))) hk
          refine o_nil ?_
          refine q_then ?_
          refine c_cond (b := (((u.list[i2]).key != key) && ((u.list[i2]).key != ((u.list.getD (Lfu.least u.list) default).key)))) rfl (fun hc26 => ?_) (fun hc26 => ?_)
          · simp only [Bool.and_eq_true, bne_iff_ne, ne_eq] at hc26
            refine c_cut (G := (Nat → Prop) × Option Addr × Option Addr × Nat × (Nat → Prop)) (fun ⟨S27_7, a27_7, a27_8, c27_8, S27_8⟩ => [(1, .int .i64 key), (2, .pointer (some ⟨B1, 0, none⟩)), (4, .pointer (some ⟨B2, 0, none⟩)), (8, .int .i64 ((u.list.getD (Lfu.least u.list) default).key)), (9, .bool hit), (11, .pointer (some ⟨B22, 0, none⟩)), (12, .int .i64 (i2 : Int))]) (fun ⟨S27_7, a27_7, a27_8, c27_8, S27_8⟩ => [own tUse S27_7 a27_7 ([(⟨(u.list[i2]).key, (u.list[i2]).count⟩ : DUse)].length) ([(⟨(u.list[i2]).key, (u.list[i2]).count⟩ : DUse)]), box B22 [.int .i64 oc.room, .slice a27_8 (oc.list ++ [(⟨(u.list[i2]).key, (u.list[i2]).count⟩ : DUse)]).length c27_8] 24, own tUse S27_8 a27_8 c27_8 (oc.list ++ [(⟨(u.list[i2]).key, (u.list[i2]).count⟩ : DUse)]), box B2 [.int .i64 0, .slice none 0 0] 24, box B1 [.int .i64 u.room, .slice au_0 u.list.length cu_0] 24, base w0]) (fun K hK28 => ?_) ?_
            · refine c_held hmix [box B2 [.int .i64 0, .slice none 0 0] 24, box B1 [.int .i64 u.room, .slice au_0 u.list.length cu_0] 24, base w0] rfl rfl ?_
              refine h_take (i := 0) (ls := #[true, false, false, false, false, false, false, false, false, false, false]) rfl (by kernel_rfl) (by kernel_rfl) (by kernel_rfl) (fun _ _ _ h => h) (p_fieldAddr (B := B22) (j := 0) (j' := 1) rfl fo24_1 rfl) rfl rfl rfl (fun _ hw => HeapIs.drop hw (List.Sublist.cons _ (List.Sublist.cons _ (List.Sublist.cons_cons _ (List.Sublist.cons_cons _ (List.Sublist.cons_cons _ (List.Sublist.slnil))))))) rfl ?_
              refine h_take (i := 2) (ls := #[true, false, true, false, false, false, false, false, false, false, false]) rfl (by kernel_rfl) (by kernel_rfl) (by kernel_rfl) (fun _ _ _ h => h) (p_fieldAddr (B := B1) (j := 0) (j' := 1) rfl fo24_1 rfl) rfl rfl rfl (fun _ hw => HeapIs.drop hw (List.Sublist.cons _ (List.Sublist.cons _ (List.Sublist.cons_cons _ (List.Sublist.cons_cons _ (List.Sublist.cons_cons _ (List.Sublist.slnil))))))) rfl ?_
              refine h_take (i := 3) (ls := #[true, false, true, true, false, false, false, false, false, false, false]) rfl (by kernel_rfl) (by kernel_rfl) (by kernel_rfl) (fun _ _ _ h => h) (p_load (i := 1) (v := .slice au_0 u.list.length cu_0) rfl rfl sh22 rfl) rfl rfl rfl (fun _ hw => HeapIs.drop hw (List.Sublist.cons _ (List.Sublist.cons _ (List.Sublist.cons_cons _ (List.Sublist.cons_cons _ (List.Sublist.cons_cons _ (List.Sublist.slnil))))))) rfl ?_
              refine h_take (i := 4) (ls := #[true, false, true, true, true, false, false, false, false, false, false]) rfl (by kernel_rfl) (by kernel_rfl) (by kernel_rfl) (fun _ _ _ h => h) (p_move (v := .int .i64 (i2 : Int)) rfl) rfl rfl rfl (fun _ hw => HeapIs.drop hw (List.Sublist.cons _ (List.Sublist.cons _ (List.Sublist.cons_cons _ (List.Sublist.cons_cons _ (List.Sublist.cons_cons _ (List.Sublist.slnil))))))) rfl ?_
              refine h_take (i := 5) (ls := #[true, false, true, true, true, true, false, false, false, false, false]) rfl (by kernel_rfl) (by kernel_rfl) (by kernel_rfl) (fun _ _ _ h => h) (p_indexAddr (L := u.list) (T := tUse) (i := (i2 : Int)) rfl rfl (rd_base (i := 2) rfl hu_0) Try.underlying22 sz42 (by omega) (by omega)) rfl rfl rfl (fun _ hw => HeapIs.drop hw (List.Sublist.cons _ (List.Sublist.cons _ (List.Sublist.cons_cons _ (List.Sublist.cons_cons _ (List.Sublist.cons_cons _ (List.Sublist.slnil))))))) rfl ?_
              refine h_take (i := 6) (ls := #[true, false, true, true, true, true, true, false, false, false, false]) rfl (by kernel_rfl) (by kernel_rfl) (by kernel_rfl) (fun _ _ _ h => h) (p_loadEn (i := i2) (T := tUse) (L := u.list) (vs := [.int .i64 ((u.list[i2]).key), .int .i64 ((u.list[i2]).count)]) rfl (rd_base (i := 2) rfl hu_0) (by first | assumption | omega) sh42 rfl) rfl rfl rfl (fun _ hw => HeapIs.drop hw (List.Sublist.cons _ (List.Sublist.cons _ (List.Sublist.cons_cons _ (List.Sublist.cons_cons _ (List.Sublist.cons_cons _ (List.Sublist.slnil))))))) rfl ?_
              refine h_two (i := 1) (j := 7) (ls := #[true, true, true, true, true, true, true, false, false, false, false]) (ls' := #[true, false, true, true, true, true, true, true, false, false, false]) (by kernel_rfl) rfl rfl rfl rfl ?_ ?_
              · refine o_pure (p_load (i := 0) (v := .slice aoc_0 oc.list.length coc_0) rfl rfl sh22 rfl) rfl rfl rfl ?_
                refine o_nil ?_
                refine h_next (fun _ hw => HeapIs.drop hw (List.Sublist.cons _ (List.Sublist.cons _ (List.Sublist.cons_cons _ (List.Sublist.cons_cons _ (List.Sublist.cons_cons _ (List.Sublist.slnil))))))) ?_
                refine h_one (i := 7) (ls := #[true, true, true, true, true, true, true, true, false, false, false]) (by kernel_rfl) rfl rfl ?_
                refine o_buildSlice (m := 1) (T := tUse) (L := [(⟨(u.list[i2]).key, (u.list[i2]).count⟩ : DUse)]) (vs := [.agg #[.int .i64 ((u.list[i2]).key), .int .i64 ((u.list[i2]).count)]]) rfl rfl rfl rfl Try.underlying22 sz42 (by decide) ze42 rfl (by decide) rfl (fun S27_7 a27_7 => ?_)
                refine o_nil ?_
                refine h_next (fun _ hw => HeapIs.drop hw (List.Sublist.cons _ (List.Sublist.cons _ (List.Sublist.cons _ (List.Sublist.cons_cons _ (List.Sublist.cons_cons _ (List.Sublist.cons_cons _ (List.Sublist.slnil)))))))) ?_
                refine h_one (i := 8) (ls := #[true, true, true, true, true, true, true, true, true, false, false]) (by kernel_rfl) rfl rfl ?_
                refine o_append (i := 2) (L := oc.list) (M := [(⟨(u.list[i2]).key, (u.list[i2]).count⟩ : DUse)]) (T := tUse) rfl rfl rfl (rd_own (i := 0) rfl) Try.underlying22 Try.underlying22 (by intro k h; cases h) el42 (by intro z; simp [tUse, one1]) (by decide) (by first | omega | (simp only [List.length_cons, List.length_nil]; omega) | (simp only [List.length_append, List.length_cons, List.length_nil, List.length_take, List.length_drop]; omega)) rfl (fun a27_8 c27_8 S27_8 => ?_)
                refine o_nil ?_
                refine h_next (fun _ hw => HeapIs.drop hw (List.Sublist.cons _ (List.Sublist.cons _ (List.Sublist.cons _ (List.Sublist.cons_cons _ (List.Sublist.cons_cons _ (List.Sublist.cons_cons _ (List.Sublist.slnil)))))))) ?_
                refine h_take (i := 9) (ls := #[true, true, true, true, true, true, true, true, true, true, false]) rfl (by kernel_rfl) (by kernel_rfl) (by kernel_rfl) (fun _ _ _ h => h) (p_fieldAddr (B := B22) (j := 0) (j' := 1) rfl fo24_1 rfl) rfl rfl rfl (fun _ hw => HeapIs.drop hw (List.Sublist.cons _ (List.Sublist.cons _ (List.Sublist.cons _ (List.Sublist.cons_cons _ (List.Sublist.cons_cons _ (List.Sublist.cons_cons _ (List.Sublist.slnil)))))))) rfl ?_
                refine h_one (i := 10) (ls := #[true, true, true, true, true, true, true, true, true, true, true]) (by kernel_rfl) rfl rfl ?_
                refine o_store (i := 1) (v := .slice a27_8 (oc.list ++ [(⟨(u.list[i2]).key, (u.list[i2]).count⟩ : DUse)]).length c27_8) (cs' := [.int .i64 oc.room, .slice a27_8 (oc.list ++ [(⟨(u.list[i2]).key, (u.list[i2]).count⟩ : DUse)]).length c27_8]) rfl rfl rfl sz22 rfl rfl rfl ?_
                refine o_nil ?_
                refine h_next (fun _ hw => HeapIs.drop hw (List.Sublist.cons _ (List.Sublist.cons _ (List.Sublist.cons _ (List.Sublist.cons_cons _ (List.Sublist.cons_cons _ (List.Sublist.cons_cons _ (List.Sublist.slnil)))))))) ?_
                refine h_done (by kernel_rfl) ?_
                refine q_kont hK28 (S27_7, a27_7, a27_8, c27_8, S27_8) (Sub.cons rfl (Sub.cons rfl (Sub.cons rfl (Sub.cons rfl (Sub.cons rfl (Sub.cons rfl (Sub.cons rfl (Sub.nil _)))))))) (fun _ hw => HeapIs.pick hw [0, 1, 2, 3, 4, 5] (by decide) rfl)
              · refine o_buildSlice (m := 1) (T := tUse) (L := [(⟨(u.list[i2]).key, (u.list[i2]).count⟩ : DUse)]) (vs := [.agg #[.int .i64 ((u.list[i2]).key), .int .i64 ((u.list[i2]).count)]]) rfl rfl rfl rfl Try.underlying22 sz42 (by decide) ze42 rfl (by decide) rfl (fun S27_7 a27_7 => ?_)
                refine o_nil ?_
                refine h_next (fun _ hw => HeapIs.drop hw (List.Sublist.cons _ (List.Sublist.cons _ (List.Sublist.cons _ (List.Sublist.cons_cons _ (List.Sublist.cons_cons _ (List.Sublist.cons_cons _ (List.Sublist.slnil)))))))) ?_
                refine h_one (i := 1) (ls := #[true, true, true, true, true, true, true, true, false, false, false]) (by kernel_rfl) rfl rfl ?_
                refine o_pure (p_load (i := 1) (v := .slice aoc_0 oc.list.length coc_0) rfl rfl sh22 rfl) rfl rfl rfl ?_
                refine o_nil ?_
                refine h_next (fun _ hw => HeapIs.drop hw (List.Sublist.cons _ (List.Sublist.cons _ (List.Sublist.cons _ (List.Sublist.cons_cons _ (List.Sublist.cons_cons _ (List.Sublist.cons_cons _ (List.Sublist.slnil)))))))) ?_
                refine h_one (i := 8) (ls := #[true, true, true, true, true, true, true, true, true, false, false]) (by kernel_rfl) rfl rfl ?_
                refine o_append (i := 2) (L := oc.list) (M := [(⟨(u.list[i2]).key, (u.list[i2]).count⟩ : DUse)]) (T := tUse) rfl rfl rfl (rd_own (i := 0) rfl) Try.underlying22 Try.underlying22 (by intro k h; cases h) el42 (by intro z; simp [tUse, one1]) (by decide) (by first | omega | (simp only [List.length_cons, List.length_nil]; omega) | (simp only [List.length_append, List.length_cons, List.length_nil, List.length_take, List.length_drop]; omega)) rfl (fun a27_8 c27_8 S27_8 => ?_)
                refine o_nil ?_
                refine h_next (fun _ hw => HeapIs.drop hw (List.Sublist.cons _ (List.Sublist.cons _ (List.Sublist.cons _ (List.Sublist.cons_cons _ (List.Sublist.cons_cons _ (List.Sublist.cons_cons _ (List.Sublist.slnil)))))))) ?_
                refine h_take (i := 9) (ls := #[true, true, true, true, true, true, true, true, true, true, false]) rfl (by kernel_rfl) (by kernel_rfl) (by kernel_rfl) (fun _ _ _ h => h) (p_fieldAddr (B := B22) (j := 0) (j' := 1) rfl fo24_1 rfl) rfl rfl rfl (fun _ hw => HeapIs.drop hw (List.Sublist.cons _ (List.Sublist.cons _ (List.Sublist.cons _ (List.Sublist.cons_cons _ (List.Sublist.cons_cons _ (List.Sublist.cons_cons _ (List.Sublist.slnil)))))))) rfl ?_
                refine h_one (i := 10) (ls := #[true, true, true, true, true, true, true, true, true, true, true]) (by kernel_rfl) rfl rfl ?_
                refine o_store (i := 1) (v := .slice a27_8 (oc.list ++ [(⟨(u.list[i2]).key, (u.list[i2]).count⟩ : DUse)]).length c27_8) (cs' := [.int .i64 oc.room, .slice a27_8 (oc.list ++ [(⟨(u.list[i2]).key, (u.list[i2]).count⟩ : DUse)]).length c27_8]) rfl rfl rfl sz22 rfl rfl rfl ?_
                refine o_nil ?_
                refine h_next (fun _ hw => HeapIs.drop hw (List.Sublist.cons _ (List.Sublist.cons _ (List.Sublist.cons _ (List.Sublist.cons_cons _ (List.Sublist.cons_cons _ (List.Sublist.cons_cons _ (List.Sublist.slnil)))))))) ?_
                refine h_done (by kernel_rfl) ?_
                refine q_kont hK28 (S27_7, a27_7, a27_8, c27_8, S27_8) (Sub.cons rfl (Sub.cons rfl (Sub.cons rfl (Sub.cons rfl (Sub.cons rfl (Sub.cons rfl (Sub.cons rfl (Sub.nil _)))))))) (fun _ hw => HeapIs.pick hw [0, 1, 2, 3, 4, 5] (by decide) rfl)
            rintro ⟨S27_7, a27_7, a27_8, c27_8, S27_8⟩
            show SQ _ 96 w0 _ _ [(1, .int .i64 key), (2, .pointer (some ⟨B1, 0, none⟩)), (4, .pointer (some ⟨B2, 0, none⟩)), (8, .int .i64 ((u.list.getD (Lfu.least u.list) default).key)), (9, .bool hit), (11, .pointer (some ⟨B22, 0, none⟩)), (12, .int .i64 (i2 : Int))] [own tUse S27_7 a27_7 ([(⟨(u.list[i2]).key, (u.list[i2]).count⟩ : DUse)].length) ([(⟨(u.list[i2]).key, (u.list[i2]).count⟩ : DUse)]), box B22 [.int .i64 oc.room, .slice a27_8 (oc.list ++ [(⟨(u.list[i2]).key, (u.list[i2]).count⟩ : DUse)]).length c27_8] 24, own tUse S27_8 a27_8 c27_8 (oc.list ++ [(⟨(u.list[i2]).key, (u.list[i2]).count⟩ : DUse)]), box B2 [.int .i64 0, .slice none 0 0] 24, box B1 [.int .i64 u.room, .slice au_0 u.list.length cu_0] 24, base w0]
            refine q_cast (F' := [(1, .int .i64 key), (2, .pointer (some ⟨B1, 0, none⟩)), (4, .pointer (some ⟨B2, 0, none⟩)), (8, .int .i64 ((u.list.getD (Lfu.least u.list) default).key)), (9, .bool hit), (11, .pointer (some ⟨B22, 0, none⟩)), (12, .int .i64 (i2 : Int))]) (H := [own tUse S27_7 a27_7 ([(⟨(u.list[i2]).key, (u.list[i2]).count⟩ : DUse)].length) ([(⟨(u.list[i2]).key, (u.list[i2]).count⟩ : DUse)]), box B22 [.int .i64 oc.room, .slice a27_8 (oc.list ++ [(⟨(u.list[i2]).key, (u.list[i2]).count⟩ : DUse)]).length c27_8] 24, own tUse S27_8 a27_8 c27_8 (oc.list ++ [(⟨(u.list[i2]).key, (u.list[i2]).count⟩ : DUse)]), box B2 [.int .i64 0, .slice none 0 0] 24, box B1 [.int .i64 u.room, .slice au_0 u.list.length cu_0] 24, base w0]) (H' := [own tUse S27_7 a27_7 ([(⟨(u.list[i2]).key, (u.list[i2]).count⟩ : DUse)].length) ([(⟨(u.list[i2]).key, (u.list[i2]).count⟩ : DUse)]), box B22 [.int .i64 oc.room, .slice a27_8 (oc.list ++ [(⟨(u.list[i2]).key, (u.list[i2]).count⟩ : DUse)]).length c27_8] 24, own tUse S27_8 a27_8 c27_8 (oc.list ++ [(⟨(u.list[i2]).key, (u.list[i2]).count⟩ : DUse)]), box B2 [.int .i64 0, .slice none 0 0] 24, box B1 [.int .i64 u.room, .slice au_0 u.list.length cu_0] 24, base w0]) (Sub.cons rfl (Sub.cons rfl (Sub.cons rfl (Sub.cons rfl (Sub.cons rfl (Sub.cons rfl (Sub.cons rfl (Sub.nil _)))))))) (by rfl) ?_
            refine q_block_normal (q_then ?_)
            refine c_region ?_
            refine o_pure (p_move (v := .int .i64 (i2 : Int)) rfl) rfl rfl rfl ?_
            refine o_pure (p_addb (p := (i2 : Int)) (q := 1) rfl rfl (by omega)) rfl rfl rfl ?_
            refine o_pure (p_assign (v := .int .i64 ((i2 : Int) + 1)) rfl) rfl rfl rfl ?_
            refine o_nil ?_
            refine q_round hK23 (i2 + 1, (⟨oc.room, (oc.list ++ [(⟨(u.list[i2]).key, (u.list[i2]).count⟩ : DUse)])⟩ : DUses), a27_8, c27_8, S27_8) ?_ ?_ ?_ ?_
            · clear hK23
              first | exact hI.add hgo (by omega) (by simp_all) (by simp_all) | exact hI.drop hgo (by omega) (by grind)
            · (try dsimp only); omega
            · exact Sub.cons rfl (Sub.cons rfl (Sub.cons rfl (Sub.cons rfl (Sub.cons rfl (Sub.cons rfl (Sub.cons rfl (Sub.nil _)))))))
            · exact fun _ hw => HeapIs.pick hw [1, 2, 3, 4, 5] (by decide) rfl
          · simp only [Bool.and_eq_false_iff, bne_eq_false_iff_eq] at hc26
            refine c_skip ?_
            refine q_block_normal (q_then ?_)
            refine c_region ?_
            refine o_pure (p_move (v := .int .i64 (i2 : Int)) rfl) rfl rfl rfl ?_
            refine o_pure (p_addb (p := (i2 : Int)) (q := 1) rfl rfl (by omega)) rfl rfl rfl ?_
            refine o_pure (p_assign (v := .int .i64 ((i2 : Int) + 1)) rfl) rfl rfl rfl ?_
            refine o_nil ?_
            refine q_round hK23 (i2 + 1, oc, aoc_0, coc_0, Soc_0) ?_ ?_ ?_ ?_
            · clear hK23
              first | exact hI.add hgo (by omega) (by simp_all) (by simp_all) | exact hI.drop hgo (by omega) (by grind)
            · (try dsimp only); omega
            · exact Sub.cons rfl (Sub.cons rfl (Sub.cons rfl (Sub.cons rfl (Sub.cons rfl (Sub.cons rfl (Sub.cons rfl (Sub.nil _)))))))
            · exact fun _ hw => HeapIs.pick hw [0, 1, 2, 3, 4] (by decide) rfl
        · simp only [decide_eq_false_iff_not, Int.not_lt] at hc24
          refine c_exit ?_
          refine q_then_exit (q_then_exit (q_block_exit (q_then ?_)))
          refine c_seq ?_
          refine c_region ?_
          refine o_pure (p_load_agg (i := 0) (vs := [.int .i64 oc.room, .slice aoc_0 oc.list.length coc_0]) rfl rfl sh24 rfl rfl) rfl rfl rfl ?_
          refine o_pure (p_move (v := .bool hit) rfl) rfl rfl rfl ?_
          refine o_pure (p_move (v := .int .i64 ((u.list.getD (Lfu.least u.list) default).key)) rfl) rfl rfl rfl ?_
          refine o_storeN (i := 2) (vs := [.int .i64 oc.room, .slice aoc_0 oc.list.length coc_0]) (cs' := [.int .i64 oc.room, .slice aoc_0 oc.list.length coc_0]) rfl rfl rfl sz24 rfl rfl rfl rfl ?_
          refine o_pure (p_assign (v := .bool hit) rfl) rfl rfl rfl ?_
          refine o_pure (p_assign (v := .int .i64 ((u.list.getD (Lfu.least u.list) default).key)) rfl) rfl rfl rfl ?_
          refine o_nil ?_
          refine q_then ?_
          refine c_ret ?_
          have hd := hI.done hy1 (by omega)
          have hr0 : (oc.room : Int) = ((Lfu.touch u key).1).room := by
            first | (rw [hd]; done) | (rw [← hd]; done) | exact hgo | exact Lfu.ref_is hA (by omega) hy1
          have hr1 : (oc.list : List DUse) = ((Lfu.touch u key).1).list := by
            first | (rw [hd]; done) | (rw [← hd]; done) | exact hgo | exact Lfu.ref_is hA (by omega) hy1
          have hr2 : (hit : Bool) = ((Lfu.touch u key).2.1) := by
            first | (rw [hd]; done) | (rw [← hd]; done) | exact hgo | exact Lfu.ref_is hA (by omega) hy1
          have hr3 : (((u.list.getD (Lfu.least u.list) default).key) : Int) = ((Lfu.touch u key).2.2) := by
            first | (rw [hd]; done) | (rw [← hd]; done) | exact hgo | exact Lfu.ref_is hA (by omega) hy1
          refine q_endM (p := (aoc_0, coc_0)) Soc_0 (rt3 rfl (r_cell (i := 2) rfl rfl sh24 rfl) (r_tmp rfl) (r_tmp rfl)) (i := 4) rfl ?_ ?_ ?_
          · exact (by have hcc := congr (congr (congr (congrArg (fun (y0 : Int) (y1 : List DUse) (y2 : Bool) (y3 : Int) => (.tuple #[.agg #[.int .i64 y0, .slice aoc_0 y1.length coc_0], .bool y2, .int .i64 y3] : Value)) hr0) hr1) hr2) hr3; exact hcc)
          · exact fun w hw => hw.above (i := 4) (j := 1) (by decide) rfl rfl
          · intro w hw; exact Eq.mp (congrArg (fun y => SlO tUse _ w aoc_0 coc_0 y) hr1) ((hw.at (i := 1) rfl).here)
    · simp only [Bool.and_eq_false_iff, Bool.not_eq_false', beq_eq_false_iff_ne, ne_eq] at hc7
      have hA := hI
      have hcb := Lfu.ref_bd hA (by omega) hy1
      have hgo := Lfu.ref_not hA (by omega) hy1 hc7
      refine c_skip ?_
      refine q_then ?_
      refine c_seq ?_
      refine c_seq ?_
      refine c_region ?_
      refine o_pure (p_move (v := .int .i64 count) rfl) rfl rfl rfl ?_
      refine o_pure (p_lt (p := count) (q := 1099511627776) rfl rfl) rfl rfl rfl ?_
      refine o_nil ?_
      refine q_then ?_
      refine c_cond (b := decide (count < 1099511627776)) rfl (fun hc29 => ?_) (fun hc29 => ?_)
      · simp only [decide_eq_true_eq] at hc29
        have hst := Lfu.ref_lt hA (by omega) hy1 hc29
        refine c_region ?_
        refine o_pure (p_move (v := .int .i64 count) rfl) rfl rfl rfl ?_
        refine o_pure (p_addb (p := count) (q := 1) rfl rfl (by omega)) rfl rfl rfl ?_
        refine o_pure (p_assign (v := .int .i64 (count + 1)) rfl) rfl rfl rfl ?_
        refine o_nil ?_
        refine q_then ?_
        refine c_seq ?_
        refine c_region ?_
        refine o_pure (p_fieldAddr (B := B1) (j := 0) (j' := 0) rfl fo24_0 rfl) rfl rfl rfl ?_
        refine o_pure (p_load (i := 1) (v := .int .i64 u.room) rfl rfl sh3 rfl) rfl rfl rfl ?_
        refine o_pure (p_move (v := .int .i64 key) rfl) rfl rfl rfl ?_
        refine o_pure (p_move (v := .int .i64 (count + 1)) rfl) rfl rfl rfl ?_
        refine o_pure (p_build (cells := [.int .i64 key, .int .i64 (count + 1)]) fp42 ze42 rfl rfl) rfl rfl rfl ?_
        refine o_buildSlice (m := 1) (T := tUse) (L := [(⟨key, (count + 1)⟩ : DUse)]) (vs := [.agg #[.int .i64 key, .int .i64 (count + 1)]]) rfl rfl rfl rfl Try.underlying22 sz42 (by decide) ze42 rfl (by decide) rfl (fun S30 a31 => ?_)
        refine o_pure (p_build (cells := [.int .i64 u.room, .slice a31 ([(⟨key, (count + 1)⟩ : DUse)]).length ([(⟨key, (count + 1)⟩ : DUse)].length)]) fp24 ze24 rfl rfl) rfl rfl rfl ?_
        refine o_alloc ze24 rfl (fun B33 => ?_)
        refine o_storeN (i := 0) (vs := [.int .i64 u.room, .slice a31 ([(⟨key, (count + 1)⟩ : DUse)]).length ([(⟨key, (count + 1)⟩ : DUse)].length)]) (cs' := [.int .i64 u.room, .slice a31 ([(⟨key, (count + 1)⟩ : DUse)]).length ([(⟨key, (count + 1)⟩ : DUse)].length)]) rfl rfl rfl sz24 rfl rfl rfl rfl ?_
        refine o_nil ?_
        refine q_then ?_
        refine c_seq ?_
        refine c_seq ?_
        refine c_region ?_
        refine o_pure (p_assign (v := .int .i64 0) rfl) rfl rfl rfl ?_
        refine o_nil ?_
        refine q_then ?_
        refine c_block ?_
        refine c_loop (St := Nat × DUses × Option Addr × Nat × (Nat → Prop))
          (fun ⟨i2, oc, aoc_0, coc_0, Soc_0⟩ => [(1, .int .i64 key), (2, .pointer (some ⟨B1, 0, none⟩)), (4, .pointer (some ⟨B2, 0, none⟩)), (8, .int .i64 (-1)), (9, .bool hit), (11, .pointer (some ⟨B33, 0, none⟩)), (12, .int .i64 (i2 : Int))])
          (fun ⟨i2, oc, aoc_0, coc_0, Soc_0⟩ => [box B33 [.int .i64 oc.room, .slice aoc_0 oc.list.length coc_0] 24, own tUse Soc_0 aoc_0 coc_0 oc.list, box B2 [.int .i64 0, .slice none 0 0] 24, box B1 [.int .i64 u.room, .slice au_0 u.list.length cu_0] 24, base w0])
          (fun ⟨i2, oc, aoc_0, coc_0, Soc_0⟩ => Lfu.OInv u key oc i2)
          (fun ⟨i2, oc, aoc_0, coc_0, Soc_0⟩ => u.list.length - i2)
          (0, (⟨u.room, [(⟨key, (count + 1)⟩ : DUse)]⟩ : DUses), a31, [(⟨key, (count + 1)⟩ : DUse)].length, S30) ?_ (Sub.cons rfl (Sub.cons rfl (Sub.cons rfl (Sub.cons rfl (Sub.cons rfl (Sub.cons rfl (Sub.cons rfl (Sub.nil _)))))))) (fun _ hw => hw) ?_
        · exact Lfu.OInv.start hst
        rintro ⟨i2, oc, aoc_0, coc_0, Soc_0⟩ hI K hK34
        have hle2 := hI.le
        have hol := hI.len
        have hor := hI.room
        show SC _ _ Try.prog 96 w0 _ _ [(1, .int .i64 key), (2, .pointer (some ⟨B1, 0, none⟩)), (4, .pointer (some ⟨B2, 0, none⟩)), (8, .int .i64 (-1)), (9, .bool hit), (11, .pointer (some ⟨B33, 0, none⟩)), (12, .int .i64 (i2 : Int))] [box B33 [.int .i64 oc.room, .slice aoc_0 oc.list.length coc_0] 24, own tUse Soc_0 aoc_0 coc_0 oc.list, box B2 [.int .i64 0, .slice none 0 0] 24, box B1 [.int .i64 u.room, .slice au_0 u.list.length cu_0] 24, base w0]
        refine c_seq ?_
        refine c_seq ?_
        refine c_region ?_
        refine o_pure (p_move (v := .int .i64 (i2 : Int)) rfl) rfl rfl rfl ?_
        refine o_pure (p_fieldAddr (B := B1) (j := 0) (j' := 1) rfl fo24_1 rfl) rfl rfl rfl ?_
        refine o_pure (p_load (i := 3) (v := .slice au_0 u.list.length cu_0) rfl rfl sh22 rfl) rfl rfl rfl ?_
        refine o_pure (p_len_slice (len := u.list.length) rfl rfl Try.underlying22) rfl rfl rfl ?_
        refine o_pure (p_lt (p := (i2 : Int)) (q := (u.list.length : Int)) rfl rfl) rfl rfl rfl ?_
        refine o_nil ?_
        refine q_then ?_
        refine c_cond (b := decide ((i2 : Int) < (u.list.length : Int))) rfl (fun hc35 => ?_) (fun hc35 => ?_)
        · simp only [decide_eq_true_eq] at hc35
          refine c_skip ?_
          refine q_then ?_
          refine c_seq ?_
          refine c_block ?_
          refine c_seq ?_
          refine c_region ?_
          refine o_pure (p_fieldAddr (B := B1) (j := 0) (j' := 1) rfl fo24_1 rfl) rfl rfl rfl ?_
          refine o_pure (p_load (i := 3) (v := .slice au_0 u.list.length cu_0) rfl rfl sh22 rfl) rfl rfl rfl ?_
          refine o_pure (p_move (v := .int .i64 (i2 : Int)) rfl) rfl rfl rfl ?_
          refine o_pure (p_indexAddr (L := u.list) (T := tUse) (i := (i2 : Int)) rfl rfl (rd_base (i := 4) rfl hu_0) Try.underlying22 sz42 (by omega) (by omega)) rfl rfl rfl ?_
          refine o_pure (p_fieldAddrE rfl fo42_0) rfl rfl rfl ?_
          refine o_pure (p_loadF (i := i2) (j := 0) (T := tUse) (L := u.list) (v := .int .i64 ((u.list[i2]).key)) rfl (rd_base (i := 4) rfl hu_0) (by first | assumption | omega) sh3 rfl) rfl rfl rfl ?_
          refine o_pure (p_move (v := .int .i64 key) rfl) rfl rfl rfl ?_
          refine o_pure (p_ne (p := (u.list[i2]).key) (q := key) rfl rfl) rfl rfl rfl ?_
          refine o_pure (p_move (v := .bool ((u.list[i2]).key != key)) rfl) rfl rfl rfl ?_
          refine o_and (p := 82) 9 ((u.list[i2]).key != (-1)) ?_ ?_ ?_
          · intro hb36 hk
            simp only [bne_iff_ne, ne_eq] at hb36
            refine o_unguard 73 rfl rfl ?_
            refine o_pure (p_fieldAddr (B := B1) (j := 0) (j' := 1) rfl fo24_1 rfl) rfl rfl rfl ?_
            refine o_unguard 73 rfl rfl ?_
            refine o_pure (p_load (i := 3) (v := .slice au_0 u.list.length cu_0) rfl rfl sh22 rfl) rfl rfl rfl ?_
            refine o_unguard 73 rfl rfl ?_
            refine o_pure (p_move (v := .int .i64 (i2 : Int)) rfl) rfl rfl rfl ?_
            refine o_unguard 73 rfl rfl ?_
            refine o_pure (p_indexAddr (L := u.list) (T := tUse) (i := (i2 : Int)) rfl rfl (rd_base (i := 4) rfl hu_0) Try.underlying22 sz42 (by omega) (by omega)) rfl rfl rfl ?_
            refine o_unguard 73 rfl rfl ?_
            refine o_pure (p_fieldAddrE rfl fo42_0) rfl rfl rfl ?_
            refine o_unguard 73 rfl rfl ?_
            refine o_pure (p_loadF (i := i2) (j := 0) (T := tUse) (L := u.list) (v := .int .i64 ((u.list[i2]).key)) rfl (rd_base (i := 4) rfl hu_0) (by first | assumption | omega) sh3 rfl) rfl rfl rfl ?_
            refine o_unguard 73 rfl rfl ?_
            refine o_pure (p_move (v := .int .i64 (-1)) rfl) rfl rfl rfl ?_
            refine o_unguard 73 rfl rfl ?_
            refine o_pure (p_ne (p := (u.list[i2]).key) (q := (-1)) rfl rfl) rfl rfl rfl ?_
            refine o_pure (p_pick_true (u := .bool ((u.list[i2]).key != (-1))) rfl rfl) rfl rfl rfl ?_
            exact o_sub (Sub.cons rfl (Sub.skip rfl (Sub.skip rfl (Sub.skip rfl (Sub.skip rfl (Sub.skip rfl (Sub.skip rfl (Sub.skip rfl (Sub.skip rfl (Sub.skip rfl (Sub.skip rfl (Sub.refl _)))))))))))) hk
          · intro hb36 hk
            refine o_guard_no rfl 73 rfl rfl rfl rfl rfl ?_
            refine o_guard_no rfl 73 rfl rfl rfl rfl rfl ?_
            refine o_guard_no rfl 73 rfl rfl rfl rfl rfl ?_
            refine o_guard_no rfl 73 rfl rfl rfl rfl rfl ?_
            refine o_guard_no rfl 73 rfl rfl rfl rfl rfl ?_
            refine o_guard_no rfl 73 rfl rfl rfl rfl rfl ?_
            refine o_guard_no rfl 73 rfl rfl rfl rfl rfl ?_
            refine o_guard_no rfl 73 rfl rfl rfl rfl rfl ?_
            refine o_pure (p_pick_false (v := .bool false) rfl rfl) rfl rfl rfl ?_
            exact o_sub (Sub.cons rfl (Sub.skip rfl (Sub.skip rfl (Sub.skip rfl (Sub.skip rfl (Sub.skip rfl (Sub.skip rfl (Sub.skip rfl (Sub.skip rfl (Sub.skip rfl (Sub.skip rfl (Sub.refl _)))))))))))) hk
          refine o_nil ?_
          refine q_then ?_
          refine c_cond (b := (((u.list[i2]).key != key) && ((u.list[i2]).key != (-1)))) rfl (fun hc37 => ?_) (fun hc37 => ?_)
          · simp only [Bool.and_eq_true, bne_iff_ne, ne_eq] at hc37
            refine c_cut (G := (Nat → Prop) × Option Addr × Option Addr × Nat × (Nat → Prop)) (fun ⟨S38_7, a38_7, a38_8, c38_8, S38_8⟩ => [(1, .int .i64 key), (2, .pointer (some ⟨B1, 0, none⟩)), (4, .pointer (some ⟨B2, 0, none⟩)), (8, .int .i64 (-1)), (9, .bool hit), (11, .pointer (some ⟨B33, 0, none⟩)), (12, .int .i64 (i2 : Int))]) (fun ⟨S38_7, a38_7, a38_8, c38_8, S38_8⟩ => [own tUse S38_7 a38_7 ([(⟨(u.list[i2]).key, (u.list[i2]).count⟩ : DUse)].length) ([(⟨(u.list[i2]).key, (u.list[i2]).count⟩ : DUse)]), box B33 [.int .i64 oc.room, .slice a38_8 (oc.list ++ [(⟨(u.list[i2]).key, (u.list[i2]).count⟩ : DUse)]).length c38_8] 24, own tUse S38_8 a38_8 c38_8 (oc.list ++ [(⟨(u.list[i2]).key, (u.list[i2]).count⟩ : DUse)]), box B2 [.int .i64 0, .slice none 0 0] 24, box B1 [.int .i64 u.room, .slice au_0 u.list.length cu_0] 24, base w0]) (fun K hK39 => ?_) ?_
            · refine c_held hmix [box B2 [.int .i64 0, .slice none 0 0] 24, box B1 [.int .i64 u.room, .slice au_0 u.list.length cu_0] 24, base w0] rfl rfl ?_
              refine h_take (i := 0) (ls := #[true, false, false, false, false, false, false, false, false, false, false]) rfl (by kernel_rfl) (by kernel_rfl) (by kernel_rfl) (fun _ _ _ h => h) (p_fieldAddr (B := B33) (j := 0) (j' := 1) rfl fo24_1 rfl) rfl rfl rfl (fun _ hw => HeapIs.drop hw (List.Sublist.cons _ (List.Sublist.cons _ (List.Sublist.cons_cons _ (List.Sublist.cons_cons _ (List.Sublist.cons_cons _ (List.Sublist.slnil))))))) rfl ?_
              refine h_take (i := 2) (ls := #[true, false, true, false, false, false, false, false, false, false, false]) rfl (by kernel_rfl) (by kernel_rfl) (by kernel_rfl) (fun _ _ _ h => h) (p_fieldAddr (B := B1) (j := 0) (j' := 1) rfl fo24_1 rfl) rfl rfl rfl (fun _ hw => HeapIs.drop hw (List.Sublist.cons _ (List.Sublist.cons _ (List.Sublist.cons_cons _ (List.Sublist.cons_cons _ (List.Sublist.cons_cons _ (List.Sublist.slnil))))))) rfl ?_
              refine h_take (i := 3) (ls := #[true, false, true, true, false, false, false, false, false, false, false]) rfl (by kernel_rfl) (by kernel_rfl) (by kernel_rfl) (fun _ _ _ h => h) (p_load (i := 1) (v := .slice au_0 u.list.length cu_0) rfl rfl sh22 rfl) rfl rfl rfl (fun _ hw => HeapIs.drop hw (List.Sublist.cons _ (List.Sublist.cons _ (List.Sublist.cons_cons _ (List.Sublist.cons_cons _ (List.Sublist.cons_cons _ (List.Sublist.slnil))))))) rfl ?_
              refine h_take (i := 4) (ls := #[true, false, true, true, true, false, false, false, false, false, false]) rfl (by kernel_rfl) (by kernel_rfl) (by kernel_rfl) (fun _ _ _ h => h) (p_move (v := .int .i64 (i2 : Int)) rfl) rfl rfl rfl (fun _ hw => HeapIs.drop hw (List.Sublist.cons _ (List.Sublist.cons _ (List.Sublist.cons_cons _ (List.Sublist.cons_cons _ (List.Sublist.cons_cons _ (List.Sublist.slnil))))))) rfl ?_
              refine h_take (i := 5) (ls := #[true, false, true, true, true, true, false, false, false, false, false]) rfl (by kernel_rfl) (by kernel_rfl) (by kernel_rfl) (fun _ _ _ h => h) (p_indexAddr (L := u.list) (T := tUse) (i := (i2 : Int)) rfl rfl (rd_base (i := 2) rfl hu_0) Try.underlying22 sz42 (by omega) (by omega)) rfl rfl rfl (fun _ hw => HeapIs.drop hw (List.Sublist.cons _ (List.Sublist.cons _ (List.Sublist.cons_cons _ (List.Sublist.cons_cons _ (List.Sublist.cons_cons _ (List.Sublist.slnil))))))) rfl ?_
              refine h_take (i := 6) (ls := #[true, false, true, true, true, true, true, false, false, false, false]) rfl (by kernel_rfl) (by kernel_rfl) (by kernel_rfl) (fun _ _ _ h => h) (p_loadEn (i := i2) (T := tUse) (L := u.list) (vs := [.int .i64 ((u.list[i2]).key), .int .i64 ((u.list[i2]).count)]) rfl (rd_base (i := 2) rfl hu_0) (by first | assumption | omega) sh42 rfl) rfl rfl rfl (fun _ hw => HeapIs.drop hw (List.Sublist.cons _ (List.Sublist.cons _ (List.Sublist.cons_cons _ (List.Sublist.cons_cons _ (List.Sublist.cons_cons _ (List.Sublist.slnil))))))) rfl ?_
              refine h_two (i := 1) (j := 7) (ls := #[true, true, true, true, true, true, true, false, false, false, false]) (ls' := #[true, false, true, true, true, true, true, true, false, false, false]) (by kernel_rfl) rfl rfl rfl rfl ?_ ?_
              · refine o_pure (p_load (i := 0) (v := .slice aoc_0 oc.list.length coc_0) rfl rfl sh22 rfl) rfl rfl rfl ?_
                refine o_nil ?_
                refine h_next (fun _ hw => HeapIs.drop hw (List.Sublist.cons _ (List.Sublist.cons _ (List.Sublist.cons_cons _ (List.Sublist.cons_cons _ (List.Sublist.cons_cons _ (List.Sublist.slnil))))))) ?_
                refine h_one (i := 7) (ls := #[true, true, true, true, true, true, true, true, false, false, false]) (by kernel_rfl) rfl rfl ?_
                refine o_buildSlice (m := 1) (T := tUse) (L := [(⟨(u.list[i2]).key, (u.list[i2]).count⟩ : DUse)]) (vs := [.agg #[.int .i64 ((u.list[i2]).key), .int .i64 ((u.list[i2]).count)]]) rfl rfl rfl rfl Try.underlying22 sz42 (by decide) ze42 rfl (by decide) rfl (fun S38_7 a38_7 => ?_)
                refine o_nil ?_
                refine h_next (fun _ hw => HeapIs.drop hw (List.Sublist.cons _ (List.Sublist.cons _ (List.Sublist.cons _ (List.Sublist.cons_cons _ (List.Sublist.cons_cons _ (List.Sublist.cons_cons _ (List.Sublist.slnil)))))))) ?_
                refine h_one (i := 8) (ls := #[true, true, true, true, true, true, true, true, true, false, false]) (by kernel_rfl) rfl rfl ?_
                refine o_append (i := 2) (L := oc.list) (M := [(⟨(u.list[i2]).key, (u.list[i2]).count⟩ : DUse)]) (T := tUse) rfl rfl rfl (rd_own (i := 0) rfl) Try.underlying22 Try.underlying22 (by intro k h; cases h) el42 (by intro z; simp [tUse, one1]) (by decide) (by first | omega | (simp only [List.length_cons, List.length_nil]; omega) | (simp only [List.length_append, List.length_cons, List.length_nil, List.length_take, List.length_drop]; omega)) rfl (fun a38_8 c38_8 S38_8 => ?_)
                refine o_nil ?_
                refine h_next (fun _ hw => HeapIs.drop hw (List.Sublist.cons _ (List.Sublist.cons _ (List.Sublist.cons _ (List.Sublist.cons_cons _ (List.Sublist.cons_cons _ (List.Sublist.cons_cons _ (List.Sublist.slnil)))))))) ?_
                refine h_take (i := 9) (ls := #[true, true, true, true, true, true, true, true, true, true, false]) rfl (by kernel_rfl) (by kernel_rfl) (by kernel_rfl) (fun _ _ _ h => h) (p_fieldAddr (B := B33) (j := 0) (j' := 1) rfl fo24_1 rfl) rfl rfl rfl (fun _ hw => HeapIs.drop hw (List.Sublist.cons _ (List.Sublist.cons _ (List.Sublist.cons _ (List.Sublist.cons_cons _ (List.Sublist.cons_cons _ (List.Sublist.cons_cons _ (List.Sublist.slnil)))))))) rfl ?_
                refine h_one (i := 10) (ls := #[true, true, true, true, true, true, true, true, true, true, true]) (by kernel_rfl) rfl rfl ?_
                refine o_store (i := 1) (v := .slice a38_8 (oc.list ++ [(⟨(u.list[i2]).key, (u.list[i2]).count⟩ : DUse)]).length c38_8) (cs' := [.int .i64 oc.room, .slice a38_8 (oc.list ++ [(⟨(u.list[i2]).key, (u.list[i2]).count⟩ : DUse)]).length c38_8]) rfl rfl rfl sz22 rfl rfl rfl ?_
                refine o_nil ?_
                refine h_next (fun _ hw => HeapIs.drop hw (List.Sublist.cons _ (List.Sublist.cons _ (List.Sublist.cons _ (List.Sublist.cons_cons _ (List.Sublist.cons_cons _ (List.Sublist.cons_cons _ (List.Sublist.slnil)))))))) ?_
                refine h_done (by kernel_rfl) ?_
                refine q_kont hK39 (S38_7, a38_7, a38_8, c38_8, S38_8) (Sub.cons rfl (Sub.cons rfl (Sub.cons rfl (Sub.cons rfl (Sub.cons rfl (Sub.cons rfl (Sub.cons rfl (Sub.nil _)))))))) (fun _ hw => HeapIs.pick hw [0, 1, 2, 3, 4, 5] (by decide) rfl)
              · refine o_buildSlice (m := 1) (T := tUse) (L := [(⟨(u.list[i2]).key, (u.list[i2]).count⟩ : DUse)]) (vs := [.agg #[.int .i64 ((u.list[i2]).key), .int .i64 ((u.list[i2]).count)]]) rfl rfl rfl rfl Try.underlying22 sz42 (by decide) ze42 rfl (by decide) rfl (fun S38_7 a38_7 => ?_)
                refine o_nil ?_
                refine h_next (fun _ hw => HeapIs.drop hw (List.Sublist.cons _ (List.Sublist.cons _ (List.Sublist.cons _ (List.Sublist.cons_cons _ (List.Sublist.cons_cons _ (List.Sublist.cons_cons _ (List.Sublist.slnil)))))))) ?_
                refine h_one (i := 1) (ls := #[true, true, true, true, true, true, true, true, false, false, false]) (by kernel_rfl) rfl rfl ?_
                refine o_pure (p_load (i := 1) (v := .slice aoc_0 oc.list.length coc_0) rfl rfl sh22 rfl) rfl rfl rfl ?_
                refine o_nil ?_
                refine h_next (fun _ hw => HeapIs.drop hw (List.Sublist.cons _ (List.Sublist.cons _ (List.Sublist.cons _ (List.Sublist.cons_cons _ (List.Sublist.cons_cons _ (List.Sublist.cons_cons _ (List.Sublist.slnil)))))))) ?_
                refine h_one (i := 8) (ls := #[true, true, true, true, true, true, true, true, true, false, false]) (by kernel_rfl) rfl rfl ?_
                refine o_append (i := 2) (L := oc.list) (M := [(⟨(u.list[i2]).key, (u.list[i2]).count⟩ : DUse)]) (T := tUse) rfl rfl rfl (rd_own (i := 0) rfl) Try.underlying22 Try.underlying22 (by intro k h; cases h) el42 (by intro z; simp [tUse, one1]) (by decide) (by first | omega | (simp only [List.length_cons, List.length_nil]; omega) | (simp only [List.length_append, List.length_cons, List.length_nil, List.length_take, List.length_drop]; omega)) rfl (fun a38_8 c38_8 S38_8 => ?_)
                refine o_nil ?_
                refine h_next (fun _ hw => HeapIs.drop hw (List.Sublist.cons _ (List.Sublist.cons _ (List.Sublist.cons _ (List.Sublist.cons_cons _ (List.Sublist.cons_cons _ (List.Sublist.cons_cons _ (List.Sublist.slnil)))))))) ?_
                refine h_take (i := 9) (ls := #[true, true, true, true, true, true, true, true, true, true, false]) rfl (by kernel_rfl) (by kernel_rfl) (by kernel_rfl) (fun _ _ _ h => h) (p_fieldAddr (B := B33) (j := 0) (j' := 1) rfl fo24_1 rfl) rfl rfl rfl (fun _ hw => HeapIs.drop hw (List.Sublist.cons _ (List.Sublist.cons _ (List.Sublist.cons _ (List.Sublist.cons_cons _ (List.Sublist.cons_cons _ (List.Sublist.cons_cons _ (List.Sublist.slnil)))))))) rfl ?_
                refine h_one (i := 10) (ls := #[true, true, true, true, true, true, true, true, true, true, true]) (by kernel_rfl) rfl rfl ?_
                refine o_store (i := 1) (v := .slice a38_8 (oc.list ++ [(⟨(u.list[i2]).key, (u.list[i2]).count⟩ : DUse)]).length c38_8) (cs' := [.int .i64 oc.room, .slice a38_8 (oc.list ++ [(⟨(u.list[i2]).key, (u.list[i2]).count⟩ : DUse)]).length c38_8]) rfl rfl rfl sz22 rfl rfl rfl ?_
                refine o_nil ?_
                refine h_next (fun _ hw => HeapIs.drop hw (List.Sublist.cons _ (List.Sublist.cons _ (List.Sublist.cons _ (List.Sublist.cons_cons _ (List.Sublist.cons_cons _ (List.Sublist.cons_cons _ (List.Sublist.slnil)))))))) ?_
                refine h_done (by kernel_rfl) ?_
                refine q_kont hK39 (S38_7, a38_7, a38_8, c38_8, S38_8) (Sub.cons rfl (Sub.cons rfl (Sub.cons rfl (Sub.cons rfl (Sub.cons rfl (Sub.cons rfl (Sub.cons rfl (Sub.nil _)))))))) (fun _ hw => HeapIs.pick hw [0, 1, 2, 3, 4, 5] (by decide) rfl)
            rintro ⟨S38_7, a38_7, a38_8, c38_8, S38_8⟩
            show SQ _ 96 w0 _ _ [(1, .int .i64 key), (2, .pointer (some ⟨B1, 0, none⟩)), (4, .pointer (some ⟨B2, 0, none⟩)), (8, .int .i64 (-1)), (9, .bool hit), (11, .pointer (some ⟨B33, 0, none⟩)), (12, .int .i64 (i2 : Int))] [own tUse S38_7 a38_7 ([(⟨(u.list[i2]).key, (u.list[i2]).count⟩ : DUse)].length) ([(⟨(u.list[i2]).key, (u.list[i2]).count⟩ : DUse)]), box B33 [.int .i64 oc.room, .slice a38_8 (oc.list ++ [(⟨(u.list[i2]).key, (u.list[i2]).count⟩ : DUse)]).length c38_8] 24, own tUse S38_8 a38_8 c38_8 (oc.list ++ [(⟨(u.list[i2]).key, (u.list[i2]).count⟩ : DUse)]), box B2 [.int .i64 0, .slice none 0 0] 24, box B1 [.int .i64 u.room, .slice au_0 u.list.length cu_0] 24, base w0]
            refine q_cast (F' := [(1, .int .i64 key), (2, .pointer (some ⟨B1, 0, none⟩)), (4, .pointer (some ⟨B2, 0, none⟩)), (8, .int .i64 (-1)), (9, .bool hit), (11, .pointer (some ⟨B33, 0, none⟩)), (12, .int .i64 (i2 : Int))]) (H := [own tUse S38_7 a38_7 ([(⟨(u.list[i2]).key, (u.list[i2]).count⟩ : DUse)].length) ([(⟨(u.list[i2]).key, (u.list[i2]).count⟩ : DUse)]), box B33 [.int .i64 oc.room, .slice a38_8 (oc.list ++ [(⟨(u.list[i2]).key, (u.list[i2]).count⟩ : DUse)]).length c38_8] 24, own tUse S38_8 a38_8 c38_8 (oc.list ++ [(⟨(u.list[i2]).key, (u.list[i2]).count⟩ : DUse)]), box B2 [.int .i64 0, .slice none 0 0] 24, box B1 [.int .i64 u.room, .slice au_0 u.list.length cu_0] 24, base w0]) (H' := [own tUse S38_7 a38_7 ([(⟨(u.list[i2]).key, (u.list[i2]).count⟩ : DUse)].length) ([(⟨(u.list[i2]).key, (u.list[i2]).count⟩ : DUse)]), box B33 [.int .i64 oc.room, .slice a38_8 (oc.list ++ [(⟨(u.list[i2]).key, (u.list[i2]).count⟩ : DUse)]).length c38_8] 24, own tUse S38_8 a38_8 c38_8 (oc.list ++ [(⟨(u.list[i2]).key, (u.list[i2]).count⟩ : DUse)]), box B2 [.int .i64 0, .slice none 0 0] 24, box B1 [.int .i64 u.room, .slice au_0 u.list.length cu_0] 24, base w0]) (Sub.cons rfl (Sub.cons rfl (Sub.cons rfl (Sub.cons rfl (Sub.cons rfl (Sub.cons rfl (Sub.cons rfl (Sub.nil _)))))))) (by rfl) ?_
            refine q_block_normal (q_then ?_)
            refine c_region ?_
            refine o_pure (p_move (v := .int .i64 (i2 : Int)) rfl) rfl rfl rfl ?_
            refine o_pure (p_addb (p := (i2 : Int)) (q := 1) rfl rfl (by omega)) rfl rfl rfl ?_
            refine o_pure (p_assign (v := .int .i64 ((i2 : Int) + 1)) rfl) rfl rfl rfl ?_
            refine o_nil ?_
            refine q_round hK34 (i2 + 1, (⟨oc.room, (oc.list ++ [(⟨(u.list[i2]).key, (u.list[i2]).count⟩ : DUse)])⟩ : DUses), a38_8, c38_8, S38_8) ?_ ?_ ?_ ?_
            · clear hK34
              first | exact hI.add hgo (by omega) (by simp_all) (by simp_all) | exact hI.drop hgo (by omega) (by grind)
            · (try dsimp only); omega
            · exact Sub.cons rfl (Sub.cons rfl (Sub.cons rfl (Sub.cons rfl (Sub.cons rfl (Sub.cons rfl (Sub.cons rfl (Sub.nil _)))))))
            · exact fun _ hw => HeapIs.pick hw [1, 2, 3, 4, 5] (by decide) rfl
          · simp only [Bool.and_eq_false_iff, bne_eq_false_iff_eq] at hc37
            refine c_skip ?_
            refine q_block_normal (q_then ?_)
            refine c_region ?_
            refine o_pure (p_move (v := .int .i64 (i2 : Int)) rfl) rfl rfl rfl ?_
            refine o_pure (p_addb (p := (i2 : Int)) (q := 1) rfl rfl (by omega)) rfl rfl rfl ?_
            refine o_pure (p_assign (v := .int .i64 ((i2 : Int) + 1)) rfl) rfl rfl rfl ?_
            refine o_nil ?_
            refine q_round hK34 (i2 + 1, oc, aoc_0, coc_0, Soc_0) ?_ ?_ ?_ ?_
            · clear hK34
              first | exact hI.add hgo (by omega) (by simp_all) (by simp_all) | exact hI.drop hgo (by omega) (by grind)
            · (try dsimp only); omega
            · exact Sub.cons rfl (Sub.cons rfl (Sub.cons rfl (Sub.cons rfl (Sub.cons rfl (Sub.cons rfl (Sub.cons rfl (Sub.nil _)))))))
            · exact fun _ hw => HeapIs.pick hw [0, 1, 2, 3, 4] (by decide) rfl
        · simp only [decide_eq_false_iff_not, Int.not_lt] at hc35
          refine c_exit ?_
          refine q_then_exit (q_then_exit (q_block_exit (q_then ?_)))
          refine c_seq ?_
          refine c_region ?_
          refine o_pure (p_load_agg (i := 0) (vs := [.int .i64 oc.room, .slice aoc_0 oc.list.length coc_0]) rfl rfl sh24 rfl rfl) rfl rfl rfl ?_
          refine o_pure (p_move (v := .bool hit) rfl) rfl rfl rfl ?_
          refine o_pure (p_move (v := .int .i64 (-1)) rfl) rfl rfl rfl ?_
          refine o_storeN (i := 2) (vs := [.int .i64 oc.room, .slice aoc_0 oc.list.length coc_0]) (cs' := [.int .i64 oc.room, .slice aoc_0 oc.list.length coc_0]) rfl rfl rfl sz24 rfl rfl rfl rfl ?_
          refine o_pure (p_assign (v := .bool hit) rfl) rfl rfl rfl ?_
          refine o_pure (p_assign (v := .int .i64 (-1)) rfl) rfl rfl rfl ?_
          refine o_nil ?_
          refine q_then ?_
          refine c_ret ?_
          have hd := hI.done hy1 (by omega)
          have hr0 : (oc.room : Int) = ((Lfu.touch u key).1).room := by
            first | (rw [hd]; done) | (rw [← hd]; done) | exact hgo | exact Lfu.ref_is hA (by omega) hy1
          have hr1 : (oc.list : List DUse) = ((Lfu.touch u key).1).list := by
            first | (rw [hd]; done) | (rw [← hd]; done) | exact hgo | exact Lfu.ref_is hA (by omega) hy1
          have hr2 : (hit : Bool) = ((Lfu.touch u key).2.1) := by
            first | (rw [hd]; done) | (rw [← hd]; done) | exact hgo | exact Lfu.ref_is hA (by omega) hy1
          have hr3 : ((-1) : Int) = ((Lfu.touch u key).2.2) := by
            first | (rw [hd]; done) | (rw [← hd]; done) | exact hgo | exact Lfu.ref_is hA (by omega) hy1
          refine q_endM (p := (aoc_0, coc_0)) Soc_0 (rt3 rfl (r_cell (i := 2) rfl rfl sh24 rfl) (r_tmp rfl) (r_tmp rfl)) (i := 4) rfl ?_ ?_ ?_
          · exact (by have hcc := congr (congr (congr (congrArg (fun (y0 : Int) (y1 : List DUse) (y2 : Bool) (y3 : Int) => (.tuple #[.agg #[.int .i64 y0, .slice aoc_0 y1.length coc_0], .bool y2, .int .i64 y3] : Value)) hr0) hr1) hr2) hr3; exact hcc)
          · exact fun w hw => hw.above (i := 4) (j := 1) (by decide) rfl rfl
          · intro w hw; exact Eq.mp (congrArg (fun y => SlO tUse _ w aoc_0 coc_0 y) hr1) ((hw.at (i := 1) rfl).here)
      · simp only [decide_eq_false_iff_not, Int.not_lt] at hc29
        have hst := Lfu.ref_ge hA (by omega) hy1 hc29
        refine c_skip ?_
        refine q_then ?_
        refine c_seq ?_
        refine c_region ?_
        refine o_pure (p_fieldAddr (B := B1) (j := 0) (j' := 0) rfl fo24_0 rfl) rfl rfl rfl ?_
        refine o_pure (p_load (i := 1) (v := .int .i64 u.room) rfl rfl sh3 rfl) rfl rfl rfl ?_
        refine o_pure (p_move (v := .int .i64 key) rfl) rfl rfl rfl ?_
        refine o_pure (p_move (v := .int .i64 count) rfl) rfl rfl rfl ?_
        refine o_pure (p_build (cells := [.int .i64 key, .int .i64 count]) fp42 ze42 rfl rfl) rfl rfl rfl ?_
        refine o_buildSlice (m := 1) (T := tUse) (L := [(⟨key, count⟩ : DUse)]) (vs := [.agg #[.int .i64 key, .int .i64 count]]) rfl rfl rfl rfl Try.underlying22 sz42 (by decide) ze42 rfl (by decide) rfl (fun S40 a41 => ?_)
        refine o_pure (p_build (cells := [.int .i64 u.room, .slice a41 ([(⟨key, count⟩ : DUse)]).length ([(⟨key, count⟩ : DUse)].length)]) fp24 ze24 rfl rfl) rfl rfl rfl ?_
        refine o_alloc ze24 rfl (fun B43 => ?_)
        refine o_storeN (i := 0) (vs := [.int .i64 u.room, .slice a41 ([(⟨key, count⟩ : DUse)]).length ([(⟨key, count⟩ : DUse)].length)]) (cs' := [.int .i64 u.room, .slice a41 ([(⟨key, count⟩ : DUse)]).length ([(⟨key, count⟩ : DUse)].length)]) rfl rfl rfl sz24 rfl rfl rfl rfl ?_
        refine o_nil ?_
        refine q_then ?_
        refine c_seq ?_
        refine c_seq ?_
        refine c_region ?_
        refine o_pure (p_assign (v := .int .i64 0) rfl) rfl rfl rfl ?_
        refine o_nil ?_
        refine q_then ?_
        refine c_block ?_
        refine c_loop (St := Nat × DUses × Option Addr × Nat × (Nat → Prop))
          (fun ⟨i2, oc, aoc_0, coc_0, Soc_0⟩ => [(1, .int .i64 key), (2, .pointer (some ⟨B1, 0, none⟩)), (4, .pointer (some ⟨B2, 0, none⟩)), (8, .int .i64 (-1)), (9, .bool hit), (11, .pointer (some ⟨B43, 0, none⟩)), (12, .int .i64 (i2 : Int))])
          (fun ⟨i2, oc, aoc_0, coc_0, Soc_0⟩ => [box B43 [.int .i64 oc.room, .slice aoc_0 oc.list.length coc_0] 24, own tUse Soc_0 aoc_0 coc_0 oc.list, box B2 [.int .i64 0, .slice none 0 0] 24, box B1 [.int .i64 u.room, .slice au_0 u.list.length cu_0] 24, base w0])
          (fun ⟨i2, oc, aoc_0, coc_0, Soc_0⟩ => Lfu.OInv u key oc i2)
          (fun ⟨i2, oc, aoc_0, coc_0, Soc_0⟩ => u.list.length - i2)
          (0, (⟨u.room, [(⟨key, count⟩ : DUse)]⟩ : DUses), a41, [(⟨key, count⟩ : DUse)].length, S40) ?_ (Sub.cons rfl (Sub.cons rfl (Sub.cons rfl (Sub.cons rfl (Sub.cons rfl (Sub.cons rfl (Sub.cons rfl (Sub.nil _)))))))) (fun _ hw => hw) ?_
        · exact Lfu.OInv.start hst
        rintro ⟨i2, oc, aoc_0, coc_0, Soc_0⟩ hI K hK44
        have hle2 := hI.le
        have hol := hI.len
        have hor := hI.room
        show SC _ _ Try.prog 96 w0 _ _ [(1, .int .i64 key), (2, .pointer (some ⟨B1, 0, none⟩)), (4, .pointer (some ⟨B2, 0, none⟩)), (8, .int .i64 (-1)), (9, .bool hit), (11, .pointer (some ⟨B43, 0, none⟩)), (12, .int .i64 (i2 : Int))] [box B43 [.int .i64 oc.room, .slice aoc_0 oc.list.length coc_0] 24, own tUse Soc_0 aoc_0 coc_0 oc.list, box B2 [.int .i64 0, .slice none 0 0] 24, box B1 [.int .i64 u.room, .slice au_0 u.list.length cu_0] 24, base w0]
        refine c_seq ?_
        refine c_seq ?_
        refine c_region ?_
        refine o_pure (p_move (v := .int .i64 (i2 : Int)) rfl) rfl rfl rfl ?_
        refine o_pure (p_fieldAddr (B := B1) (j := 0) (j' := 1) rfl fo24_1 rfl) rfl rfl rfl ?_
        refine o_pure (p_load (i := 3) (v := .slice au_0 u.list.length cu_0) rfl rfl sh22 rfl) rfl rfl rfl ?_
        refine o_pure (p_len_slice (len := u.list.length) rfl rfl Try.underlying22) rfl rfl rfl ?_
        refine o_pure (p_lt (p := (i2 : Int)) (q := (u.list.length : Int)) rfl rfl) rfl rfl rfl ?_
        refine o_nil ?_
        refine q_then ?_
        refine c_cond (b := decide ((i2 : Int) < (u.list.length : Int))) rfl (fun hc45 => ?_) (fun hc45 => ?_)
        · simp only [decide_eq_true_eq] at hc45
          refine c_skip ?_
          refine q_then ?_
          refine c_seq ?_
          refine c_block ?_
          refine c_seq ?_
          refine c_region ?_
          refine o_pure (p_fieldAddr (B := B1) (j := 0) (j' := 1) rfl fo24_1 rfl) rfl rfl rfl ?_
          refine o_pure (p_load (i := 3) (v := .slice au_0 u.list.length cu_0) rfl rfl sh22 rfl) rfl rfl rfl ?_
          refine o_pure (p_move (v := .int .i64 (i2 : Int)) rfl) rfl rfl rfl ?_
          refine o_pure (p_indexAddr (L := u.list) (T := tUse) (i := (i2 : Int)) rfl rfl (rd_base (i := 4) rfl hu_0) Try.underlying22 sz42 (by omega) (by omega)) rfl rfl rfl ?_
          refine o_pure (p_fieldAddrE rfl fo42_0) rfl rfl rfl ?_
          refine o_pure (p_loadF (i := i2) (j := 0) (T := tUse) (L := u.list) (v := .int .i64 ((u.list[i2]).key)) rfl (rd_base (i := 4) rfl hu_0) (by first | assumption | omega) sh3 rfl) rfl rfl rfl ?_
          refine o_pure (p_move (v := .int .i64 key) rfl) rfl rfl rfl ?_
          refine o_pure (p_ne (p := (u.list[i2]).key) (q := key) rfl rfl) rfl rfl rfl ?_
          refine o_pure (p_move (v := .bool ((u.list[i2]).key != key)) rfl) rfl rfl rfl ?_
          refine o_and (p := 82) 9 ((u.list[i2]).key != (-1)) ?_ ?_ ?_
          · intro hb46 hk
            simp only [bne_iff_ne, ne_eq] at hb46
            refine o_unguard 73 rfl rfl ?_
            refine o_pure (p_fieldAddr (B := B1) (j := 0) (j' := 1) rfl fo24_1 rfl) rfl rfl rfl ?_
            refine o_unguard 73 rfl rfl ?_
            refine o_pure (p_load (i := 3) (v := .slice au_0 u.list.length cu_0) rfl rfl sh22 rfl) rfl rfl rfl ?_
            refine o_unguard 73 rfl rfl ?_
            refine o_pure (p_move (v := .int .i64 (i2 : Int)) rfl) rfl rfl rfl ?_
            refine o_unguard 73 rfl rfl ?_
            refine o_pure (p_indexAddr (L := u.list) (T := tUse) (i := (i2 : Int)) rfl rfl (rd_base (i := 4) rfl hu_0) Try.underlying22 sz42 (by omega) (by omega)) rfl rfl rfl ?_
            refine o_unguard 73 rfl rfl ?_
            refine o_pure (p_fieldAddrE rfl fo42_0) rfl rfl rfl ?_
            refine o_unguard 73 rfl rfl ?_
            refine o_pure (p_loadF (i := i2) (j := 0) (T := tUse) (L := u.list) (v := .int .i64 ((u.list[i2]).key)) rfl (rd_base (i := 4) rfl hu_0) (by first | assumption | omega) sh3 rfl) rfl rfl rfl ?_
            refine o_unguard 73 rfl rfl ?_
            refine o_pure (p_move (v := .int .i64 (-1)) rfl) rfl rfl rfl ?_
            refine o_unguard 73 rfl rfl ?_
            refine o_pure (p_ne (p := (u.list[i2]).key) (q := (-1)) rfl rfl) rfl rfl rfl ?_
            refine o_pure (p_pick_true (u := .bool ((u.list[i2]).key != (-1))) rfl rfl) rfl rfl rfl ?_
            exact o_sub (Sub.cons rfl (Sub.skip rfl (Sub.skip rfl (Sub.skip rfl (Sub.skip rfl (Sub.skip rfl (Sub.skip rfl (Sub.skip rfl (Sub.skip rfl (Sub.skip rfl (Sub.skip rfl (Sub.refl _)))))))))))) hk
          · intro hb46 hk
            refine o_guard_no rfl 73 rfl rfl rfl rfl rfl ?_
            refine o_guard_no rfl 73 rfl rfl rfl rfl rfl ?_
            refine o_guard_no rfl 73 rfl rfl rfl rfl rfl ?_
            refine o_guard_no rfl 73 rfl rfl rfl rfl rfl ?_
            refine o_guard_no rfl 73 rfl rfl rfl rfl rfl ?_
            refine o_guard_no rfl 73 rfl rfl rfl rfl rfl ?_
            refine o_guard_no rfl 73 rfl rfl rfl rfl rfl ?_
            refine o_guard_no rfl 73 rfl rfl rfl rfl rfl ?_
            refine o_pure (p_pick_false (v := .bool false) rfl rfl) rfl rfl rfl ?_
            exact o_sub (Sub.cons rfl (Sub.skip rfl (Sub.skip rfl (Sub.skip rfl (Sub.skip rfl (Sub.skip rfl (Sub.skip rfl (Sub.skip rfl (Sub.skip rfl (Sub.skip rfl (Sub.skip rfl (Sub.refl _)))))))))))) hk
          refine o_nil ?_
          refine q_then ?_
          refine c_cond (b := (((u.list[i2]).key != key) && ((u.list[i2]).key != (-1)))) rfl (fun hc47 => ?_) (fun hc47 => ?_)
          · simp only [Bool.and_eq_true, bne_iff_ne, ne_eq] at hc47
            refine c_cut (G := (Nat → Prop) × Option Addr × Option Addr × Nat × (Nat → Prop)) (fun ⟨S48_7, a48_7, a48_8, c48_8, S48_8⟩ => [(1, .int .i64 key), (2, .pointer (some ⟨B1, 0, none⟩)), (4, .pointer (some ⟨B2, 0, none⟩)), (8, .int .i64 (-1)), (9, .bool hit), (11, .pointer (some ⟨B43, 0, none⟩)), (12, .int .i64 (i2 : Int))]) (fun ⟨S48_7, a48_7, a48_8, c48_8, S48_8⟩ => [own tUse S48_7 a48_7 ([(⟨(u.list[i2]).key, (u.list[i2]).count⟩ : DUse)].length) ([(⟨(u.list[i2]).key, (u.list[i2]).count⟩ : DUse)]), box B43 [.int .i64 oc.room, .slice a48_8 (oc.list ++ [(⟨(u.list[i2]).key, (u.list[i2]).count⟩ : DUse)]).length c48_8] 24, own tUse S48_8 a48_8 c48_8 (oc.list ++ [(⟨(u.list[i2]).key, (u.list[i2]).count⟩ : DUse)]), box B2 [.int .i64 0, .slice none 0 0] 24, box B1 [.int .i64 u.room, .slice au_0 u.list.length cu_0] 24, base w0]) (fun K hK49 => ?_) ?_
            · refine c_held hmix [box B2 [.int .i64 0, .slice none 0 0] 24, box B1 [.int .i64 u.room, .slice au_0 u.list.length cu_0] 24, base w0] rfl rfl ?_
              refine h_take (i := 0) (ls := #[true, false, false, false, false, false, false, false, false, false, false]) rfl (by kernel_rfl) (by kernel_rfl) (by kernel_rfl) (fun _ _ _ h => h) (p_fieldAddr (B := B43) (j := 0) (j' := 1) rfl fo24_1 rfl) rfl rfl rfl (fun _ hw => HeapIs.drop hw (List.Sublist.cons _ (List.Sublist.cons _ (List.Sublist.cons_cons _ (List.Sublist.cons_cons _ (List.Sublist.cons_cons _ (List.Sublist.slnil))))))) rfl ?_
              refine h_take (i := 2) (ls := #[true, false, true, false, false, false, false, false, false, false, false]) rfl (by kernel_rfl) (by kernel_rfl) (by kernel_rfl) (fun _ _ _ h => h) (p_fieldAddr (B := B1) (j := 0) (j' := 1) rfl fo24_1 rfl) rfl rfl rfl (fun _ hw => HeapIs.drop hw (List.Sublist.cons _ (List.Sublist.cons _ (List.Sublist.cons_cons _ (List.Sublist.cons_cons _ (List.Sublist.cons_cons _ (List.Sublist.slnil))))))) rfl ?_
              refine h_take (i := 3) (ls := #[true, false, true, true, false, false, false, false, false, false, false]) rfl (by kernel_rfl) (by kernel_rfl) (by kernel_rfl) (fun _ _ _ h => h) (p_load (i := 1) (v := .slice au_0 u.list.length cu_0) rfl rfl sh22 rfl) rfl rfl rfl (fun _ hw => HeapIs.drop hw (List.Sublist.cons _ (List.Sublist.cons _ (List.Sublist.cons_cons _ (List.Sublist.cons_cons _ (List.Sublist.cons_cons _ (List.Sublist.slnil))))))) rfl ?_
              refine h_take (i := 4) (ls := #[true, false, true, true, true, false, false, false, false, false, false]) rfl (by kernel_rfl) (by kernel_rfl) (by kernel_rfl) (fun _ _ _ h => h) (p_move (v := .int .i64 (i2 : Int)) rfl) rfl rfl rfl (fun _ hw => HeapIs.drop hw (List.Sublist.cons _ (List.Sublist.cons _ (List.Sublist.cons_cons _ (List.Sublist.cons_cons _ (List.Sublist.cons_cons _ (List.Sublist.slnil))))))) rfl ?_
              refine h_take (i := 5) (ls := #[true, false, true, true, true, true, false, false, false, false, false]) rfl (by kernel_rfl) (by kernel_rfl) (by kernel_rfl) (fun _ _ _ h => h) (p_indexAddr (L := u.list) (T := tUse) (i := (i2 : Int)) rfl rfl (rd_base (i := 2) rfl hu_0) Try.underlying22 sz42 (by omega) (by omega)) rfl rfl rfl (fun _ hw => HeapIs.drop hw (List.Sublist.cons _ (List.Sublist.cons _ (List.Sublist.cons_cons _ (List.Sublist.cons_cons _ (List.Sublist.cons_cons _ (List.Sublist.slnil))))))) rfl ?_
              refine h_take (i := 6) (ls := #[true, false, true, true, true, true, true, false, false, false, false]) rfl (by kernel_rfl) (by kernel_rfl) (by kernel_rfl) (fun _ _ _ h => h) (p_loadEn (i := i2) (T := tUse) (L := u.list) (vs := [.int .i64 ((u.list[i2]).key), .int .i64 ((u.list[i2]).count)]) rfl (rd_base (i := 2) rfl hu_0) (by first | assumption | omega) sh42 rfl) rfl rfl rfl (fun _ hw => HeapIs.drop hw (List.Sublist.cons _ (List.Sublist.cons _ (List.Sublist.cons_cons _ (List.Sublist.cons_cons _ (List.Sublist.cons_cons _ (List.Sublist.slnil))))))) rfl ?_
              refine h_two (i := 1) (j := 7) (ls := #[true, true, true, true, true, true, true, false, false, false, false]) (ls' := #[true, false, true, true, true, true, true, true, false, false, false]) (by kernel_rfl) rfl rfl rfl rfl ?_ ?_
              · refine o_pure (p_load (i := 0) (v := .slice aoc_0 oc.list.length coc_0) rfl rfl sh22 rfl) rfl rfl rfl ?_
                refine o_nil ?_
                refine h_next (fun _ hw => HeapIs.drop hw (List.Sublist.cons _ (List.Sublist.cons _ (List.Sublist.cons_cons _ (List.Sublist.cons_cons _ (List.Sublist.cons_cons _ (List.Sublist.slnil))))))) ?_
                refine h_one (i := 7) (ls := #[true, true, true, true, true, true, true, true, false, false, false]) (by kernel_rfl) rfl rfl ?_
                refine o_buildSlice (m := 1) (T := tUse) (L := [(⟨(u.list[i2]).key, (u.list[i2]).count⟩ : DUse)]) (vs := [.agg #[.int .i64 ((u.list[i2]).key), .int .i64 ((u.list[i2]).count)]]) rfl rfl rfl rfl Try.underlying22 sz42 (by decide) ze42 rfl (by decide) rfl (fun S48_7 a48_7 => ?_)
                refine o_nil ?_
                refine h_next (fun _ hw => HeapIs.drop hw (List.Sublist.cons _ (List.Sublist.cons _ (List.Sublist.cons _ (List.Sublist.cons_cons _ (List.Sublist.cons_cons _ (List.Sublist.cons_cons _ (List.Sublist.slnil)))))))) ?_
                refine h_one (i := 8) (ls := #[true, true, true, true, true, true, true, true, true, false, false]) (by kernel_rfl) rfl rfl ?_
                refine o_append (i := 2) (L := oc.list) (M := [(⟨(u.list[i2]).key, (u.list[i2]).count⟩ : DUse)]) (T := tUse) rfl rfl rfl (rd_own (i := 0) rfl) Try.underlying22 Try.underlying22 (by intro k h; cases h) el42 (by intro z; simp [tUse, one1]) (by decide) (by first | omega | (simp only [List.length_cons, List.length_nil]; omega) | (simp only [List.length_append, List.length_cons, List.length_nil, List.length_take, List.length_drop]; omega)) rfl (fun a48_8 c48_8 S48_8 => ?_)
                refine o_nil ?_
                refine h_next (fun _ hw => HeapIs.drop hw (List.Sublist.cons _ (List.Sublist.cons _ (List.Sublist.cons _ (List.Sublist.cons_cons _ (List.Sublist.cons_cons _ (List.Sublist.cons_cons _ (List.Sublist.slnil)))))))) ?_
                refine h_take (i := 9) (ls := #[true, true, true, true, true, true, true, true, true, true, false]) rfl (by kernel_rfl) (by kernel_rfl) (by kernel_rfl) (fun _ _ _ h => h) (p_fieldAddr (B := B43) (j := 0) (j' := 1) rfl fo24_1 rfl) rfl rfl rfl (fun _ hw => HeapIs.drop hw (List.Sublist.cons _ (List.Sublist.cons _ (List.Sublist.cons _ (List.Sublist.cons_cons _ (List.Sublist.cons_cons _ (List.Sublist.cons_cons _ (List.Sublist.slnil)))))))) rfl ?_
                refine h_one (i := 10) (ls := #[true, true, true, true, true, true, true, true, true, true, true]) (by kernel_rfl) rfl rfl ?_
                refine o_store (i := 1) (v := .slice a48_8 (oc.list ++ [(⟨(u.list[i2]).key, (u.list[i2]).count⟩ : DUse)]).length c48_8) (cs' := [.int .i64 oc.room, .slice a48_8 (oc.list ++ [(⟨(u.list[i2]).key, (u.list[i2]).count⟩ : DUse)]).length c48_8]) rfl rfl rfl sz22 rfl rfl rfl ?_
                refine o_nil ?_
                refine h_next (fun _ hw => HeapIs.drop hw (List.Sublist.cons _ (List.Sublist.cons _ (List.Sublist.cons _ (List.Sublist.cons_cons _ (List.Sublist.cons_cons _ (List.Sublist.cons_cons _ (List.Sublist.slnil)))))))) ?_
                refine h_done (by kernel_rfl) ?_
                refine q_kont hK49 (S48_7, a48_7, a48_8, c48_8, S48_8) (Sub.cons rfl (Sub.cons rfl (Sub.cons rfl (Sub.cons rfl (Sub.cons rfl (Sub.cons rfl (Sub.cons rfl (Sub.nil _)))))))) (fun _ hw => HeapIs.pick hw [0, 1, 2, 3, 4, 5] (by decide) rfl)
              · refine o_buildSlice (m := 1) (T := tUse) (L := [(⟨(u.list[i2]).key, (u.list[i2]).count⟩ : DUse)]) (vs := [.agg #[.int .i64 ((u.list[i2]).key), .int .i64 ((u.list[i2]).count)]]) rfl rfl rfl rfl Try.underlying22 sz42 (by decide) ze42 rfl (by decide) rfl (fun S48_7 a48_7 => ?_)
                refine o_nil ?_
                refine h_next (fun _ hw => HeapIs.drop hw (List.Sublist.cons _ (List.Sublist.cons _ (List.Sublist.cons _ (List.Sublist.cons_cons _ (List.Sublist.cons_cons _ (List.Sublist.cons_cons _ (List.Sublist.slnil)))))))) ?_
                refine h_one (i := 1) (ls := #[true, true, true, true, true, true, true, true, false, false, false]) (by kernel_rfl) rfl rfl ?_
                refine o_pure (p_load (i := 1) (v := .slice aoc_0 oc.list.length coc_0) rfl rfl sh22 rfl) rfl rfl rfl ?_
                refine o_nil ?_
                refine h_next (fun _ hw => HeapIs.drop hw (List.Sublist.cons _ (List.Sublist.cons _ (List.Sublist.cons _ (List.Sublist.cons_cons _ (List.Sublist.cons_cons _ (List.Sublist.cons_cons _ (List.Sublist.slnil)))))))) ?_
                refine h_one (i := 8) (ls := #[true, true, true, true, true, true, true, true, true, false, false]) (by kernel_rfl) rfl rfl ?_
                refine o_append (i := 2) (L := oc.list) (M := [(⟨(u.list[i2]).key, (u.list[i2]).count⟩ : DUse)]) (T := tUse) rfl rfl rfl (rd_own (i := 0) rfl) Try.underlying22 Try.underlying22 (by intro k h; cases h) el42 (by intro z; simp [tUse, one1]) (by decide) (by first | omega | (simp only [List.length_cons, List.length_nil]; omega) | (simp only [List.length_append, List.length_cons, List.length_nil, List.length_take, List.length_drop]; omega)) rfl (fun a48_8 c48_8 S48_8 => ?_)
                refine o_nil ?_
                refine h_next (fun _ hw => HeapIs.drop hw (List.Sublist.cons _ (List.Sublist.cons _ (List.Sublist.cons _ (List.Sublist.cons_cons _ (List.Sublist.cons_cons _ (List.Sublist.cons_cons _ (List.Sublist.slnil)))))))) ?_
                refine h_take (i := 9) (ls := #[true, true, true, true, true, true, true, true, true, true, false]) rfl (by kernel_rfl) (by kernel_rfl) (by kernel_rfl) (fun _ _ _ h => h) (p_fieldAddr (B := B43) (j := 0) (j' := 1) rfl fo24_1 rfl) rfl rfl rfl (fun _ hw => HeapIs.drop hw (List.Sublist.cons _ (List.Sublist.cons _ (List.Sublist.cons _ (List.Sublist.cons_cons _ (List.Sublist.cons_cons _ (List.Sublist.cons_cons _ (List.Sublist.slnil)))))))) rfl ?_
                refine h_one (i := 10) (ls := #[true, true, true, true, true, true, true, true, true, true, true]) (by kernel_rfl) rfl rfl ?_
                refine o_store (i := 1) (v := .slice a48_8 (oc.list ++ [(⟨(u.list[i2]).key, (u.list[i2]).count⟩ : DUse)]).length c48_8) (cs' := [.int .i64 oc.room, .slice a48_8 (oc.list ++ [(⟨(u.list[i2]).key, (u.list[i2]).count⟩ : DUse)]).length c48_8]) rfl rfl rfl sz22 rfl rfl rfl ?_
                refine o_nil ?_
                refine h_next (fun _ hw => HeapIs.drop hw (List.Sublist.cons _ (List.Sublist.cons _ (List.Sublist.cons _ (List.Sublist.cons_cons _ (List.Sublist.cons_cons _ (List.Sublist.cons_cons _ (List.Sublist.slnil)))))))) ?_
                refine h_done (by kernel_rfl) ?_
                refine q_kont hK49 (S48_7, a48_7, a48_8, c48_8, S48_8) (Sub.cons rfl (Sub.cons rfl (Sub.cons rfl (Sub.cons rfl (Sub.cons rfl (Sub.cons rfl (Sub.cons rfl (Sub.nil _)))))))) (fun _ hw => HeapIs.pick hw [0, 1, 2, 3, 4, 5] (by decide) rfl)
            rintro ⟨S48_7, a48_7, a48_8, c48_8, S48_8⟩
            show SQ _ 96 w0 _ _ [(1, .int .i64 key), (2, .pointer (some ⟨B1, 0, none⟩)), (4, .pointer (some ⟨B2, 0, none⟩)), (8, .int .i64 (-1)), (9, .bool hit), (11, .pointer (some ⟨B43, 0, none⟩)), (12, .int .i64 (i2 : Int))] [own tUse S48_7 a48_7 ([(⟨(u.list[i2]).key, (u.list[i2]).count⟩ : DUse)].length) ([(⟨(u.list[i2]).key, (u.list[i2]).count⟩ : DUse)]), box B43 [.int .i64 oc.room, .slice a48_8 (oc.list ++ [(⟨(u.list[i2]).key, (u.list[i2]).count⟩ : DUse)]).length c48_8] 24, own tUse S48_8 a48_8 c48_8 (oc.list ++ [(⟨(u.list[i2]).key, (u.list[i2]).count⟩ : DUse)]), box B2 [.int .i64 0, .slice none 0 0] 24, box B1 [.int .i64 u.room, .slice au_0 u.list.length cu_0] 24, base w0]
            refine q_cast (F' := [(1, .int .i64 key), (2, .pointer (some ⟨B1, 0, none⟩)), (4, .pointer (some ⟨B2, 0, none⟩)), (8, .int .i64 (-1)), (9, .bool hit), (11, .pointer (some ⟨B43, 0, none⟩)), (12, .int .i64 (i2 : Int))]) (H := [own tUse S48_7 a48_7 ([(⟨(u.list[i2]).key, (u.list[i2]).count⟩ : DUse)].length) ([(⟨(u.list[i2]).key, (u.list[i2]).count⟩ : DUse)]), box B43 [.int .i64 oc.room, .slice a48_8 (oc.list ++ [(⟨(u.list[i2]).key, (u.list[i2]).count⟩ : DUse)]).length c48_8] 24, own tUse S48_8 a48_8 c48_8 (oc.list ++ [(⟨(u.list[i2]).key, (u.list[i2]).count⟩ : DUse)]), box B2 [.int .i64 0, .slice none 0 0] 24, box B1 [.int .i64 u.room, .slice au_0 u.list.length cu_0] 24, base w0]) (H' := [own tUse S48_7 a48_7 ([(⟨(u.list[i2]).key, (u.list[i2]).count⟩ : DUse)].length) ([(⟨(u.list[i2]).key, (u.list[i2]).count⟩ : DUse)]), box B43 [.int .i64 oc.room, .slice a48_8 (oc.list ++ [(⟨(u.list[i2]).key, (u.list[i2]).count⟩ : DUse)]).length c48_8] 24, own tUse S48_8 a48_8 c48_8 (oc.list ++ [(⟨(u.list[i2]).key, (u.list[i2]).count⟩ : DUse)]), box B2 [.int .i64 0, .slice none 0 0] 24, box B1 [.int .i64 u.room, .slice au_0 u.list.length cu_0] 24, base w0]) (Sub.cons rfl (Sub.cons rfl (Sub.cons rfl (Sub.cons rfl (Sub.cons rfl (Sub.cons rfl (Sub.cons rfl (Sub.nil _)))))))) (by rfl) ?_
            refine q_block_normal (q_then ?_)
            refine c_region ?_
            refine o_pure (p_move (v := .int .i64 (i2 : Int)) rfl) rfl rfl rfl ?_
            refine o_pure (p_addb (p := (i2 : Int)) (q := 1) rfl rfl (by omega)) rfl rfl rfl ?_
            refine o_pure (p_assign (v := .int .i64 ((i2 : Int) + 1)) rfl) rfl rfl rfl ?_
            refine o_nil ?_
            refine q_round hK44 (i2 + 1, (⟨oc.room, (oc.list ++ [(⟨(u.list[i2]).key, (u.list[i2]).count⟩ : DUse)])⟩ : DUses), a48_8, c48_8, S48_8) ?_ ?_ ?_ ?_
            · clear hK44
              first | exact hI.add hgo (by omega) (by simp_all) (by simp_all) | exact hI.drop hgo (by omega) (by grind)
            · (try dsimp only); omega
            · exact Sub.cons rfl (Sub.cons rfl (Sub.cons rfl (Sub.cons rfl (Sub.cons rfl (Sub.cons rfl (Sub.cons rfl (Sub.nil _)))))))
            · exact fun _ hw => HeapIs.pick hw [1, 2, 3, 4, 5] (by decide) rfl
          · simp only [Bool.and_eq_false_iff, bne_eq_false_iff_eq] at hc47
            refine c_skip ?_
            refine q_block_normal (q_then ?_)
            refine c_region ?_
            refine o_pure (p_move (v := .int .i64 (i2 : Int)) rfl) rfl rfl rfl ?_
            refine o_pure (p_addb (p := (i2 : Int)) (q := 1) rfl rfl (by omega)) rfl rfl rfl ?_
            refine o_pure (p_assign (v := .int .i64 ((i2 : Int) + 1)) rfl) rfl rfl rfl ?_
            refine o_nil ?_
            refine q_round hK44 (i2 + 1, oc, aoc_0, coc_0, Soc_0) ?_ ?_ ?_ ?_
            · clear hK44
              first | exact hI.add hgo (by omega) (by simp_all) (by simp_all) | exact hI.drop hgo (by omega) (by grind)
            · (try dsimp only); omega
            · exact Sub.cons rfl (Sub.cons rfl (Sub.cons rfl (Sub.cons rfl (Sub.cons rfl (Sub.cons rfl (Sub.cons rfl (Sub.nil _)))))))
            · exact fun _ hw => HeapIs.pick hw [0, 1, 2, 3, 4] (by decide) rfl
        · simp only [decide_eq_false_iff_not, Int.not_lt] at hc45
          refine c_exit ?_
          refine q_then_exit (q_then_exit (q_block_exit (q_then ?_)))
          refine c_seq ?_
          refine c_region ?_
          refine o_pure (p_load_agg (i := 0) (vs := [.int .i64 oc.room, .slice aoc_0 oc.list.length coc_0]) rfl rfl sh24 rfl rfl) rfl rfl rfl ?_
          refine o_pure (p_move (v := .bool hit) rfl) rfl rfl rfl ?_
          refine o_pure (p_move (v := .int .i64 (-1)) rfl) rfl rfl rfl ?_
          refine o_storeN (i := 2) (vs := [.int .i64 oc.room, .slice aoc_0 oc.list.length coc_0]) (cs' := [.int .i64 oc.room, .slice aoc_0 oc.list.length coc_0]) rfl rfl rfl sz24 rfl rfl rfl rfl ?_
          refine o_pure (p_assign (v := .bool hit) rfl) rfl rfl rfl ?_
          refine o_pure (p_assign (v := .int .i64 (-1)) rfl) rfl rfl rfl ?_
          refine o_nil ?_
          refine q_then ?_
          refine c_ret ?_
          have hd := hI.done hy1 (by omega)
          have hr0 : (oc.room : Int) = ((Lfu.touch u key).1).room := by
            first | (rw [hd]; done) | (rw [← hd]; done) | exact hgo | exact Lfu.ref_is hA (by omega) hy1
          have hr1 : (oc.list : List DUse) = ((Lfu.touch u key).1).list := by
            first | (rw [hd]; done) | (rw [← hd]; done) | exact hgo | exact Lfu.ref_is hA (by omega) hy1
          have hr2 : (hit : Bool) = ((Lfu.touch u key).2.1) := by
            first | (rw [hd]; done) | (rw [← hd]; done) | exact hgo | exact Lfu.ref_is hA (by omega) hy1
          have hr3 : ((-1) : Int) = ((Lfu.touch u key).2.2) := by
            first | (rw [hd]; done) | (rw [← hd]; done) | exact hgo | exact Lfu.ref_is hA (by omega) hy1
          refine q_endM (p := (aoc_0, coc_0)) Soc_0 (rt3 rfl (r_cell (i := 2) rfl rfl sh24 rfl) (r_tmp rfl) (r_tmp rfl)) (i := 4) rfl ?_ ?_ ?_
          · exact (by have hcc := congr (congr (congr (congrArg (fun (y0 : Int) (y1 : List DUse) (y2 : Bool) (y3 : Int) => (.tuple #[.agg #[.int .i64 y0, .slice aoc_0 y1.length coc_0], .bool y2, .int .i64 y3] : Value)) hr0) hr1) hr2) hr3; exact hcc)
          · exact fun w hw => hw.above (i := 4) (j := 1) (by decide) rfl rfl
          · intro w hw; exact Eq.mp (congrArg (fun y => SlO tUse _ w aoc_0 coc_0 y) hr1) ((hw.at (i := 1) rfl).here)
end Go.Proofs.Ytagbihjkdejdjaa
