/- The library's functions on strings: the kit's contracts in the form that the walks here take. -/
import Derived.Test.YtgkihbbeimhmbaaDoorSx31M4
import Derived.Test.YtgkihbbeimhmbaaDoorTrLaw2M6
import Derived.Shelf.Strings.Split
import Derived.Shelf.Strings.SlTrimAscii
import Derived.Shelf.Strconv.Itoa3
import Derived.Shelf.Strconv.Atoi
import Derived.Lib.AtoiErrMem
import Derived.Lib.AppendIntMem
import Derived.Room.Shelf.Join48
import Derived.Shelf.Strings.IndexAnyAll
import Derived.Laws.RangeAny
import Derived.Laws.Runes
import Derived.Shelf.Small.Utf8
import Derived.Handy
import Derived.WalkMore
import Derived.Shelf.RegionOpenPlain
import Derived.Deep.QuietTactic
import Derived.BigQuiet
import Derived.Lib.OthersKept
namespace Go.Sx
open Go.RowKit Go.Shelf Go.Proofs
variable {P : Program} {ρ : Ren}
theorem fn0_trim (L : Lays.n160 P ρ) (h116 : (P.info? (ρ.t 116)).map (fun i => (i.zero, i.size)) = some (some (.agg (Array.replicate 256 (.bool false))), 256)) (s cs : ByteArray) (hy1 : s.size ≤ 9223372036854775807) (hy2 : cs.size < 4294967281 ∧ cs.data.toList.all (fun b => decide (b.toNat < 128)) = true) :
    Fn0 P (ρ.f 160) [.string s, .string cs] (fun _ => True) (.string (Trc.trimT s cs)) := fun w _ =>
  Any.strings_Trim_laid L h116 s cs w hy1 hy2.1 (ascii_of_all hy2.2)
theorem fn0_itoa (L : LaysM.n171 P ρ) (n : Int) (hy1 : 0 ≤ n ∧ n ≤ 9223372036854775807) : Fn0 P (ρ.f 171) [.int .i64 n] (fun w => Lib.TabIs P w "internal/strconv.uint64pow10" .u64 Lib.pow10Tab) (.string (Trc.decS n)) := fun w hw => by
  refine (Any.strconv_Itoa L n (by omega) hy1.2 w hw).mono ?_
  rintro e w' ⟨he, k, os, hw'⟩
  refine ⟨?_, ?_⟩
  · rw [he, Trc.itoa_dec hy1.1]; rfl
  · subst hw'
    exact Lib.below_grow w.heap.size w (Nat.le_refl _) k os
theorem fn0_atoi (L : Lays.n172 P ρ) (s : ByteArray) (hy1 : Trc.numOk s.data.toList) : Fn0 P (ρ.f 172) [.string s] (fun _ => True) (.tuple #[.int .i64 (Trc.num s), .nilIface]) := fun w _ => by
  have hs := Trc.size_len s
  have e : Trc.num s = (Trc.value s.data.toList : Int) := by unfold Trc.num Trc.numL; rw [if_pos hy1]
  refine (Any.strconv_Atoi L s (Trc.num s) (by have := hy1.2.1; omega) (by rw [e]; exact Trc.atoi_all hy1.1 hy1.2.2.2) w).mono ?_
  rintro e2 w' ⟨he, t, hw'⟩
  exact ⟨he, hw' ▸ Lib.bytesWorld_below w _ t⟩
theorem fnM_split (L : Lays.n146 P ρ) (hi9 : (P.info? (ρ.t 9)).map (fun i => (i.zero, i.size, i.bytes)) = some (some (.string ByteArray.empty), 1, 16)) (s : ByteArray) (hy1 : s.size < 4294967281) :
    FnM P (ρ.f 146) [.string s, .string (ByteArray.mk #[32])] (fun w => ∃ m, w.cell? ⟨ρ.g 1, 0, none⟩ = some (.int .i64 m)) (Option Addr × Nat) (fun p => .slice p.1 (Trc.words s).length p.2) (fun p S w => SlO tStr S w p.1 p.2 (Trc.words s)) := fun w ⟨m, hm⟩ => by
  refine (Any.strings_Split L hi9 s (ByteArray.mk #[32]) m w hy1 hm (by decide)).mono ?_
  rintro e w' ⟨he, hw'⟩
  have hl : (Trc.words s).length = Lib.countB s ⟨#[32]⟩ + 1 := by
    rw [← Trc.split_words]; exact Lib.splitB_all ⟨#[32]⟩ (by decide) 0 _ s rfl
  rw [Trc.split_words] at hw'
  refine ⟨(some ⟨w.heap.size, 0, none⟩, (Trc.words s).length), fun b => b = w.heap.size, ?_, ?_, ?_, ?_⟩
  · rw [he, hl]
  · subst hw'; exact (Below.refl _ _).alloc (Nat.le_refl _) _
  · intro b hb; subst hb; subst hw'; refine ⟨Nat.le_refl _, ?_⟩; show _ < (w.heap.push _).size; rw [Array.size_push]; omega
  · subst hw'
    have hh : ∀ o, (w.alloc o).heap[w.heap.size]? = some o := fun o => by show (w.heap.push o)[w.heap.size]? = _; simp
    have hlen : (Trc.words s).length ≤ 140737488355328 := by
      have := Lib.countB_le ⟨#[32]⟩ (by decide) s.size s (Nat.le_refl _)
      rw [hl]; omega
    refine ⟨Nat.le_refl _, hlen, rfl, rfl, ⟨_, _, hh _, by simp [tStr]⟩, fun j hj a ha => ?_⟩
    have ha0 : a = 0 := by have : a < 1 := ha; omega
    subst ha0
    show World.cell? _ _ = some (Value.string (Trc.words s)[j])
    simp only [World.cell?, hh]
    simp [tStr, hj]
theorem fn0_join (L : Lays.n156 P ρ) (X : Builder.Extra P ρ) (l : List ByteArray) (al : Option Addr) (cl : Nat) (sp : ByteArray) (hy1 : (Trc.joinB l sp).size ≤ 140737488355328) :
    Fn0 P (ρ.f 156) [.slice al l.length cl, .string sp] (fun w => Rd tStr w al cl l) (.string (Trc.joinB l sp)) := fun w hw => by
  have hj : (Lib.join (l.map (·.data.toList)) sp.data.toList).length ≤ 140737488355328 := by
    have := hy1; unfold Trc.joinB at this; rwa [Trc.ofL_size] at this
  by_cases h0 : l.length = 0
  · have hl : l = [] := List.eq_nil_of_length_eq_zero h0
    subst hl
    exact (Any.strings_Join_none L X al cl sp w).mono fun e w' ⟨he, hw'⟩ => ⟨he, hw' ▸ Below.refl _ _⟩
  · obtain ⟨h1, h2, h3⟩ := hw
    match al, h3 with
    | none, h3 => have : cl = 0 := h3; omega
    | some ⟨bk, o, spt⟩, ⟨h4, h5⟩ =>
      obtain ⟨q1, q2, _⟩ := h4 (by omega)
      have q1' : spt = none := q1
      subst q1'
      refine Any.strings_Join L X bk o cl l sp w (fun j x hx => ?_) q2 (by omega) h1 hj
      obtain ⟨hj1, hj2⟩ := List.getElem?_eq_some_iff.1 hx
      have hc := h5 j hj1 0 (by decide)
      have e : o + j * tStr.k + 0 = o + j := by show o + j * 1 + 0 = _; omega
      rw [e] at hc
      rw [hc, hj2]; rfl
end Go.Sx

/- strings.IndexAny of the two signs '*' and '-', at whatever bytes. -/
namespace Go.Sx
open Go.RowKit Go.Shelf Go.Proofs Go.Lib
variable {P : Program} {ρ : Ren}
def sgn : ByteArray := ⟨#[42, 45]⟩
theorem sgn_size : sgn.size = 2 := rfl
theorem sgn_get : ∀ (i : Nat) (h : i < sgn.size), (sgn[i]'h).toNat = 42 ∨ (sgn[i]'h).toNat = 45
  | 0, _ => .inl rfl
  | 1, _ => .inr rfl
  | i + 2, h => by rw [sgn_size] at h; omega
set_option maxHeartbeats 4000000 in
set_option maxRecDepth 1000000 in
theorem idxRune_err (L : Lays.n152 P ρ) (w : World) :
    Calls P (ρ.f 152) #[.string sgn, .int .i32 65533] w fun e w' => e = .returned (.int .i64 (-1)) ∧ Below w.heap.size w w' := by
  have t3 := L.t3; have a3 := L.a3; have z3 := L.z3; have v3 := L.v3
  have t4 := L.t4; have a4 := L.a4; have z4 := L.z4; have v4 := L.v4
  have t5 := L.t5; have a5 := L.a5; have z5 := L.z5; have v5 := L.v5
  have t9 := L.t9; have a9 := L.a9; have z9 := L.z9; have v9 := L.v9
  have t21 := L.t21; have a21 := L.a21; have z21 := L.z21; have v21 := L.v21
  go_enter L.f152, Body.n152_ntmps ρ
  go_wp2
  go_loopg [5, 6] 2 (fun g _ _ wx => ∃ i : Nat, i + g = 2 ∧ wx = w.iter sgn i)
  case atStart => exact ⟨0, by omega, rfl⟩
  case round =>
    obtain ⟨i, hig, rfl⟩ := hrel
    cases gk with
    | zero =>
      obtain rfl : i = 2 := by omega
      have hnx := run_next_end (P := P) w sgn 2
      have hs2 : ¬ 2 < sgn.size := by rw [sgn_size]; omega
      go_wp2
      go_ret
      exact ⟨rfl, (Below.refl _ _).alloc (Nat.le_refl _) _⟩
    | succ g =>
      have hi : i < sgn.size := by rw [sgn_size]; omega
      have hx := sgn_get i hi
      have hnx := fun ty => run_next_ascii (P := P) w sgn i ty hi (by omega)
      generalize sgn[i] = x at hx hnx
      have hne : ¬ ((x.toNat : Int) = 65533) := by omega
      go_wp2
      go_roundg g
      case measure => omega
      case rel => exact ⟨i + 1, by omega, rfl⟩
theorem index_sgn {ty : TypeId} (hu : P.underlying ty = some .string) (w : World) : (Instr.index ty (.string sgn) (.int .i64 1)).run P w = .ok (.int .u8 45) w := by
  have e : sgn[1]? = some 45 := rfl
  simp [Instr.index, run_bind, run_underlying hu, asIntOf, e]
theorem sgn_high {b : UInt8} (h : 128 ≤ b.toNat) : Lib.indexByte (sgn.extract 2 sgn.size).data.toList b = -1 := rfl
set_option maxHeartbeats 8000000 in
set_option maxRecDepth 1000000 in
theorem idxRune_high (L : Lays.n152 P ρ) (r : Int) (w : World) (h0 : 128 ≤ r) (h1 : r ≤ 2147483647) (hne : ¬ r = 65533) :
    Calls P (ρ.f 152) #[.string sgn, .int .i32 r] w fun e w' => e = .returned (.int .i64 (-1)) ∧ Below w.heap.size w w' := by
  have mixed := L.mixed
  have t3 := L.t3; have a3 := L.a3; have z3 := L.z3; have v3 := L.v3
  have t4 := L.t4; have a4 := L.a4; have z4 := L.z4; have v4 := L.v4
  have t5 := L.t5; have a5 := L.a5; have z5 := L.z5; have v5 := L.v5
  have t9 := L.t9; have a9 := L.a9; have z9 := L.z9; have v9 := L.v9
  have t21 := L.t21; have a21 := L.a21; have z21 := L.z21; have v21 := L.v21
  have e119 : ∀ args w, (callFunc (ρ.f 119) args).run P w = .ok (.enter (ρ.f 119) args) w := enters_of L.f119 (by kernel_rfl) rfl
  have e137 : ∀ args w, (callFunc (ρ.f 137) args).run P w = .ok (.enter (ρ.f 137) args) w := enters_of L.f137 (by kernel_rfl) rfl
  have hs2 : sgn.size = 2 := sgn_size
  have hz2 : (sgn.size : Int) = 2 := by omega
  have hr0 : (0 : Int) ≤ r := by omega
  have hr1 : ¬ r < 128 := by omega
  have hw2 : IntKind.i64.wrap 2 = 2 := wrap_i64 (by decide)
  have hsl : ∀ w, (Instr.sliceAt (ρ.t 9) (.string sgn) (some (.int .i64 2)) none none).run P w = .ok (.string (sgn.extract 2 sgn.size)) w := fun w => by
    rw [run_sliceAtStr L.t9, run_slice_string_l w _ _ L.t9 .i64 2 (by decide) (by rw [sgn_size]; decide)]; rfl
  have hsl2 : ∀ w, (Instr.slice (ρ.t 9) (.string sgn) (some (.int .i64 2)) none none).run P w = .ok (.string (sgn.extract 2 sgn.size)) w := fun w => by
    rw [run_slice_string_l w _ _ L.t9 .i64 2 (by decide) (by rw [sgn_size]; decide)]; rfl
  go_enter L.f152, Body.n152_ntmps ρ
  go_wp2_with (first
    | (go_at_fn (ρ.f 119); refine (Any.utf8_ValidRune { L with } _ _).mono ?_; rintro e w' ⟨rfl, hw⟩; rw [hw]))
  · go_ret
    exact ⟨rfl, Below.refl _ _⟩
  · have hv : Utf8.valid r = true := by
      have hq : Lib.validRune r = true := by simpa using (by assumption : (!Lib.validRune r) = false)
      have := of_decide_eq_true hq
      unfold Utf8.valid
      simp only [Bool.or_eq_true, Bool.and_eq_true, decide_eq_true_eq]
      omega
    obtain ⟨k1, k2, k3⟩ := encode_facts r hv h0
    have hconv : ∀ w, (convert (ρ.t 21) (ρ.t 9) (.int .i32 r)).run P w = .ok (.string (Utf8.encode r)) w := fun w => run_convert_int_string w _ _ _ _ (by rw [L.t21]; rfl) L.t9
    generalize hrs : Utf8.encode r = rs at k1 k2 k3 hconv
    have kb := k3 (by omega)
    by_cases hsz : rs.size = 2
    · have h9 : 1 < rs.size := by omega
      have hb1 : 128 ≤ (rs[1]'h9).toNat := by have := k3 (by omega); simpa [hsz] using this
      clear kb k3
      generalize hc1 : rs[1]'h9 = c1 at hb1
      have hsi : (rs.size : Int) = 2 := by omega
      go_step3
      go_wp2
      refine wp_loop_rounds 1 ?_
      rw [rounds_succ]
      go_wp2
      go_step3
      clear hconv hrs h0 h1 hne hr0 hr1 hv
      go_step
      go_step
      have hi1 : ∀ w, (Instr.index (ρ.t 9) (.string sgn) (.int .i64 1)).run P w = .ok (.int .u8 45) w := fun w => index_sgn L.t9 w
      go_quiet_o (fail)
      have hbq : Below w.heap.size w (w.drewN nq) := ⟨rfl, rfl, rfl, Nat.le_refl _, fun _ _ => rfl⟩
      generalize w.drewN nq = w1 at hbq ⊢
      go_wp2
      go_quiet_o ((go_at_fn (ρ.f 137); refine Calls.quiet_of_same (Any.strings_IndexByte { L with } _ _ _)))
      have hbq2 : Below w.heap.size w (w1.drewN nq) := hbq.trans ⟨rfl, rfl, rfl, Nat.le_refl _, fun _ _ => rfl⟩
      generalize w1.drewN nq = w2 at hbq2 ⊢
      go_wp2
      simp only [Exit.inBlock, Exit.then, Exit.noGoto]
      go_ret
      exact ⟨rfl, hbq2⟩
    · have hsi : 3 ≤ (rs.size : Int) := by omega
      have hsi4 : (rs.size : Int) ≤ 4 := by omega
      clear kb k3
      go_step3
      go_wp2
      refine wp_loop_rounds 1 ?_
      rw [rounds_succ]
      go_wp2
      simp only [Exit.inBlock, Exit.then, Exit.noGoto]
      go_ret
      exact ⟨rfl, Below.refl _ _⟩
/-! ### strings.IndexAny -/
theorem decode_span (s : ByteArray) (pos : Nat) (h : pos < s.size) (ha : 128 ≤ (s[pos]'h).toNat) : ∀ j, pos < j → j < pos + (Utf8.decode s pos).2 → j < s.size ∧ 128 ≤ (s.get! j).toNat := by
  intro j h1 h2
  have hn : ¬ (s[pos]'h).toNat < 128 := by omega
  have hc : ∀ k, (decide (pos + k < s.size) && (s.get! (pos + k)).toNat / 64 == 2) = true → pos + k < s.size ∧ 128 ≤ (s.get! (pos + k)).toNat := fun k hk => by
    simp only [Bool.and_eq_true, decide_eq_true_eq, beq_iff_eq] at hk
    exact ⟨hk.1, by omega⟩
  simp only [Utf8.decode, get_at s pos h, hn, if_false] at h2
  split at h2
  · rename_i q
    simp only [Bool.and_eq_true] at q
    have q1 := hc 1 (by simp only [Bool.and_eq_true]; exact q.2)
    split at h2
    · have : j = pos + 1 := by simp at h2; omega
      rw [this]; exact q1
    · simp at h2; omega
  · split at h2
    · rename_i q
      simp only [Bool.and_eq_true] at q
      have q1 := hc 1 (by simp only [Bool.and_eq_true]; exact q.1.2)
      have q2 := hc 2 (by simp only [Bool.and_eq_true]; exact q.2)
      split at h2
      · simp at h2
        rcases (show j = pos + 1 ∨ j = pos + 2 by omega) with e | e
        · rw [e]; exact q1
        · rw [e]; exact q2
      · simp at h2; omega
    · split at h2
      · rename_i q
        simp only [Bool.and_eq_true] at q
        have q1 := hc 1 (by simp only [Bool.and_eq_true]; exact q.1.1.2)
        have q2 := hc 2 (by simp only [Bool.and_eq_true]; exact q.1.2)
        have q3 := hc 3 (by simp only [Bool.and_eq_true]; exact q.2)
        split at h2
        · simp at h2
          rcases (show j = pos + 1 ∨ j = pos + 2 ∨ j = pos + 3 by omega) with e | e | e
          · rw [e]; exact q1
          · rw [e]; exact q2
          · rw [e]; exact q3
        · simp at h2; omega
      · simp at h2; omega
/-- the runes that are found -/
def rIdx (r : Int) : Int := if r < 128 then Lib.indexByte sgn.data.toList r.toNat.toUInt8 else -1
theorem idxRune (L : Lays.n152 P ρ) (r : Int) (w : World) (h0 : 0 ≤ r) (h1 : r ≤ 2147483647) :
    Calls P (ρ.f 152) #[.string sgn, .int .i32 r] w fun e w' => e = .returned (.int .i64 (rIdx r)) ∧ Below w.heap.size w w' := by
  unfold rIdx
  by_cases h : r < 128
  · rw [if_pos h]
    exact (Any.strings_IndexRune_ascii L sgn r w h0 h).mono fun e w' ⟨he, hw⟩ => ⟨he, hw ▸ Below.refl _ _⟩
  · rw [if_neg h]
    by_cases he : r = 65533
    · rw [he]; exact idxRune_err L w
    · exact idxRune_high L r w (by omega) h1 he
theorem sgn_mem {x : UInt8} (h : x.toNat < 128) : decide (0 ≤ rIdx (x.toNat : Int)) = sgn.data.toList.contains x := by
  have hb : ((x.toNat : Int)).toNat.toUInt8 = x := by simp
  unfold rIdx
  rw [if_pos (by omega), hb]
  exact (Lib.contains_iff_indexByte sgn.data.toList x).symm
theorem sgn_high2 {r : Int} (h : 128 ≤ r) : rIdx r = -1 := if_neg (by omega)
theorem sgn_not {x : UInt8} (h : 128 ≤ x.toNat) : sgn.data.toList.contains x = false := by
  cases hq : sgn.data.toList.contains x with
  | false => rfl
  | true =>
    have hm : x ∈ [42, 45] := by simpa [sgn] using hq
    simp only [List.mem_cons, List.not_mem_nil, or_false] at hm
    rcases hm with rfl | rfl
    · exact absurd h (by decide)
    · exact absurd h (by decide)
theorem get_get (s : ByteArray) (j : Nat) (h : j < s.size) : s.get! j = s[j]'h := by have := get_at s j h; simpa using this
/-- none of the bytes ahead is a sign -/
theorem noAny_span {s : ByteArray} {pos : Nat} (h : pos < s.size) (ha : 128 ≤ (s[pos]'h).toNat) (hn : Lib.NoAny s.data.toList sgn.data.toList pos) : Lib.NoAny s.data.toList sgn.data.toList (pos + (Utf8.decode s pos).2) := fun j b hj hb => by
  by_cases h1 : j < pos
  · exact hn j b h1 hb
  · have hjs : j < s.size := by rw [Lib.size_eq]; exact (List.getElem?_eq_some_iff.1 hb).1
    have eb : b = s[j]'hjs := by rw [Lib.data_getElem? s j hjs] at hb; cases hb; rfl
    rw [eb]
    apply sgn_not
    by_cases h2 : j = pos
    · subst h2; exact ha
    · have := (decode_span s pos h ha j (by omega) hj).2
      rwa [get_get s j hjs] at this
theorem iter_below (w : World) (s : ByteArray) (p : Nat) : Below w.heap.size w (w.iter s p) := (Below.refl _ _).alloc (Nat.le_refl _) _
set_option maxHeartbeats 8000000 in
set_option maxRecDepth 1000000 in
theorem idxAny_short (L : Lays.n153 P ρ) (s : ByteArray) (w : World) (h8 : s.size ≤ 8) :
    Calls P (ρ.f 153) #[.string s, .string sgn] w fun e w' => e = .returned (.int .i64 (Lib.indexAny s.data.toList sgn.data.toList)) ∧ Below w.heap.size w w' := by
  have hemp : sgn.toList.isEmpty = false := by rw [Lib.toList_data]; rfl
  have hs2 : sgn.size = 2 := rfl
  have h8z : decide ((8 : Int) < (s.size : Int)) = false := decide_eq_false (by omega)
  have mixed := L.mixed
  have t3 := L.t3; have a3 := L.a3; have z3 := L.z3; have v3 := L.v3
  have t4 := L.t4; have a4 := L.a4; have z4 := L.z4; have v4 := L.v4
  have t5 := L.t5; have a5 := L.a5; have z5 := L.z5; have v5 := L.v5
  have t9 := L.t9; have a9 := L.a9; have z9 := L.z9; have v9 := L.v9
  have t21 := L.t21; have a21 := L.a21; have z21 := L.z21; have v21 := L.v21
  have e152 : ∀ args w, (callFunc (ρ.f 152) args).run P w = .ok (.enter (ρ.f 152) args) w := enters_of L.f152 (by kernel_rfl) rfl
  have e226 : ∀ args w, (callFunc (ρ.f 226) args).run P w = .ok (.enter (ρ.f 226) args) w := enters_of L.f226 (by kernel_rfl) rfl
  go_enter L.f153, Body.n153_ntmps ρ
  go_wp2_with (go_at_fn (ρ.f 226); refine (Any.strings_shouldUseASCIISet { L with } _ _).mono ?_; rintro e w' ⟨rfl, hw⟩; rw [hw, h8z])
  go_loopg [9, 10] s.size (fun g _ _ wx => ∃ i : Nat, s.size ≤ i + g ∧ i ≤ s.size ∧ wx.heap[w.heap.size]? = some (.stringIter s i) ∧ Below w.heap.size w wx ∧ Lib.NoAny s.data.toList sgn.data.toList i)
  case atStart => exact ⟨0, by omega, by omega, World.iter_heap _ _ _, iter_below _ _ _, Lib.NoAny.zero _ _⟩
  case round =>
    obtain ⟨i, hig, hile, hk, hbel, hno⟩ := hrel
    by_cases hi : i < s.size
    · obtain ⟨g, rfl⟩ : ∃ g, gk = g + 1 := ⟨gk - 1, by omega⟩
      have hnx := fun ty => run_next_any_at (P := P) wr w.heap.size s i ty hk hi
      have hdl := decode_le s i
      have hkW : ∀ p, (wr.iterAt w.heap.size s p).heap[w.heap.size]? = some (.stringIter s p) := fun p => Lib.iterAt_heap wr w.heap.size s i p hk
      have hbW : ∀ p, Below w.heap.size w (wr.iterAt w.heap.size s p) := fun p => Lib.below_iterAt hbel (Nat.le_refl _) s p
      have HX : Aside (∀ (p : Nat) (w' : World), Below (wr.iterAt w.heap.size s p).heap.size (wr.iterAt w.heap.size s p) w' → Below w.heap.size w w' ∧ w'.heap[w.heap.size]? = some (.stringIter s p)) := fun p w' hb => by
        have hlt : w.heap.size < (wr.iterAt w.heap.size s p).heap.size := (Array.getElem?_eq_some_iff.1 (hkW p)).1
        exact ⟨(hbW p).trans (hb.mono (Nat.le_of_lt hlt)), by rw [hb.block _ hlt]; exact hkW p⟩
      have HN : Aside (Lib.NoAny s.data.toList sgn.data.toList i) := hno
      have HXI : Aside (s.data.toList[i]? = some s[i]) := Lib.data_getElem? s i hi
      clear hkW hbW hk hbel hno
      by_cases ha : (s[i]'hi).toNat < 128
      · have hd := decode_ascii s i hi ha
        rw [hd] at hnx hdl
        have hm := sgn_mem ha
        generalize s[i] = x at *
        cases hin : sgn.data.toList.contains x
        · rw [hin] at hm
          have hlt : ¬ ((0 : Int) ≤ rIdx (x.toNat : Int)) := of_decide_eq_false hm
          clear hm
          go_wp2_with (go_at_fn (ρ.f 152); refine (idxRune { L with } _ _ (by omega) (by omega)).mono ?_; rintro e w' ⟨rfl, hw⟩)
          obtain ⟨q1, q2⟩ := HX.out _ _ hw
          clear hw
          go_wp2
          go_roundg g
          case measure => omega
          case rel => exact ⟨i + 1, by omega, by omega, q2, q1, HN.out.succ HXI.out hin⟩
        · rw [hin] at hm
          have hge : (0 : Int) ≤ rIdx (x.toNat : Int) := of_decide_eq_true hm
          clear hm
          go_wp2_with (go_at_fn (ρ.f 152); refine (idxRune { L with } _ _ (by omega) (by omega)).mono ?_; rintro e w' ⟨rfl, hw⟩)
          obtain ⟨q1, q2⟩ := HX.out _ _ hw
          clear hw
          go_wp2
          go_ret
          exact ⟨by rw [Lib.indexAny_hit HN.out HXI.out hin]; rfl, q1⟩
      · obtain ⟨d1, d2⟩ := decode_high s i hi (by omega)
        have HS : Aside (Lib.NoAny s.data.toList sgn.data.toList (i + (Utf8.decode s i).2)) := noAny_span hi (by omega) HN.out
        have HP : Aside (i + (Utf8.decode s i).2 ≤ s.size) := by
          by_cases hq : (Utf8.decode s i).2 = 1
          · show _ ≤ _; omega
          · have := (decode_span s i hi (by omega) (i + (Utf8.decode s i).2 - 1) (by omega) (by omega)).1
            show _ ≤ _; omega
        have hri : rIdx ((Utf8.decode s i).1 : Int) = -1 := sgn_high2 (by omega)
        generalize Utf8.decode s i = d at *
        go_wp2_with (go_at_fn (ρ.f 152); refine (idxRune { L with } _ _ (by omega) (by omega)).mono ?_; rintro e w' ⟨rfl, hw⟩; rw [hri])
        obtain ⟨q1, q2⟩ := HX.out _ _ hw
        clear hw
        go_wp2
        go_roundg g
        case measure => omega
        case rel => exact ⟨i + d.2, by omega, HP.out, q2, q1, HS.out⟩
    · have hnx := fun ty => run_next_end_at (P := P) wr w.heap.size s i ty hk hi
      have HN : Aside (Lib.NoAny s.data.toList sgn.data.toList i) := hno
      have HB : Aside (Below w.heap.size w wr) := hbel
      have hie : s.size ≤ i := by omega
      clear hno hbel
      go_wp2
      go_ret
      have hne : Lib.NoAny s.data.toList sgn.data.toList s.data.toList.length := by rw [← Lib.size_eq]; exact fun j b hj hb => HN.out j b (by omega) hb
      exact ⟨by rw [Lib.indexAny_none hne]; rfl, HB.out⟩
theorem fn0_indexAny (L : Lays.n153 P ρ) (h116 : (P.info? (ρ.t 116)).map (fun i => (i.zero, i.size)) = some (some (.agg (Array.replicate 256 (.bool false))), 256)) (s cs : ByteArray) (hy1 : s.size ≤ 2000000000) (hy2 : cs = (ByteArray.mk #[42, 45])) :
    Fn0 P (ρ.f 153) [.string s, .string cs] (fun _ => True) (.int .i64 (Trc.cutI s)) := fun w _ => by
  subst hy2
  have e : Trc.cutI s = Lib.indexAny s.data.toList sgn.data.toList := (Trc.indexAny_eq _).symm
  rw [e]
  by_cases h8 : s.size ≤ 8
  · exact idxAny_short L s w h8
  · refine (Any.strings_IndexAny_long L (zero_of_info h116).1 (zero_of_info h116).2 s sgn w (by decide) (by omega) (by omega) (by decide) (ascii_of_all (by decide))).mono fun e w' ⟨h1, h2⟩ => ⟨h1, ?_⟩
    rw [h2]
    exact ((Below.refl _ _).alloc (Nat.le_refl _) _).alloc (by simp) _
end Go.Sx
