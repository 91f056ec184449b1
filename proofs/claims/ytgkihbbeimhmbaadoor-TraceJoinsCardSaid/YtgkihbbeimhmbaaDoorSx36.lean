/- The library's functions on strings: the kit's contracts in the form that the walks here take. -/
import Derived.Test.YtgkihbbeimhmbaaDoorSx35
import Derived.Test.YtgkihbbeimhmbaaDoorTrLaw4
import Derived.Shelf.Strings.Split
import Derived.Shelf.Strings.SlTrimAscii
import Derived.Shelf.Strconv.Itoa3
import Derived.Shelf.Strconv.Atoi
import Derived.Lib.AtoiErrMem
import Derived.Lib.AppendIntMem
import Derived.Room.Shelf.Join48
namespace Go.Sx
open Go.RowKit Go.Shelf Go.Proofs
variable {P : Program} {ρ : Ren}
theorem fn0_trim (L : Lays.n160 P ρ) (h116 : (P.info? (ρ.t 116)).map (fun i => (i.zero, i.size)) = some (some (.agg (Array.replicate 256 (.bool false))), 256)) (s cs : ByteArray) (hy1 : s.size ≤ 9223372036854775807) (hy2 : cs.size < 4294967281 ∧ cs.data.toList.all (fun b => decide (b.toNat < 128)) = true) :
    Fn0 P (ρ.f 160) [.string s, .string cs] (fun _ => True) (.string (Trc.trimT s cs)) := fun w _ =>
  Any.strings_Trim_laid L h116 s cs w hy1 hy2.1 (ascii_of_all hy2.2)
theorem fn0_itoa (L : LaysM.n171 P ρ) (n : Int) (hy1 : 0 ≤ n ∧ n ≤ 9223372036854775807) : Fn0 P (ρ.f 171) [.int .i64 n] (fun w => Lib.TabIs P w "internal/strconv.uint64pow10" .u64 Lib.pow10Tab) (.string (Trc.decS n)) := fun w hw => by
  refine (Any.strconv_Itoa L n (by omega) hy1.2 w hw).mono ?_
  rintro e w' ⟨he, k, os, hw'⟩
  refine ⟨?_, ?_⟩
  · rw [he, Trc.itoa_dec hy1.1]; rfl
  · subst hw'
    exact Lib.below_grow w.heap.size w (Nat.le_refl _) k os
theorem fn0_atoi (L : Lays.n172 P ρ) (s : ByteArray) (hy1 : Trc.numOk s.data.toList) : Fn0 P (ρ.f 172) [.string s] (fun _ => True) (.tuple #[.int .i64 (Trc.num s), .nilIface]) := fun w _ => by
  have hs := Trc.size_len s
  have e : Trc.num s = (Trc.value s.data.toList : Int) := by unfold Trc.num Trc.numL; rw [if_pos hy1]
  refine (Any.strconv_Atoi L s (Trc.num s) (by have := hy1.2.1; omega) (by rw [e]; exact Trc.atoi_all hy1.1 hy1.2.2.2) w).mono ?_
  rintro e2 w' ⟨he, t, hw'⟩
  exact ⟨he, hw' ▸ Lib.bytesWorld_below w _ t⟩
theorem fnM_split (L : Lays.n146 P ρ) (hi9 : (P.info? (ρ.t 9)).map (fun i => (i.zero, i.size, i.bytes)) = some (some (.string ByteArray.empty), 1, 16)) (s : ByteArray) (hy1 : s.size < 4294967281) :
    FnM P (ρ.f 146) [.string s, .string (ByteArray.mk #[32])] (fun w => ∃ m, w.cell? ⟨ρ.g 1, 0, none⟩ = some (.int .i64 m)) (Option Addr × Nat) (fun p => .slice p.1 (Trc.words s).length p.2) (fun p S w => SlO tStr S w p.1 p.2 (Trc.words s)) := fun w ⟨m, hm⟩ => by
  refine (Any.strings_Split L hi9 s (ByteArray.mk #[32]) m w hy1 hm (by decide)).mono ?_
  rintro e w' ⟨he, hw'⟩
  have hl : (Trc.words s).length = Lib.countB s ⟨#[32]⟩ + 1 := by
    rw [← Trc.split_words]; exact Lib.splitB_all ⟨#[32]⟩ (by decide) 0 _ s rfl
  rw [Trc.split_words] at hw'
  refine ⟨(some ⟨w.heap.size, 0, none⟩, (Trc.words s).length), fun b => b = w.heap.size, ?_, ?_, ?_, ?_⟩
  · rw [he, hl]
  · subst hw'; exact (Below.refl _ _).alloc (Nat.le_refl _) _
  · intro b hb; subst hb; subst hw'; refine ⟨Nat.le_refl _, ?_⟩; show _ < (w.heap.push _).size; rw [Array.size_push]; omega
  · subst hw'
    have hh : ∀ o, (w.alloc o).heap[w.heap.size]? = some o := fun o => by show (w.heap.push o)[w.heap.size]? = _; simp
    have hlen : (Trc.words s).length ≤ 140737488355328 := by
      have := Lib.countB_le ⟨#[32]⟩ (by decide) s.size s (Nat.le_refl _)
      rw [hl]; omega
    refine ⟨Nat.le_refl _, hlen, rfl, rfl, ⟨_, _, hh _, by simp [tStr]⟩, fun j hj a ha => ?_⟩
    have ha0 : a = 0 := by have : a < 1 := ha; omega
    subst ha0
    show World.cell? _ _ = some (Value.string (Trc.words s)[j])
    simp only [World.cell?, hh]
    simp [tStr, hj]
theorem fn0_join (L : Lays.n156 P ρ) (X : Builder.Extra P ρ) (l : List ByteArray) (al : Option Addr) (cl : Nat) (sp : ByteArray) (hy1 : (Trc.joinB l sp).size ≤ 140737488355328) :
    Fn0 P (ρ.f 156) [.slice al l.length cl, .string sp] (fun w => Rd tStr w al cl l) (.string (Trc.joinB l sp)) := fun w hw => by
  have hj : (Lib.join (l.map (·.data.toList)) sp.data.toList).length ≤ 140737488355328 := by
    have := hy1; unfold Trc.joinB at this; rwa [Trc.ofL_size] at this
  by_cases h0 : l.length = 0
  · have hl : l = [] := List.eq_nil_of_length_eq_zero h0
    subst hl
    exact (Any.strings_Join_none L X al cl sp w).mono fun e w' ⟨he, hw'⟩ => ⟨he, hw' ▸ Below.refl _ _⟩
  · obtain ⟨h1, h2, h3⟩ := hw
    match al, h3 with
    | none, h3 => have : cl = 0 := h3; omega
    | some ⟨bk, o, spt⟩, ⟨h4, h5⟩ =>
      obtain ⟨q1, q2, _⟩ := h4 (by omega)
      have q1' : spt = none := q1
      subst q1'
      refine Any.strings_Join L X bk o cl l sp w (fun j x hx => ?_) q2 (by omega) h1 hj
      obtain ⟨hj1, hj2⟩ := List.getElem?_eq_some_iff.1 hx
      have hc := h5 j hj1 0 (by decide)
      have e : o + j * tStr.k + 0 = o + j := by show o + j * 1 + 0 = _; omega
      rw [e] at hc
      rw [hc, hj2]; rfl
end Go.Sx
