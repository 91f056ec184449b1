/- Lists of numbers sorted and cleared of doublets in place: the kit's contracts over the entries here. -/
import Derived.Test.YtnmbkopnopaigaaSx12M17
import Derived.Sort.Row
import Derived.Sort.Grow
import Derived.Lib.SlicesCompact
import Derived.StillTailTactics
import Derived.Test.YtnmbkopnopaigaaExPureM20
import Derived.Shelf.SlSortCmp.NoneTotal
import Derived.Shelf.SlicesG.Cmp
import Derived.Test.YtnmbkopnopaigaaProg
namespace Go.Sx
open Go.RowKit Go.Sort
def sortL (l : List Int) : List Int := l.mergeSort (fun x y => decide (x ≤ y))
theorem sortL_len (l : List Int) : (sortL l).length = l.length := by simp [sortL]
theorem sortL_perm (l : List Int) : (sortL l).Perm l := List.mergeSort_perm l _
section
variable {w0 w : World} {H : List Ent} {S : Nat → Prop} {cap i blk off : Nat} {L : List Int}
theorem own_holds (hw : HeapIs w0 H w) (hi : H[i]? = some (own tInt S (some ⟨blk, off, none⟩) cap L)) : Holds (Value.int .i64) w blk off L.toArray ∧ blk < w.heap.size ∧ L.length ≤ cap ∧ L.length ≤ 140737488355328 := by
  obtain ⟨h1, h2, h3, h4, ⟨c, ty, h5, h6⟩, h7⟩ := (hw.at hi).here
  refine ⟨fun j hj => ?_, (Array.getElem?_eq_some_iff.1 h5).1, h1, h2⟩
  have hj' : j < L.length := by simpa using hj
  have hc := h7 j hj' 0 (by decide)
  have e : off + j * tInt.k + 0 = off + j := by show off + j * 1 + 0 = _; omega
  constructor
  · have hc' : w.cell? ⟨blk, off + j, none⟩ = (tInt.enc L[j])[0]? := by rw [← e]; exact hc
    rw [hc']
    show some (Value.int .i64 L[j]) = some (Value.int .i64 (L.toArray[j]!))
    rw [getElem!_pos L.toArray j (by simpa using hj)]; simp
  · simp [World.frozen?, h5]
theorem own_put (hw : HeapIs w0 H w) (hi : H[i]? = some (own tInt S (some ⟨blk, off, none⟩) cap L)) {M : List Int} (hM : M.length = L.length) {k : Nat} (hk : k ≤ M.length) (q : Nat) (os : Array Obj) :
    HeapIs w0 (H.set i (own tInt S (some ⟨blk, off, none⟩) cap (M.take k))) (grow (putRow (Value.int .i64) (Sort.ahead w q) blk off M.toArray) os) := by
  obtain ⟨h1, h2, h3, h4, ⟨c, ty, h5, h6⟩, h7⟩ := (hw.at hi).here
  have hlt : blk < w.heap.size := (Array.getElem?_eq_some_iff.1 h5).1
  have hheap : (grow (putRow (Value.int .i64) (Sort.ahead w q) blk off M.toArray) os).heap = w.heap.modify blk (onCells (putCells (Value.int .i64) off M.toArray)) ++ os := rfl
  have hother : ∀ b, b < w.heap.size → b ≠ blk → (grow (putRow (Value.int .i64) (Sort.ahead w q) blk off M.toArray) os).heap[b]? = w.heap[b]? := fun b hb hne => by
    rw [hheap, Array.getElem?_append_left (by simpa using hb), Array.getElem?_modify, if_neg (fun e => hne e.symm)]
  have hblk : (grow (putRow (Value.int .i64) (Sort.ahead w q) blk off M.toArray) os).heap[blk]? = some (.cells (putCells (Value.int .i64) off M.toArray c) ty (0, 0)) := by
    rw [hheap, Array.getElem?_append_left (by simpa using hlt), Array.getElem?_modify, if_pos rfl, h5]; rfl
  refine hw.change hi ⟨rfl, rfl, rfl⟩ (by rw [hheap]; simp) (fun b hb => .inl hb) (fun b hb hS => hother b hb (fun e => hS (e ▸ h4))) (fun w1 w2 ha hA => by have hA' : SlO tInt S w1 (some ⟨blk, off, none⟩) cap (M.take k) := hA; exact SlO.agree (T := tInt) (S := S) ha hA') ?_
  have hsz : off + cap * 1 ≤ c.size := h6
  refine ⟨by rw [List.length_take]; omega, by rw [List.length_take]; omega, h3, h4, ⟨_, ty, hblk, ?_⟩, ?_⟩
  · show off + cap * 1 ≤ _
    simp only [putCells, Array.size_mapIdx]; exact hsz
  · intro j hj a ha
    have ha0 : a = 0 := by have : a < 1 := ha; omega
    subst ha0
    have hjM : j < M.length := by rw [List.length_take] at hj; omega
    have e : off + j * tInt.k + 0 = off + j := by show off + j * 1 + 0 = _; omega
    rw [e]
    have hb : off + j < c.size := by omega
    have hc : (putCells (Value.int .i64) off M.toArray c)[off + j]? = some (Value.int .i64 M[j]) := by
      simp only [putCells, Array.getElem?_mapIdx, Array.getElem?_eq_getElem hb, Option.map_some]
      rw [if_pos ⟨by omega, by simp; omega⟩, show off + j - off = j by omega, getElem!_pos M.toArray j (by simpa using hjM)]; simp
    show World.cell? _ _ = some (Value.int .i64 (M.take k)[j])
    rw [List.getElem_take]
    simp only [World.cell?, hblk, hc]
    rfl
end
section
variable {P : Program} {f : FuncId} {S : Nat → Prop} {a : Option Addr} {cap : Nat} {l : List Int}
theorem fnX_sort (hS : ∀ (blk off cap : Nat) (zs : List Int) (w : World), Holds (Value.int .i64) w blk off zs.toArray → blk < w.heap.size → zs.length < 4611686018427387904 → Calls P f #[.slice (some ⟨blk, off, none⟩) zs.length cap] w fun e w' => e = .returned (.tuple #[]) ∧ ∃ n os, w' = grow (putRow (Value.int .i64) (Sort.ahead w n) blk off (zs.mergeSort fun x y => decide (x ≤ y)).toArray) os)
    (hN : ∀ (p : Option Addr) (cap : Nat) (w : World), Calls P f #[.slice p 0 cap] w fun e w' => e = .returned (.tuple #[]) ∧ w' = w) :
    FnX P f [.slice a l.length cap] [own tInt S a cap l] (fun _ => True) Unit (fun _ => .tuple #[]) (fun _ => [own tInt S a cap (sortL l)]) := by
  intro w hw _
  match a with
  | none =>
    obtain ⟨h1, h2, h3⟩ := (hw.at (i := 1) rfl).here
    have hl : l = [] := List.length_eq_zero_iff.1 (by have h3' : cap = 0 := h3; omega)
    subst hl
    have e0 : sortL [] = [] := by simp [sortL]
    refine (hN none cap w).mono ?_
    rintro e w' ⟨rfl, rfl⟩
    refine ⟨(), rfl, ?_⟩
    simp only [e0]; exact hw
  | some ⟨blk, off, sp⟩ =>
    obtain rfl : sp = none := (hw.at (i := 1) rfl).here.2.2.1
    obtain ⟨g1, g2, g3, g4⟩ := own_holds (i := 1) hw rfl
    refine (hS blk off cap l w g1 g2 (by omega)).mono ?_
    rintro e w' ⟨rfl, n, os, rfl⟩
    have h := own_put (i := 1) hw rfl (M := sortL l) (sortL_len l) (k := (sortL l).length) (Nat.le_refl _) n os
    rw [List.take_length] at h
    exact ⟨(), rfl, h⟩
def compactL (l : List Int) : List Int := Go.Lib.compact l
theorem fnX_compact (hlen : (compactL l).length ≤ l.length) (hC : ∀ (blk off cap : Nat) (zs : List Int) (w : World), Holds (Value.int .i64) w blk off zs.toArray → zs.length ≤ 9223372036854775807 → zs.length ≤ cap → Calls P f #[.slice (some ⟨blk, off, none⟩) zs.length cap] w fun e w' => e = .returned (.slice (some ⟨blk, off, none⟩) (Go.Lib.compact zs).length cap) ∧ ∃ q, w' = putRow (Value.int .i64) (Sort.ahead w q) blk off (Go.Lib.compact zs ++ List.replicate (zs.length - (Go.Lib.compact zs).length) 0).toArray)
    (hN : ∀ (p : Option Addr) (cap : Nat) (w : World), Calls P f #[.slice p 0 cap] w fun e w' => e = .returned (.slice p 0 cap) ∧ w' = w) :
    FnX P f [.slice a l.length cap] [own tInt S a cap l] (fun _ => True) ((Option Addr) × (Nat) × (Nat → Prop)) (fun p => .slice p.1 (compactL l).length p.2.1) (fun p => [own tInt p.2.2 p.1 p.2.1 (compactL l)]) := by
  intro w hw _
  match a with
  | none =>
    obtain ⟨h1, h2, h3⟩ := (hw.at (i := 1) rfl).here
    have hl : l = [] := List.length_eq_zero_iff.1 (by have h3' : cap = 0 := h3; omega)
    subst hl
    have e0 : compactL [] = [] := by simp [compactL, Go.Lib.compact, Go.Lib.compactUpTo]
    refine (hN none cap w).mono ?_
    rintro e w' ⟨rfl, rfl⟩
    refine ⟨(none, cap, S), by simp only [e0]; rfl, ?_⟩
    simp only [e0]; exact hw
  | some ⟨blk, off, sp⟩ =>
    obtain rfl : sp = none := (hw.at (i := 1) rfl).here.2.2.1
    obtain ⟨g1, g2, g3, g4⟩ := own_holds (i := 1) hw rfl
    refine (hC blk off cap l w g1 (by omega) g3).mono ?_
    rintro e w' ⟨rfl, q, rfl⟩
    have h := own_put (i := 1) hw rfl (M := compactL l ++ List.replicate (l.length - (compactL l).length) 0) (by simp; omega) (k := (compactL l).length) (by simp) q #[]
    rw [List.take_left] at h
    have e2 : grow (putRow (Value.int .i64) (Sort.ahead w q) blk off (compactL l ++ List.replicate (l.length - (compactL l).length) 0).toArray) #[] = putRow (Value.int .i64) (Sort.ahead w q) blk off (compactL l ++ List.replicate (l.length - (compactL l).length) 0).toArray := by
      unfold grow; simp only [Array.append_empty]
    rw [e2] at h
    exact ⟨(some ⟨blk, off, none⟩, cap, S), rfl, h⟩
end
end Go.Sx
namespace Go.Sx
theorem compactL_len (l : List Int) : (compactL l).length ≤ l.length := by
  unfold compactL Go.Lib.compact Go.Lib.compactUpTo
  rw [List.length_map]
  exact Nat.le_trans (List.length_filter_le _ _) (by simp)
end Go.Sx

/- Timers sorted in place: the kit's contract, laid at this program. -/
namespace Go.Proofs
open Go.RowKit Go.Sort Go.Shelf Go.Lib
def Try.sortTA_ren : Go.Shelf.Ren := ⟨fun | 6 => 73 | 15 => 112 | 14 => 111 | 28 => 150 | 29 => 151 | 20 => 142 | 21 => 143 | 22 => 144 | 23 => 145 | 24 => 146 | 25 => 147 | 26 => 148 | 27 => 149 | 46 => 160 | 47 => 161 | 48 => 162 | 49 => 163 | 50 => 164 | 57 => 170 | n => n, fun | 22 => 57 | 24 => 52 | 25 => 115 | 3 => 3 | 39 => 73 | 0 => 0 | 53 => 191 | 55 => 100 | 4 => 4 | 46 => 185 | 45 => 184 | 50 => 140 | 5 => 5 | 9 => 9 | 66 => 199 | 70 => 203 | 76 => 208 | 77 => 209 | n => n, fun n => n⟩
theorem Try.sortTA : SlLaysF0.n6 Try.prog Try.sortTA_ren where
  mixed := by kernel_rfl
  f6 := ⟨ "slices.SortFunc[[]slopchest/api.Timer,slopchest/api.Timer]", by decide, Try.func73.trans (congrArg some (by kernel_rfl))⟩
  f14 := ⟨ "slices.pdqsortCmpFunc[slopchest/api.Timer]", by decide, Try.func111.trans (congrArg some (by kernel_rfl))⟩
  f15 := Try.func112.trans (congrArg some (by kernel_rfl))
  f20 := ⟨ "slices.insertionSortCmpFunc[slopchest/api.Timer]", by decide, Try.func142.trans (congrArg some (by kernel_rfl))⟩
  f21 := ⟨ "slices.heapSortCmpFunc[slopchest/api.Timer]", by decide, Try.func143.trans (congrArg some (by kernel_rfl))⟩
  f22 := ⟨ "slices.breakPatternsCmpFunc[slopchest/api.Timer]", by decide, Try.func144.trans (congrArg some (by kernel_rfl))⟩
  f23 := ⟨ "slices.choosePivotCmpFunc[slopchest/api.Timer]", by decide, Try.func145.trans (congrArg some (by kernel_rfl))⟩
  f24 := ⟨ "slices.reverseRangeCmpFunc[slopchest/api.Timer]", by decide, Try.func146.trans (congrArg some (by kernel_rfl))⟩
  f25 := ⟨ "slices.partialInsertionSortCmpFunc[slopchest/api.Timer]", by decide, Try.func147.trans (congrArg some (by kernel_rfl))⟩
  f26 := ⟨ "slices.partitionEqualCmpFunc[slopchest/api.Timer]", by decide, Try.func148.trans (congrArg some (by kernel_rfl))⟩
  f27 := ⟨ "slices.partitionCmpFunc[slopchest/api.Timer]", by decide, Try.func149.trans (congrArg some (by kernel_rfl))⟩
  f28 := Try.func150.trans (congrArg some (by kernel_rfl))
  f29 := Try.func151.trans (congrArg some (by kernel_rfl))
  f46 := ⟨ "slices.siftDownCmpFunc[slopchest/api.Timer]", by decide, Try.func160.trans (congrArg some (by kernel_rfl))⟩
  f47 := Try.func161.trans (congrArg some (by kernel_rfl))
  f48 := Try.func162.trans (congrArg some (by kernel_rfl))
  f49 := ⟨ "slices.medianAdjacentCmpFunc[slopchest/api.Timer]", by decide, Try.func163.trans (congrArg some (by kernel_rfl))⟩
  f50 := ⟨ "slices.medianCmpFunc[slopchest/api.Timer]", by decide, Try.func164.trans (congrArg some (by kernel_rfl))⟩
  f57 := ⟨ "slices.order2CmpFunc[slopchest/api.Timer]", by decide, Try.func170.trans (congrArg some (by kernel_rfl))⟩
  t0 := Try.underlying0
  a0 := Try.isAgg0
  z0 := Try.sizeOf0
  v0 := Try.zeroValue0
  t3 := Try.underlying3
  a3 := Try.isAgg3
  z3 := Try.sizeOf3
  v3 := Try.zeroValue3
  t4 := Try.underlying4
  a4 := Try.isAgg4
  z4 := Try.sizeOf4
  v4 := Try.zeroValue4
  t5 := Try.underlying5
  a5 := Try.isAgg5
  z5 := Try.sizeOf5
  v5 := Try.zeroValue5
  t9 := Try.underlying9
  a9 := Try.isAgg9
  z9 := Try.sizeOf9
  v9 := Try.zeroValue9
  t22 := Try.underlying57
  a22 := Try.isAgg57
  z22 := Try.sizeOf57
  v22 := Try.zeroValue57
  t25 := Try.underlying115
  a25 := Try.isAgg115
  z25 := Try.sizeOf115
  v25 := Try.zeroValue115
  t39 := Try.underlying73
  a39 := Try.isAgg73
  z39 := Try.sizeOf73
  v39 := Try.zeroValue73
  t45 := Try.underlying184
  a45 := Try.isAgg184
  z45 := Try.sizeOf184
  v45 := Try.zeroValue184
  t46 := Try.underlying185
  a46 := Try.isAgg185
  z46 := Try.sizeOf185
  v46 := Try.zeroValue185
  t50 := Try.underlying140
  a50 := Try.isAgg140
  z50 := Try.sizeOf140
  v50 := Try.zeroValue140
  t53 := Try.underlying191
  a53 := Try.isAgg191
  z53 := Try.sizeOf191
  v53 := Try.zeroValue191
  t55 := Try.underlying100
  a55 := Try.isAgg100
  z55 := Try.sizeOf100
  v55 := Try.zeroValue100
  t66 := Try.underlying199
  a66 := Try.isAgg199
  z66 := Try.sizeOf199
  v66 := Try.zeroValue199
  t70 := Try.underlying203
  a70 := Try.isAgg203
  z70 := Try.sizeOf203
  v70 := Try.zeroValue203
  t76 := Try.underlying208
  a76 := Try.isAgg208
  z76 := Try.sizeOf208
  v76 := Try.zeroValue208
  t77 := Try.underlying209
  a77 := Try.isAgg209
  z77 := Try.sizeOf209
  v77 := Try.zeroValue209
def Try.cmpA_ren : Go.Shelf.Ren := ⟨fun | 5 => 93 | 7 => 135 | n => n, fun | 22 => 3 | 3 => 3 | 4 => 4 | n => n, fun n => n⟩
theorem Try.cmpA : SlLaysC2.n5 Try.prog Try.cmpA_ren where
  mixed := by kernel_rfl
  f5 := ⟨ "cmp.Compare[int]", by decide, Try.func93.trans (congrArg some (by kernel_rfl))⟩
  f7 := ⟨ "cmp.isNaN[int]", by decide, Try.func135.trans (congrArg some (by kernel_rfl))⟩
  t3 := Try.underlying3
  a3 := Try.isAgg3
  z3 := Try.sizeOf3
  v3 := Try.zeroValue3
  t4 := Try.underlying4
  a4 := Try.isAgg4
  z4 := Try.sizeOf4
  v4 := Try.zeroValue4
  t22 := Try.underlying3
  a22 := Try.isAgg3
  z22 := Try.sizeOf3
  v22 := Try.zeroValue3
set_option maxHeartbeats 1000000 in
set_option maxRecDepth 100000 in
theorem Try.or2 (x y : Int) (b : Nat) (r : Int) (hr : r = if x ≠ 0 then x else y) (W : World) (h0 : W.cell? ⟨b, 0, none⟩ = some (.int .i64 x)) (h1 : W.cell? ⟨b, 1, none⟩ = some (.int .i64 y)) :
    Calls Try.prog 113 #[.slice (some ⟨b, 0, none⟩) 2 2] W fun e w' => e = .returned (.int .i64 r) ∧ w' = W := by
  go_enter Try.func113, Try.ntmps113
  go_wp2
  refine wp_loop_rounds 3 ?_
  rw [rounds_succ]
  go_wp2
  · rename_i h9
    go_ret
    obtain rfl : r = x := by rw [hr, if_pos (by simpa using h9)]
    exact ⟨rfl, rfl⟩
  · rename_i h9
    rw [rounds_succ]
    go_wp2
    · rename_i h8
      go_ret
      obtain rfl : r = y := by rw [hr, if_neg (by simpa using h9)]
      exact ⟨rfl, rfl⟩
    · rename_i h8
      rw [rounds_succ]
      go_wp2
      go_ret
      obtain rfl : r = 0 := by rw [hr, if_neg (by simpa using h9)]; simp_all
      exact ⟨rfl, rfl⟩
theorem ord_cmp (x y : Go.Sx.DTimer) : Go.Sx.Wh.order x y = if compareInt x.due y.due ≠ 0 then compareInt x.due y.due else compareInt x.id y.id := by
  have h : ∀ a b : Int, Go.Sx.cmpI a b = compareInt a b := fun a b => by unfold Go.Sx.cmpI compareInt; rfl
  unfold Go.Sx.Wh.order; rw [h, h]
set_option maxHeartbeats 2000000 in
set_option maxRecDepth 100000 in
theorem Try.orderC (x y : Go.Sx.DTimer) (W : World) : Calls Try.prog 74 #[.agg (Go.Sx.tTimer.enc x).toArray, .agg (Go.Sx.tTimer.enc y).toArray] W fun e w' => e = .returned (.int .i64 (Go.Sx.Wh.order x y)) ∧ ∃ q os', w' = grow (W.drewN q) os' := by
  have hcmp := fun x y W' => AnyG.cmp_Compare_int Try.cmpA x y W'
  change ∀ x y W', Calls Try.prog 93 _ _ _ at hcmp
  have hor := Try.or2
  show Calls Try.prog 74 #[.agg #[.int .i64 x.id, .int .i64 x.due], .agg #[.int .i64 y.id, .int .i64 y.due]] W _
  go_enter Try.func74, Try.ntmps74
  go_wp2_with fail
  have hb : ((W.alloc (.cells #[.int .i64 x.id, .int .i64 x.due] 52)).alloc (.cells #[.int .i64 y.id, .int .i64 y.due] 52)) = grow W (#[.cells #[.int .i64 x.id, .int .i64 x.due] 52] ++ #[.cells #[.int .i64 y.id, .int .i64 y.due] 52]) := by rw [alloc_eq_grow, alloc_eq_grow, grow_grow]
  have c0 : ((W.alloc (.cells #[.int .i64 x.id, .int .i64 x.due] 52)).alloc (.cells #[.int .i64 y.id, .int .i64 y.due] 52)).cell? ⟨W.heap.size, 0, none⟩ = some (.int .i64 x.id) := by
    rw [World.cell?_alloc_past _ _ _ (by simp), World.cell?_alloc_at _ _ _ _ rfl]; rfl
  have c1 : ((W.alloc (.cells #[.int .i64 x.id, .int .i64 x.due] 52)).alloc (.cells #[.int .i64 y.id, .int .i64 y.due] 52)).cell? ⟨W.heap.size, 1, none⟩ = some (.int .i64 x.due) := by
    rw [World.cell?_alloc_past _ _ _ (by simp), World.cell?_alloc_at _ _ _ _ rfl]; rfl
  have c2 : ((W.alloc (.cells #[.int .i64 x.id, .int .i64 x.due] 52)).alloc (.cells #[.int .i64 y.id, .int .i64 y.due] 52)).cell? ⟨W.heap.size + 1, 0, none⟩ = some (.int .i64 y.id) := by
    rw [World.cell?_alloc_at _ _ _ _ (by simp)]; rfl
  have c3 : ((W.alloc (.cells #[.int .i64 x.id, .int .i64 x.due] 52)).alloc (.cells #[.int .i64 y.id, .int .i64 y.due] 52)).cell? ⟨W.heap.size + 1, 1, none⟩ = some (.int .i64 y.due) := by
    rw [World.cell?_alloc_at _ _ _ _ (by simp)]; rfl
  generalize ((W.alloc (.cells #[.int .i64 x.id, .int .i64 x.due] 52)).alloc (.cells #[.int .i64 y.id, .int .i64 y.due] 52)) = W1 at hb c0 c1 c2 c3 ⊢
  refine wp_region_still_tail 10 (by kernel_rfl) (by kernel_rfl) ?_
  simp only [List.take_succ_cons, List.take_zero, List.drop_succ_cons, List.drop_zero]
  have HB : Hid (∃ os', W1.drew = grow (W.drewN 1) os') := ⟨_, by rw [hb]; rfl⟩
  clear hb
  iterate 4 still_step
  refine wpStill_step (fun K hK => ?_)
  go_simp
  refine ⟨_, hcmp _ _ _, hK _ ?_⟩
  clear hK K
  iterate 4 still_step
  refine wpStill_step (fun K hK => ?_)
  go_simp
  refine ⟨_, hcmp _ _ _, hK _ ?_⟩
  clear hK K
  refine wpStill_nil ?_
  go_wp2_with fail
  refine (Try.or2 _ _ W1.heap.size (Go.Sx.Wh.order x y) (ord_cmp x y) _ ?_ ?_).mono ?_
  · show (W1.alloc (.cells #[.int .i64 (compareInt x.due y.due), .int .i64 (compareInt x.id y.id)] 3)).cell? ⟨W1.heap.size, 0, none⟩ = _
    rw [World.cell?_alloc_at _ _ _ _ rfl]; rfl
  · show (W1.alloc (.cells #[.int .i64 (compareInt x.due y.due), .int .i64 (compareInt x.id y.id)] 3)).cell? ⟨W1.heap.size, 1, none⟩ = _
    rw [World.cell?_alloc_at _ _ _ _ rfl]; rfl
  · rintro e w' ⟨rfl, rfl⟩
    go_wp2
    go_ret
    refine ⟨rfl, ?_⟩
    obtain ⟨os', h9⟩ := HB.out
    refine ⟨1, os' ++ #[.cells #[.int .i64 (compareInt x.due y.due), .int .i64 (compareInt x.id y.id)] 3], ?_⟩
    rw [← grow_grow, ← h9, alloc_eq_grow]
    rfl
end Go.Proofs
namespace Go.Sx
open Go.RowKit Go.Sort Go.Proofs
section
variable {w0 w : World} {H : List Ent} {S : Nat → Prop} {cap i blk off : Nat} {L : List DTimer}
theorem tim_flat (L : List DTimer) (j : Nat) (hj : j < L.length) (a : Nat) (ha : a < 2) : (flatK tTimer.enc 2 L.toArray)[j * 2 + a]? = (tTimer.enc L[j])[a]? := by
  have hs : j * 2 + a < (flatK tTimer.enc 2 L.toArray).size := by rw [size_flatK]; simp; omega
  rw [Array.getElem?_eq_getElem hs]
  have h1 := get_flatK tTimer.enc 2 L.toArray (j * 2 + a) (by simpa using hs)
  rw [getElem!_pos (flatK tTimer.enc 2 L.toArray) _ hs] at h1
  rw [h1, show (j * 2 + a) / 2 = j by omega, show (j * 2 + a) % 2 = a by omega, getElem!_pos L.toArray j (by simpa using hj)]
  rcases (show a = 0 ∨ a = 1 by omega) with rfl | rfl <;> rfl
theorem own_holds2 (hw : HeapIs w0 H w) (hi : H[i]? = some (own tTimer S (some ⟨blk, off, none⟩) cap L)) : HoldsK tTimer.enc 2 w blk off L.toArray ∧ blk < w.heap.size ∧ L.length ≤ cap ∧ L.length ≤ 140737488355328 := by
  obtain ⟨h1, h2, h3, h4, ⟨c, ty, h5, h6⟩, h7⟩ := (hw.at hi).here
  refine ⟨?_, (Array.getElem?_eq_some_iff.1 h5).1, h1, h2⟩
  show Holds id w blk off _
  intro j hj
  have hj' : j < L.length * 2 := by simpa using hj
  have hc := h7 (j / 2) (by omega) (j % 2) (Nat.mod_lt _ (by decide))
  have e : off + j / 2 * tTimer.k + j % 2 = off + j := by show off + j / 2 * 2 + j % 2 = _; omega
  constructor
  · have hc' : w.cell? ⟨blk, off + j, none⟩ = (tTimer.enc L[j / 2])[j % 2]? := by rw [← e]; exact hc
    have hf := tim_flat L (j / 2) (by omega) (j % 2) (Nat.mod_lt _ (by decide))
    rw [show j / 2 * 2 + j % 2 = j by omega] at hf
    rw [hc', ← hf, Array.getElem?_eq_getElem hj]
    show _ = some (_ : Value)
    exact congrArg some (getElem!_pos (flatK tTimer.enc 2 L.toArray) j hj).symm
  · simp [World.frozen?, h5]
theorem own_put2 (hw : HeapIs w0 H w) (hi : H[i]? = some (own tTimer S (some ⟨blk, off, none⟩) cap L)) {M : List DTimer} (hM : M.length = L.length) (q : Nat) (os : Array Obj) :
    HeapIs w0 (H.set i (own tTimer S (some ⟨blk, off, none⟩) cap M)) (sortWorldK tTimer.enc 2 w blk off q M.toArray os) := by
  obtain ⟨h1, h2, h3, h4, ⟨c, ty, h5, h6⟩, h7⟩ := (hw.at hi).here
  have hlt : blk < w.heap.size := (Array.getElem?_eq_some_iff.1 h5).1
  have hheap : (sortWorldK tTimer.enc 2 w blk off q M.toArray os).heap = w.heap.modify blk (onCells (putCells id off (flatK tTimer.enc 2 M.toArray))) ++ os := rfl
  generalize hF : flatK tTimer.enc 2 M.toArray = F at hheap
  have hFs : F.size = M.length * 2 := by rw [← hF, size_flatK]; simp
  have hother : ∀ b, b < w.heap.size → b ≠ blk → (sortWorldK tTimer.enc 2 w blk off q M.toArray os).heap[b]? = w.heap[b]? := fun b hb hne => by
    rw [hheap, Array.getElem?_append_left (by simpa using hb), Array.getElem?_modify, if_neg (fun e => hne e.symm)]
  have hblk : (sortWorldK tTimer.enc 2 w blk off q M.toArray os).heap[blk]? = some (.cells (putCells id off F c) ty (0, 0)) := by
    rw [hheap, Array.getElem?_append_left (by simpa using hlt), Array.getElem?_modify, if_pos rfl, h5]; rfl
  refine hw.change hi ⟨rfl, rfl, rfl⟩ (by rw [hheap]; simp) (fun b hb => .inl hb) (fun b hb hS => hother b hb (fun e => hS (e ▸ h4))) (fun w1 w2 ha hA => by have hA' : SlO tTimer S w1 (some ⟨blk, off, none⟩) cap M := hA; exact SlO.agree (T := tTimer) (S := S) ha hA') ?_
  have hsz : off + cap * 2 ≤ c.size := h6
  refine ⟨by omega, by omega, h3, h4, ⟨_, ty, hblk, ?_⟩, ?_⟩
  · show off + cap * 2 ≤ _
    simp only [putCells, Array.size_mapIdx]; exact hsz
  · intro j hj a ha
    have ha2 : a < 2 := ha
    have hb : off + (j * 2 + a) < c.size := by omega
    have hlt2 : j * 2 + a < F.size := by omega
    have e : off + j * tTimer.k + a = off + (j * 2 + a) := by show off + j * 2 + a = _; omega
    rw [e, ← tim_flat M j hj a ha2, hF, Array.getElem?_eq_getElem hlt2]
    have hc : (putCells id off F c)[off + (j * 2 + a)]? = some F[j * 2 + a] := by
      simp only [putCells, Array.getElem?_mapIdx, Array.getElem?_eq_getElem hb, Option.map_some]
      rw [if_pos ⟨by omega, by omega⟩, show off + (j * 2 + a) - off = j * 2 + a by omega, getElem!_pos F _ hlt2]; rfl
    show World.cell? _ _ = _
    simp only [World.cell?, hblk, hc]
    rfl
end
theorem Wh.swo : Go.Sort.SWO (ltOf Wh.order) where
  irrefl x := by
    show decide (Wh.order x x < 0) = false
    rw [decide_eq_false_iff_not, Wh.order_neg, Wh.ahead_irrefl]; decide
  trans x y z h1 h2 := by
    have h1' := Wh.order_neg.1 (of_decide_eq_true h1); have h2' := Wh.order_neg.1 (of_decide_eq_true h2)
    exact decide_eq_true (Wh.order_neg.2 (Wh.ahead_trans h1' h2'))
  ntrans x y z h1 h2 := by
    have g1 : Wh.ahead x y = false := by
      cases h : Wh.ahead x y with
      | false => rfl
      | true => exact absurd (decide_eq_true (Wh.order_neg.2 h)) (by rw [show decide (Wh.order x y < 0) = false from h1]; decide)
    have g2 : Wh.ahead y z = false := by
      cases h : Wh.ahead y z with
      | false => rfl
      | true => exact absurd (decide_eq_true (Wh.order_neg.2 h)) (by rw [show decide (Wh.order y z < 0) = false from h2]; decide)
    refine decide_eq_false fun h => ?_
    have h := Wh.order_neg.1 h
    rcases Wh.ahead_total g1 with e | e
    · rw [e, g2] at h; cases h
    · have := Wh.ahead_trans e h
      rw [g2] at this; cases this
theorem Wh.lt_total {x y : DTimer} (h1 : ltOf Wh.order x y = false) (h2 : ltOf Wh.order y x = false) : x = y := by
  have g1 : Wh.ahead x y = false := by
    cases h : Wh.ahead x y with
    | false => rfl
    | true => exact absurd (decide_eq_true (Wh.order_neg.2 h)) (by rw [show decide (Wh.order x y < 0) = false from h1]; decide)
  rcases Wh.ahead_total g1 with e | e
  · exact e
  · exact absurd (decide_eq_true (Wh.order_neg.2 e)) (by rw [show decide (Wh.order y x < 0) = false from h2]; decide)
theorem Wh.sort_sd {l : List DTimer} (h : Wh.Sd l) : (l.mergeSort fun x y => !(ltOf Wh.order) y x) = l := by
  refine List.mergeSort_of_pairwise (h.imp fun {a b} hab => ?_)
  show (!decide (Wh.order b a < 0)) = true
  rw [Bool.not_eq_true', decide_eq_false_iff_not, Wh.order_neg]
  intro h9
  have := Wh.ahead_trans hab h9
  rw [Wh.ahead_irrefl] at this; cases this
end Go.Sx
namespace Go.Proofs.Ytnmbkopnopaigaa
open Go.Sx Go.RowKit Go.Sort Go.Shelf
set_option maxRecDepth 100000 in
theorem sortT_ok (l : List DTimer) (al : Option Addr) (cl : Nat) (Sl : Nat → Prop) (hy1 : Wh.Sd l) : FnX Try.prog 73 [.slice al l.length cl, .func (.func 74) #[] #[]] [own tTimer Sl al cl l] (fun _ => True) Unit (fun _ => .tuple #[]) (fun _ => [own tTimer Sl al cl l]) := by
  intro w hw _
  match al with
  | none =>
    obtain ⟨h1, h2, h3⟩ := (hw.at (i := 1) rfl).here
    have hl : l = [] := List.length_eq_zero_iff.1 (by have h3' : cl = 0 := h3; omega)
    subst hl
    refine (AnyF.slices_SortFunc_none Try.sortTA none cl (.func (.func 74) #[] #[]) w).mono ?_
    rintro e w' ⟨rfl, rfl⟩
    exact ⟨(), rfl, hw⟩
  | some ⟨blk, off, sp⟩ =>
    obtain rfl : sp = none := (hw.at (i := 1) rfl).here.2.2.1
    obtain ⟨g1, g2, g3, g4⟩ := own_holds2 (i := 1) hw rfl
    have eg : ∀ args w, (callFunc 74 args).run Try.prog w = .ok (.enter 74 args) w := enters_of Try.func74 (by kernel_rfl) rfl
    refine (AnyQ.slices_SortFunc_total Try.sortTA 2 Try.isAgg52 Try.sizeOf52 tTimer.enc (fun _ => rfl) (fun x v hv => by simp [tTimer] at hv; rcases hv with rfl | rfl <;> rfl) Wh.order Wh.swo 74 #[] blk off cl l.toArray w eg (fun _ _ _ _ x y => Try.orderC x y _) g1 g2 (by simp; omega) (fun x y => Wh.lt_total)).mono ?_
    rintro e w' ⟨rfl, n, os, rfl⟩
    have h := own_put2 (i := 1) hw rfl (M := l) rfl n os
    refine ⟨(), rfl, ?_⟩
    have e2 : (l.toArray.toList.mergeSort fun x y => !(ltOf Wh.order) y x) = l := Wh.sort_sd hy1
    rw [e2]; exact h
end Go.Proofs.Ytnmbkopnopaigaa
