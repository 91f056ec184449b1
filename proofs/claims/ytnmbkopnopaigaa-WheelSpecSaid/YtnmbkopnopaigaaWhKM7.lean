/- Timers sorted in place: the kit's contract, laid at this program. -/
import Derived.StillTailTactics
import Derived.Test.YtnmbkopnopaigaaWhW1M3
import Derived.Test.YtnmbkopnopaigaaSx29
import Derived.Shelf.SlSortCmp.NoneTotal
import Derived.Shelf.SlicesG.Cmp
import Derived.Test.YtnmbkopnopaigaaProg
import Derived.Test.YtnmbkopnopaigaaWhF
import Derived.Test.YtnmbkopnopaigaaWhPureM3
import Derived.Test.YtnmbkopnopaigaaSx24M4
import Derived.Test.YtnmbkopnopaigaaWhLaw4M3
import Derived.Test.YtnmbkopnopaigaaWhLaw5M2
namespace Go.Proofs
open Go.RowKit Go.Sort Go.Shelf Go.Lib
def Try.sortTA_ren : Go.Shelf.Ren := ⟨fun | 6 => 73 | 15 => 112 | 14 => 111 | 28 => 150 | 29 => 151 | 20 => 142 | 21 => 143 | 22 => 144 | 23 => 145 | 24 => 146 | 25 => 147 | 26 => 148 | 27 => 149 | 46 => 160 | 47 => 161 | 48 => 162 | 49 => 163 | 50 => 164 | 57 => 170 | n => n, fun | 22 => 57 | 24 => 52 | 25 => 115 | 3 => 3 | 39 => 73 | 0 => 0 | 53 => 191 | 55 => 100 | 4 => 4 | 46 => 185 | 45 => 184 | 50 => 140 | 5 => 5 | 9 => 9 | 66 => 199 | 70 => 203 | 76 => 208 | 77 => 209 | n => n, fun n => n⟩
theorem Try.sortTA : SlLaysF0.n6 Try.prog Try.sortTA_ren where
  mixed := by kernel_rfl
  f6 := ⟨ "slices.SortFunc[[]slopchest/api.Timer,slopchest/api.Timer]", by decide, Try.func73.trans (congrArg some (by kernel_rfl))⟩
  f14 := ⟨ "slices.pdqsortCmpFunc[slopchest/api.Timer]", by decide, Try.func111.trans (congrArg some (by kernel_rfl))⟩
  f15 := Try.func112.trans (congrArg some (by kernel_rfl))
  f20 := ⟨ "slices.insertionSortCmpFunc[slopchest/api.Timer]", by decide, Try.func142.trans (congrArg some (by kernel_rfl))⟩
  f21 := ⟨ "slices.heapSortCmpFunc[slopchest/api.Timer]", by decide, Try.func143.trans (congrArg some (by kernel_rfl))⟩
  f22 := ⟨ "slices.breakPatternsCmpFunc[slopchest/api.Timer]", by decide, Try.func144.trans (congrArg some (by kernel_rfl))⟩
  f23 := ⟨ "slices.choosePivotCmpFunc[slopchest/api.Timer]", by decide, Try.func145.trans (congrArg some (by kernel_rfl))⟩
  f24 := ⟨ "slices.reverseRangeCmpFunc[slopchest/api.Timer]", by decide, Try.func146.trans (congrArg some (by kernel_rfl))⟩
  f25 := ⟨ "slices.partialInsertionSortCmpFunc[slopchest/api.Timer]", by decide, Try.func147.trans (congrArg some (by kernel_rfl))⟩
  f26 := ⟨ "slices.partitionEqualCmpFunc[slopchest/api.Timer]", by decide, Try.func148.trans (congrArg some (by kernel_rfl))⟩
  f27 := ⟨ "slices.partitionCmpFunc[slopchest/api.Timer]", by decide, Try.func149.trans (congrArg some (by kernel_rfl))⟩
  f28 := Try.func150.trans (congrArg some (by kernel_rfl))
  f29 := Try.func151.trans (congrArg some (by kernel_rfl))
  f46 := ⟨ "slices.siftDownCmpFunc[slopchest/api.Timer]", by decide, Try.func160.trans (congrArg some (by kernel_rfl))⟩
  f47 := Try.func161.trans (congrArg some (by kernel_rfl))
  f48 := Try.func162.trans (congrArg some (by kernel_rfl))
  f49 := ⟨ "slices.medianAdjacentCmpFunc[slopchest/api.Timer]", by decide, Try.func163.trans (congrArg some (by kernel_rfl))⟩
  f50 := ⟨ "slices.medianCmpFunc[slopchest/api.Timer]", by decide, Try.func164.trans (congrArg some (by kernel_rfl))⟩
  f57 := ⟨ "slices.order2CmpFunc[slopchest/api.Timer]", by decide, Try.func170.trans (congrArg some (by kernel_rfl))⟩
  t0 := Try.underlying0
  a0 := Try.isAgg0
  z0 := Try.sizeOf0
  v0 := Try.zeroValue0
  t3 := Try.underlying3
  a3 := Try.isAgg3
  z3 := Try.sizeOf3
  v3 := Try.zeroValue3
  t4 := Try.underlying4
  a4 := Try.isAgg4
  z4 := Try.sizeOf4
  v4 := Try.zeroValue4
  t5 := Try.underlying5
  a5 := Try.isAgg5
  z5 := Try.sizeOf5
  v5 := Try.zeroValue5
  t9 := Try.underlying9
  a9 := Try.isAgg9
  z9 := Try.sizeOf9
  v9 := Try.zeroValue9
  t22 := Try.underlying57
  a22 := Try.isAgg57
  z22 := Try.sizeOf57
  v22 := Try.zeroValue57
  t25 := Try.underlying115
  a25 := Try.isAgg115
  z25 := Try.sizeOf115
  v25 := Try.zeroValue115
  t39 := Try.underlying73
  a39 := Try.isAgg73
  z39 := Try.sizeOf73
  v39 := Try.zeroValue73
  t45 := Try.underlying184
  a45 := Try.isAgg184
  z45 := Try.sizeOf184
  v45 := Try.zeroValue184
  t46 := Try.underlying185
  a46 := Try.isAgg185
  z46 := Try.sizeOf185
  v46 := Try.zeroValue185
  t50 := Try.underlying140
  a50 := Try.isAgg140
  z50 := Try.sizeOf140
  v50 := Try.zeroValue140
  t53 := Try.underlying191
  a53 := Try.isAgg191
  z53 := Try.sizeOf191
  v53 := Try.zeroValue191
  t55 := Try.underlying100
  a55 := Try.isAgg100
  z55 := Try.sizeOf100
  v55 := Try.zeroValue100
  t66 := Try.underlying199
  a66 := Try.isAgg199
  z66 := Try.sizeOf199
  v66 := Try.zeroValue199
  t70 := Try.underlying203
  a70 := Try.isAgg203
  z70 := Try.sizeOf203
  v70 := Try.zeroValue203
  t76 := Try.underlying208
  a76 := Try.isAgg208
  z76 := Try.sizeOf208
  v76 := Try.zeroValue208
  t77 := Try.underlying209
  a77 := Try.isAgg209
  z77 := Try.sizeOf209
  v77 := Try.zeroValue209
def Try.cmpA_ren : Go.Shelf.Ren := ⟨fun | 5 => 93 | 7 => 135 | n => n, fun | 22 => 3 | 3 => 3 | 4 => 4 | n => n, fun n => n⟩
theorem Try.cmpA : SlLaysC2.n5 Try.prog Try.cmpA_ren where
  mixed := by kernel_rfl
  f5 := ⟨ "cmp.Compare[int]", by decide, Try.func93.trans (congrArg some (by kernel_rfl))⟩
  f7 := ⟨ "cmp.isNaN[int]", by decide, Try.func135.trans (congrArg some (by kernel_rfl))⟩
  t3 := Try.underlying3
  a3 := Try.isAgg3
  z3 := Try.sizeOf3
  v3 := Try.zeroValue3
  t4 := Try.underlying4
  a4 := Try.isAgg4
  z4 := Try.sizeOf4
  v4 := Try.zeroValue4
  t22 := Try.underlying3
  a22 := Try.isAgg3
  z22 := Try.sizeOf3
  v22 := Try.zeroValue3
set_option maxHeartbeats 1000000 in
set_option maxRecDepth 100000 in
theorem Try.or2 (x y : Int) (b : Nat) (r : Int) (hr : r = if x ≠ 0 then x else y) (W : World) (h0 : W.cell? ⟨b, 0, none⟩ = some (.int .i64 x)) (h1 : W.cell? ⟨b, 1, none⟩ = some (.int .i64 y)) :
    Calls Try.prog 113 #[.slice (some ⟨b, 0, none⟩) 2 2] W fun e w' => e = .returned (.int .i64 r) ∧ w' = W := by
  go_enter Try.func113, Try.ntmps113
  go_wp2
  refine wp_loop_rounds 3 ?_
  rw [rounds_succ]
  go_wp2
  · rename_i h9
    go_ret
    obtain rfl : r = x := by rw [hr, if_pos (by simpa using h9)]
    exact ⟨rfl, rfl⟩
  · rename_i h9
    rw [rounds_succ]
    go_wp2
    · rename_i h8
      go_ret
      obtain rfl : r = y := by rw [hr, if_neg (by simpa using h9)]
      exact ⟨rfl, rfl⟩
    · rename_i h8
      rw [rounds_succ]
      go_wp2
      go_ret
      obtain rfl : r = 0 := by rw [hr, if_neg (by simpa using h9)]; simp_all
      exact ⟨rfl, rfl⟩
theorem ord_cmp (x y : Go.Sx.DTimer) : Go.Sx.Wh.order x y = if compareInt x.due y.due ≠ 0 then compareInt x.due y.due else compareInt x.id y.id := by
  have h : ∀ a b : Int, Go.Sx.cmpI a b = compareInt a b := fun a b => by unfold Go.Sx.cmpI compareInt; rfl
  unfold Go.Sx.Wh.order; rw [h, h]
set_option maxHeartbeats 2000000 in
set_option maxRecDepth 100000 in
theorem Try.orderC (x y : Go.Sx.DTimer) (W : World) : Calls Try.prog 74 #[.agg (Go.Sx.tTimer.enc x).toArray, .agg (Go.Sx.tTimer.enc y).toArray] W fun e w' => e = .returned (.int .i64 (Go.Sx.Wh.order x y)) ∧ ∃ q os', w' = grow (W.drewN q) os' := by
  have hcmp := fun x y W' => AnyG.cmp_Compare_int Try.cmpA x y W'
  change ∀ x y W', Calls Try.prog 93 _ _ _ at hcmp
  have hor := Try.or2
  show Calls Try.prog 74 #[.agg #[.int .i64 x.id, .int .i64 x.due], .agg #[.int .i64 y.id, .int .i64 y.due]] W _
  go_enter Try.func74, Try.ntmps74
  go_wp2_with fail
  have hb : ((W.alloc (.cells #[.int .i64 x.id, .int .i64 x.due] 52)).alloc (.cells #[.int .i64 y.id, .int .i64 y.due] 52)) = grow W (#[.cells #[.int .i64 x.id, .int .i64 x.due] 52] ++ #[.cells #[.int .i64 y.id, .int .i64 y.due] 52]) := by rw [alloc_eq_grow, alloc_eq_grow, grow_grow]
  have c0 : ((W.alloc (.cells #[.int .i64 x.id, .int .i64 x.due] 52)).alloc (.cells #[.int .i64 y.id, .int .i64 y.due] 52)).cell? ⟨W.heap.size, 0, none⟩ = some (.int .i64 x.id) := by
    rw [World.cell?_alloc_past _ _ _ (by simp), World.cell?_alloc_at _ _ _ _ rfl]; rfl
  have c1 : ((W.alloc (.cells #[.int .i64 x.id, .int .i64 x.due] 52)).alloc (.cells #[.int .i64 y.id, .int .i64 y.due] 52)).cell? ⟨W.heap.size, 1, none⟩ = some (.int .i64 x.due) := by
    rw [World.cell?_alloc_past _ _ _ (by simp), World.cell?_alloc_at _ _ _ _ rfl]; rfl
  have c2 : ((W.alloc (.cells #[.int .i64 x.id, .int .i64 x.due] 52)).alloc (.cells #[.int .i64 y.id, .int .i64 y.due] 52)).cell? ⟨W.heap.size + 1, 0, none⟩ = some (.int .i64 y.id) := by
    rw [World.cell?_alloc_at _ _ _ _ (by simp)]; rfl
  have c3 : ((W.alloc (.cells #[.int .i64 x.id, .int .i64 x.due] 52)).alloc (.cells #[.int .i64 y.id, .int .i64 y.due] 52)).cell? ⟨W.heap.size + 1, 1, none⟩ = some (.int .i64 y.due) := by
    rw [World.cell?_alloc_at _ _ _ _ (by simp)]; rfl
  generalize ((W.alloc (.cells #[.int .i64 x.id, .int .i64 x.due] 52)).alloc (.cells #[.int .i64 y.id, .int .i64 y.due] 52)) = W1 at hb c0 c1 c2 c3 ⊢
  refine wp_region_still_tail 10 (by kernel_rfl) (by kernel_rfl) ?_
  simp only [List.take_succ_cons, List.take_zero, List.drop_succ_cons, List.drop_zero]
  have HB : Hid (∃ os', W1.drew = grow (W.drewN 1) os') := ⟨_, by rw [hb]; rfl⟩
  clear hb
  iterate 4 still_step
  refine wpStill_step (fun K hK => ?_)
  go_simp
  refine ⟨_, hcmp _ _ _, hK _ ?_⟩
  clear hK K
  iterate 4 still_step
  refine wpStill_step (fun K hK => ?_)
  go_simp
  refine ⟨_, hcmp _ _ _, hK _ ?_⟩
  clear hK K
  refine wpStill_nil ?_
  go_wp2_with fail
  refine (Try.or2 _ _ W1.heap.size (Go.Sx.Wh.order x y) (ord_cmp x y) _ ?_ ?_).mono ?_
  · show (W1.alloc (.cells #[.int .i64 (compareInt x.due y.due), .int .i64 (compareInt x.id y.id)] 3)).cell? ⟨W1.heap.size, 0, none⟩ = _
    rw [World.cell?_alloc_at _ _ _ _ rfl]; rfl
  · show (W1.alloc (.cells #[.int .i64 (compareInt x.due y.due), .int .i64 (compareInt x.id y.id)] 3)).cell? ⟨W1.heap.size, 1, none⟩ = _
    rw [World.cell?_alloc_at _ _ _ _ rfl]; rfl
  · rintro e w' ⟨rfl, rfl⟩
    go_wp2
    go_ret
    refine ⟨rfl, ?_⟩
    obtain ⟨os', h9⟩ := HB.out
    refine ⟨1, os' ++ #[.cells #[.int .i64 (compareInt x.due y.due), .int .i64 (compareInt x.id y.id)] 3], ?_⟩
    rw [← grow_grow, ← h9, alloc_eq_grow]
    rfl
end Go.Proofs
namespace Go.Sx
open Go.RowKit Go.Sort Go.Proofs
section
variable {w0 w : World} {H : List Ent} {S : Nat → Prop} {cap i blk off : Nat} {L : List DTimer}
theorem tim_flat (L : List DTimer) (j : Nat) (hj : j < L.length) (a : Nat) (ha : a < 2) : (flatK tTimer.enc 2 L.toArray)[j * 2 + a]? = (tTimer.enc L[j])[a]? := by
  have hs : j * 2 + a < (flatK tTimer.enc 2 L.toArray).size := by rw [size_flatK]; simp; omega
  rw [Array.getElem?_eq_getElem hs]
  have h1 := get_flatK tTimer.enc 2 L.toArray (j * 2 + a) (by simpa using hs)
  rw [getElem!_pos (flatK tTimer.enc 2 L.toArray) _ hs] at h1
  rw [h1, show (j * 2 + a) / 2 = j by omega, show (j * 2 + a) % 2 = a by omega, getElem!_pos L.toArray j (by simpa using hj)]
  rcases (show a = 0 ∨ a = 1 by omega) with rfl | rfl <;> rfl
theorem own_holds2 (hw : HeapIs w0 H w) (hi : H[i]? = some (own tTimer S (some ⟨blk, off, none⟩) cap L)) : HoldsK tTimer.enc 2 w blk off L.toArray ∧ blk < w.heap.size ∧ L.length ≤ cap ∧ L.length ≤ 140737488355328 := by
  obtain ⟨h1, h2, h3, h4, ⟨c, ty, h5, h6⟩, h7⟩ := (hw.at hi).here
  refine ⟨?_, (Array.getElem?_eq_some_iff.1 h5).1, h1, h2⟩
  show Holds id w blk off _
  intro j hj
  have hj' : j < L.length * 2 := by simpa using hj
  have hc := h7 (j / 2) (by omega) (j % 2) (Nat.mod_lt _ (by decide))
  have e : off + j / 2 * tTimer.k + j % 2 = off + j := by show off + j / 2 * 2 + j % 2 = _; omega
  constructor
  · have hc' : w.cell? ⟨blk, off + j, none⟩ = (tTimer.enc L[j / 2])[j % 2]? := by rw [← e]; exact hc
    have hf := tim_flat L (j / 2) (by omega) (j % 2) (Nat.mod_lt _ (by decide))
    rw [show j / 2 * 2 + j % 2 = j by omega] at hf
    rw [hc', ← hf, Array.getElem?_eq_getElem hj]
    show _ = some (_ : Value)
    exact congrArg some (getElem!_pos (flatK tTimer.enc 2 L.toArray) j hj).symm
  · simp [World.frozen?, h5]
theorem own_put2 (hw : HeapIs w0 H w) (hi : H[i]? = some (own tTimer S (some ⟨blk, off, none⟩) cap L)) {M : List DTimer} (hM : M.length = L.length) (q : Nat) (os : Array Obj) :
    HeapIs w0 (H.set i (own tTimer S (some ⟨blk, off, none⟩) cap M)) (sortWorldK tTimer.enc 2 w blk off q M.toArray os) := by
  obtain ⟨h1, h2, h3, h4, ⟨c, ty, h5, h6⟩, h7⟩ := (hw.at hi).here
  have hlt : blk < w.heap.size := (Array.getElem?_eq_some_iff.1 h5).1
  have hheap : (sortWorldK tTimer.enc 2 w blk off q M.toArray os).heap = w.heap.modify blk (onCells (putCells id off (flatK tTimer.enc 2 M.toArray))) ++ os := rfl
  generalize hF : flatK tTimer.enc 2 M.toArray = F at hheap
  have hFs : F.size = M.length * 2 := by rw [← hF, size_flatK]; simp
  have hother : ∀ b, b < w.heap.size → b ≠ blk → (sortWorldK tTimer.enc 2 w blk off q M.toArray os).heap[b]? = w.heap[b]? := fun b hb hne => by
    rw [hheap, Array.getElem?_append_left (by simpa using hb), Array.getElem?_modify, if_neg (fun e => hne e.symm)]
  have hblk : (sortWorldK tTimer.enc 2 w blk off q M.toArray os).heap[blk]? = some (.cells (putCells id off F c) ty (0, 0)) := by
    rw [hheap, Array.getElem?_append_left (by simpa using hlt), Array.getElem?_modify, if_pos rfl, h5]; rfl
  refine hw.change hi ⟨rfl, rfl, rfl⟩ (by rw [hheap]; simp) (fun b hb => .inl hb) (fun b hb hS => hother b hb (fun e => hS (e ▸ h4))) (fun w1 w2 ha hA => by have hA' : SlO tTimer S w1 (some ⟨blk, off, none⟩) cap M := hA; exact SlO.agree (T := tTimer) (S := S) ha hA') ?_
  have hsz : off + cap * 2 ≤ c.size := h6
  refine ⟨by omega, by omega, h3, h4, ⟨_, ty, hblk, ?_⟩, ?_⟩
  · show off + cap * 2 ≤ _
    simp only [putCells, Array.size_mapIdx]; exact hsz
  · intro j hj a ha
    have ha2 : a < 2 := ha
    have hb : off + (j * 2 + a) < c.size := by omega
    have hlt2 : j * 2 + a < F.size := by omega
    have e : off + j * tTimer.k + a = off + (j * 2 + a) := by show off + j * 2 + a = _; omega
    rw [e, ← tim_flat M j hj a ha2, hF, Array.getElem?_eq_getElem hlt2]
    have hc : (putCells id off F c)[off + (j * 2 + a)]? = some F[j * 2 + a] := by
      simp only [putCells, Array.getElem?_mapIdx, Array.getElem?_eq_getElem hb, Option.map_some]
      rw [if_pos ⟨by omega, by omega⟩, show off + (j * 2 + a) - off = j * 2 + a by omega, getElem!_pos F _ hlt2]; rfl
    show World.cell? _ _ = _
    simp only [World.cell?, hblk, hc]
    rfl
end
theorem Wh.swo : Go.Sort.SWO (ltOf Wh.order) where
  irrefl x := by
    show decide (Wh.order x x < 0) = false
    rw [decide_eq_false_iff_not, Wh.order_neg, Wh.ahead_irrefl]; decide
  trans x y z h1 h2 := by
    have h1' := Wh.order_neg.1 (of_decide_eq_true h1); have h2' := Wh.order_neg.1 (of_decide_eq_true h2)
    exact decide_eq_true (Wh.order_neg.2 (Wh.ahead_trans h1' h2'))
  ntrans x y z h1 h2 := by
    have g1 : Wh.ahead x y = false := by
      cases h : Wh.ahead x y with
      | false => rfl
      | true => exact absurd (decide_eq_true (Wh.order_neg.2 h)) (by rw [show decide (Wh.order x y < 0) = false from h1]; decide)
    have g2 : Wh.ahead y z = false := by
      cases h : Wh.ahead y z with
      | false => rfl
      | true => exact absurd (decide_eq_true (Wh.order_neg.2 h)) (by rw [show decide (Wh.order y z < 0) = false from h2]; decide)
    refine decide_eq_false fun h => ?_
    have h := Wh.order_neg.1 h
    rcases Wh.ahead_total g1 with e | e
    · rw [e, g2] at h; cases h
    · have := Wh.ahead_trans e h
      rw [g2] at this; cases this
theorem Wh.lt_total {x y : DTimer} (h1 : ltOf Wh.order x y = false) (h2 : ltOf Wh.order y x = false) : x = y := by
  have g1 : Wh.ahead x y = false := by
    cases h : Wh.ahead x y with
    | false => rfl
    | true => exact absurd (decide_eq_true (Wh.order_neg.2 h)) (by rw [show decide (Wh.order x y < 0) = false from h1]; decide)
  rcases Wh.ahead_total g1 with e | e
  · exact e
  · exact absurd (decide_eq_true (Wh.order_neg.2 e)) (by rw [show decide (Wh.order y x < 0) = false from h2]; decide)
theorem Wh.sort_sd {l : List DTimer} (h : Wh.Sd l) : (l.mergeSort fun x y => !(ltOf Wh.order) y x) = l := by
  refine List.mergeSort_of_pairwise (h.imp fun {a b} hab => ?_)
  show (!decide (Wh.order b a < 0)) = true
  rw [Bool.not_eq_true', decide_eq_false_iff_not, Wh.order_neg]
  intro h9
  have := Wh.ahead_trans hab h9
  rw [Wh.ahead_irrefl] at this; cases this
end Go.Sx
namespace Go.Proofs.Ytnmbkopnopaigaa
open Go.Sx Go.RowKit Go.Sort Go.Shelf
set_option maxRecDepth 100000 in
theorem sortT_ok (l : List DTimer) (al : Option Addr) (cl : Nat) (Sl : Nat → Prop) (hy1 : Wh.Sd l) : FnX Try.prog 73 [.slice al l.length cl, .func (.func 74) #[] #[]] [own tTimer Sl al cl l] (fun _ => True) Unit (fun _ => .tuple #[]) (fun _ => [own tTimer Sl al cl l]) := by
  intro w hw _
  match al with
  | none =>
    obtain ⟨h1, h2, h3⟩ := (hw.at (i := 1) rfl).here
    have hl : l = [] := List.length_eq_zero_iff.1 (by have h3' : cl = 0 := h3; omega)
    subst hl
    refine (AnyF.slices_SortFunc_none Try.sortTA none cl (.func (.func 74) #[] #[]) w).mono ?_
    rintro e w' ⟨rfl, rfl⟩
    exact ⟨(), rfl, hw⟩
  | some ⟨blk, off, sp⟩ =>
    obtain rfl : sp = none := (hw.at (i := 1) rfl).here.2.2.1
    obtain ⟨g1, g2, g3, g4⟩ := own_holds2 (i := 1) hw rfl
    have eg : ∀ args w, (callFunc 74 args).run Try.prog w = .ok (.enter 74 args) w := enters_of Try.func74 (by kernel_rfl) rfl
    refine (AnyQ.slices_SortFunc_total Try.sortTA 2 Try.isAgg52 Try.sizeOf52 tTimer.enc (fun _ => rfl) (fun x v hv => by simp [tTimer] at hv; rcases hv with rfl | rfl <;> rfl) Wh.order Wh.swo 74 #[] blk off cl l.toArray w eg (fun _ _ _ _ x y => Try.orderC x y _) g1 g2 (by simp; omega) (fun x y => Wh.lt_total)).mono ?_
    rintro e w' ⟨rfl, n, os, rfl⟩
    have h := own_put2 (i := 1) hw rfl (M := l) rfl n os
    refine ⟨(), rfl, ?_⟩
    have e2 : (l.toArray.toList.mergeSort fun x y => !(ltOf Wh.order) y x) = l := Wh.sort_sd hy1
    rw [e2]; exact h
end Go.Proofs.Ytnmbkopnopaigaa

/- The walks, printed by a program from the translation and a specification. -/
namespace Go.Proofs.Ytnmbkopnopaigaa
open Go.Sx Go.RowKit
set_option maxHeartbeats 8000000 in
set_option maxRecDepth 100000 in
theorem wadvance_ok (wh : DWheel) (awh_0 : Option Addr) (cwh_0 : NC) (to : Int) : FnM Try.prog 32 [.agg #[Vi wh.now, .slice awh_0 wh.slots.length cwh_0.n], Vi to] (fun w => RdN tTimer w awh_0 cwh_0 wh.slots) (Option Addr × NC × Option Addr × Nat) (fun p => .tuple #[.agg #[Vi ((Wh.adv wh to).now), .slice p.1 ((Wh.adv wh to).slots).length p.2.1.n], .slice p.2.2.1 (Wh.gone wh to).length p.2.2.2, Vi (Wh.advErr wh to)]) (fun p S w => SlRN tTimer S w p.1 p.2.1 ((Wh.adv wh to).slots) ∧ SlR tTimer S w p.2.2.1 p.2.2.2 (Wh.gone wh to)) := by
 refine fnMR (nt := 52) (F0 := [(0, .agg #[Vi wh.now, .slice awh_0 wh.slots.length cwh_0.n]), (1, Vi to)]) Try.func32 rfl Try.ntmps32 rfl rfl (fun w0 hpre => ?_)
 have hwh_0 := hpre
 have hlhwh_0 := hwh_0.2.1
 refine c_seq (c_region ?_)
 refine o_box (v := .agg #[Vi wh.now, .slice awh_0 wh.slots.length cwh_0.n]) rfl rfl (fun B1 => ?_)
 refine o_box (v := Vi to) rfl rfl (fun B2 => ?_)
 refine o_alloc ze50 rfl (fun B3 => ?_)
 refine o_as rfl rfl ?_
 refine o_as rfl rfl ?_
 refine o_nil (q_then (c_seq (c_region ?_)))
 refine o_p (p_load_agg (i := 2) (vs := [Vi wh.now, .slice awh_0 wh.slots.length cwh_0.n]) rfl rfl sh50 rfl rfl) ?_
 refine o_call0 (v := Vi (Wh.check wh)) rfl (wcheck_ok wh awh_0 cwh_0) hf41 (fun w hw => (rd_baseN (i := 3) rfl hwh_0) w hw) rfl ?_
 refine o_as rfl rfl ?_
 refine o_nil (q_then (c_seq (c_block (c_seq (c_region ?_)))))
 refine o_mv rfl rfl ?_
 refine o_p (p_ne rfl rfl) ?_
 refine o_as rfl rfl ?_
 refine o_nil (q_then ?_)
 refine c_cond rfl (fun hc4 => ?_) (fun hc4 => ?_)
 ·simp only [bne_iff_ne, ne_eq] at hc4
  have hch := hc4
  refine c_skip ?_
  refine q_block_normal (q_then ?_)
  refine c_seq (c_seq (c_region ?_))
  refine o_mv rfl rfl ?_
  refine o_p (p_ne rfl rfl) ?_
  refine o_nil (q_then ?_)
  refine c_cond rfl (fun hc5 => ?_) (fun hc5 => ?_)
  ·simp only [bne_iff_ne, ne_eq] at hc5
   refine c_seq (c_region ?_)
   refine o_p (p_build (cells := [Vi 0, .slice none 0 0]) fp50 ze50 rfl rfl) ?_
   refine o_mv rfl rfl ?_
   refine o_storeN (i := 0) (vs := [Vi 0, .slice none 0 0]) (cs' := [Vi 0, .slice none 0 0]) rfl rfl rfl sz50 rfl rfl rfl rfl ?_
   refine o_as rfl rfl ?_
   refine o_as rfl rfl ?_
   refine o_nil (q_then (c_ret ?_))
   refine q_then_ret ?_
   refine q_marks0 ?_
   obtain ⟨c1, c2, c3⟩ : _ ∧ _ ∧ _ := by first | exact Wh.av1 (w := wh) (to := to) hch | exact Wh.av2 (w := wh) (to := to) hch hot | exact Wh.av3 (w := wh) (to := to) hch hot (by omega) | exact Wh.av4 hok hot (by omega) hI
   have hr0 : (0 : Int) = (Wh.adv wh to).now := by
    first | (rw [c1]; done) | (rw [c1]; rfl) | (rw [c2]; done) | exact c2 | exact c2.symm | exact c3.symm
   have hr1 : ([] : List (List DTimer)) = (Wh.adv wh to).slots := by
    first | (rw [c1]; done) | (rw [c1]; rfl) | (rw [c2]; done) | exact c2 | exact c2.symm | exact c3.symm
   have hr2 : ([] : List DTimer) = (Wh.gone wh to) := by
    first | (rw [c1]; done) | (rw [c1]; rfl) | (rw [c2]; done) | exact c2 | exact c2.symm | exact c3.symm
   have hr3 : ((Wh.check wh) : Int) = (Wh.advErr wh to) := by
    first | (rw [c1]; done) | (rw [c1]; rfl) | (rw [c2]; done) | exact c2 | exact c2.symm | exact c3.symm
   refine q_endM (p := (none, nc0, none, 0)) (fun _ => False) (rt3 rfl (r_cell (i := 0) rfl rfl sh50 rfl) (r_tmp rfl) (r_tmp rfl)) (i := 3) rfl ?_ ?_ ?_
   ·exact (by have hcc := congr (congr (congr (congrArg (fun (y0 : Int) (y1 : List (List DTimer)) (y2 : List DTimer) (y3 : Int) => (.tuple #[.agg #[.int .i64 y0, .slice none y1.length 0], .slice none y2.length 0, .int .i64 y3] : Value)) hr0) hr1) hr2) hr3; exact hcc)
   ·intro w hw b hb; exact hb.elim
   ·intro w hw; exact ⟨Eq.mp (congrArg (fun y => SlRN tTimer _ w none nc0 y) hr1) (SlRN.nil tTimer _ w), Eq.mp (congrArg (fun y => SlR tTimer _ w none 0 y) hr2) (SlR.nil tTimer _ w)⟩
  ·simp only [bne_eq_false_iff_eq] at hc5
   exfalso; first | contradiction | omega | simp_all
 ·simp only [bne_eq_false_iff_eq] at hc4
  have hch : Wh.check wh = 0 := by omega
  have hok := Wh.check_ok.1 hch
  have hrows := hok.rows
  have hnw := hok.now
  refine c_seq (c_region ?_)
  refine o_p (p_load (i := 1) (v := Vi to) rfl rfl sh3 rfl) ?_
  refine o_call0 (v := .bool (Wh.okTime to)) rfl (wtime_ok to) hf65 (fun _ _ => trivial) rfl ?_
  refine o_p (p_not (b := (Wh.okTime to)) rfl) ?_
  refine o_as rfl rfl ?_
  refine o_nil (q_then ?_)
  refine c_cond rfl (fun hc6 => ?_) (fun hc6 => ?_)
  ·simp only [Bool.not_eq_true'] at hc6
   have hot : Wh.okTime to = false := by simpa using hc6
   refine c_region ?_
   refine o_as rfl rfl ?_
   refine o_nil ?_
   refine q_block_normal (q_then ?_)
   refine c_seq (c_seq (c_region ?_))
   refine o_mv rfl rfl ?_
   refine o_p (p_ne rfl rfl) ?_
   refine o_nil (q_then ?_)
   refine c_true rfl ?_
   refine c_seq (c_region ?_)
   refine o_p (p_build (cells := [Vi 0, .slice none 0 0]) fp50 ze50 rfl rfl) ?_
   refine o_mv rfl rfl ?_
   refine o_storeN (i := 0) (vs := [Vi 0, .slice none 0 0]) (cs' := [Vi 0, .slice none 0 0]) rfl rfl rfl sz50 rfl rfl rfl rfl ?_
   refine o_as rfl rfl ?_
   refine o_as rfl rfl ?_
   refine o_nil (q_then (c_ret ?_))
   refine q_then_ret ?_
   refine q_marks0 ?_
   obtain ⟨c1, c2, c3⟩ : _ ∧ _ ∧ _ := by first | exact Wh.av1 (w := wh) (to := to) hch | exact Wh.av2 (w := wh) (to := to) hch hot | exact Wh.av3 (w := wh) (to := to) hch hot (by omega) | exact Wh.av4 hok hot (by omega) hI
   have hr0 : (0 : Int) = (Wh.adv wh to).now := by
    first | (rw [c1]; done) | (rw [c1]; rfl) | (rw [c2]; done) | exact c2 | exact c2.symm | exact c3.symm
   have hr1 : ([] : List (List DTimer)) = (Wh.adv wh to).slots := by
    first | (rw [c1]; done) | (rw [c1]; rfl) | (rw [c2]; done) | exact c2 | exact c2.symm | exact c3.symm
   have hr2 : ([] : List DTimer) = (Wh.gone wh to) := by
    first | (rw [c1]; done) | (rw [c1]; rfl) | (rw [c2]; done) | exact c2 | exact c2.symm | exact c3.symm
   have hr3 : (3 : Int) = (Wh.advErr wh to) := by
    first | (rw [c1]; done) | (rw [c1]; rfl) | (rw [c2]; done) | exact c2 | exact c2.symm | exact c3.symm
   refine q_endM (p := (none, nc0, none, 0)) (fun _ => False) (rt3 rfl (r_cell (i := 0) rfl rfl sh50 rfl) (r_tmp rfl) (r_tmp rfl)) (i := 3) rfl ?_ ?_ ?_
   ·exact (by have hcc := congr (congr (congr (congrArg (fun (y0 : Int) (y1 : List (List DTimer)) (y2 : List DTimer) (y3 : Int) => (.tuple #[.agg #[.int .i64 y0, .slice none y1.length 0], .slice none y2.length 0, .int .i64 y3] : Value)) hr0) hr1) hr2) hr3; exact hcc)
   ·intro w hw b hb; exact hb.elim
   ·intro w hw; exact ⟨Eq.mp (congrArg (fun y => SlRN tTimer _ w none nc0 y) hr1) (SlRN.nil tTimer _ w), Eq.mp (congrArg (fun y => SlR tTimer _ w none 0 y) hr2) (SlR.nil tTimer _ w)⟩
  ·simp only [Bool.not_eq_false'] at hc6
   have hot : Wh.okTime to = true := by simpa using hc6
   have hto := Wh.okTime_iff.1 hot
   refine c_seq (c_region ?_)
   refine o_p (p_load (i := 1) (v := Vi to) rfl rfl sh3 rfl) ?_
   refine o_p (p_fieldAddr (j' := 0) rfl fo50_0 rfl) ?_
   refine o_p (p_load (i := 2) (v := Vi wh.now) rfl rfl sh3 rfl) ?_
   refine o_p (p_lt rfl rfl) ?_
   refine o_as rfl rfl ?_
   refine o_nil (q_then ?_)
   refine c_cond rfl (fun hc7 => ?_) (fun hc7 => ?_)
   ·simp only [decide_eq_true_eq] at hc7
    have hlt := hc7
    refine c_region ?_
    refine o_as rfl rfl ?_
    refine o_nil ?_
    refine q_block_normal (q_then ?_)
    refine c_seq (c_seq (c_region ?_))
    refine o_mv rfl rfl ?_
    refine o_p (p_ne rfl rfl) ?_
    refine o_nil (q_then ?_)
    refine c_true rfl ?_
    refine c_seq (c_region ?_)
    refine o_p (p_build (cells := [Vi 0, .slice none 0 0]) fp50 ze50 rfl rfl) ?_
    refine o_mv rfl rfl ?_
    refine o_storeN (i := 0) (vs := [Vi 0, .slice none 0 0]) (cs' := [Vi 0, .slice none 0 0]) rfl rfl rfl sz50 rfl rfl rfl rfl ?_
    refine o_as rfl rfl ?_
    refine o_as rfl rfl ?_
    refine o_nil (q_then (c_ret ?_))
    refine q_then_ret ?_
    refine q_marks0 ?_
    obtain ⟨c1, c2, c3⟩ : _ ∧ _ ∧ _ := by first | exact Wh.av1 (w := wh) (to := to) hch | exact Wh.av2 (w := wh) (to := to) hch hot | exact Wh.av3 (w := wh) (to := to) hch hot (by omega) | exact Wh.av4 hok hot (by omega) hI
    have hr0 : (0 : Int) = (Wh.adv wh to).now := by
     first | (rw [c1]; done) | (rw [c1]; rfl) | (rw [c2]; done) | exact c2 | exact c2.symm | exact c3.symm
    have hr1 : ([] : List (List DTimer)) = (Wh.adv wh to).slots := by
     first | (rw [c1]; done) | (rw [c1]; rfl) | (rw [c2]; done) | exact c2 | exact c2.symm | exact c3.symm
    have hr2 : ([] : List DTimer) = (Wh.gone wh to) := by
     first | (rw [c1]; done) | (rw [c1]; rfl) | (rw [c2]; done) | exact c2 | exact c2.symm | exact c3.symm
    have hr3 : (4 : Int) = (Wh.advErr wh to) := by
     first | (rw [c1]; done) | (rw [c1]; rfl) | (rw [c2]; done) | exact c2 | exact c2.symm | exact c3.symm
    refine q_endM (p := (none, nc0, none, 0)) (fun _ => False) (rt3 rfl (r_cell (i := 0) rfl rfl sh50 rfl) (r_tmp rfl) (r_tmp rfl)) (i := 3) rfl ?_ ?_ ?_
    ·exact (by have hcc := congr (congr (congr (congrArg (fun (y0 : Int) (y1 : List (List DTimer)) (y2 : List DTimer) (y3 : Int) => (.tuple #[.agg #[.int .i64 y0, .slice none y1.length 0], .slice none y2.length 0, .int .i64 y3] : Value)) hr0) hr1) hr2) hr3; exact hcc)
    ·intro w hw b hb; exact hb.elim
    ·intro w hw; exact ⟨Eq.mp (congrArg (fun y => SlRN tTimer _ w none nc0 y) hr1) (SlRN.nil tTimer _ w), Eq.mp (congrArg (fun y => SlR tTimer _ w none 0 y) hr2) (SlR.nil tTimer _ w)⟩
   ·simp only [decide_eq_false_iff_not, Int.not_lt] at hc7
    have hlt := hc7
    refine c_skip ?_
    refine q_block_normal (q_then ?_)
    refine c_seq (c_seq (c_region ?_))
    refine o_mv rfl rfl ?_
    refine o_p (p_ne rfl rfl) ?_
    refine o_nil (q_then ?_)
    refine c_cond rfl (fun hc8 => ?_) (fun hc8 => ?_)
    ·simp only [bne_iff_ne, ne_eq] at hc8
     exfalso; first | contradiction | omega | simp_all
    ·simp only [bne_eq_false_iff_eq] at hc8
     refine c_skip (q_then (c_seq ?_))
     refine c_cutN (G := Option Addr × (Nat → Prop) × Nat) (fun ⟨a9_1, S9_1, B9_3⟩ => [(2, .pointer (some ⟨B1, 0, none⟩)), (3, .pointer (some ⟨B2, 0, none⟩)), (4, .pointer (some ⟨B3, 0, none⟩)), (8, .pointer (some ⟨B9_3, 0, none⟩))]) (fun ⟨a9_1, S9_1, B9_3⟩ => [box B9_3 [Vi to, .slice a9_1 (List.replicate 48 ([] : List DTimer)).length (ncz 48).n] 50, ownN tTimer S9_1 a9_1 (ncz 48) (List.replicate 48 ([] : List DTimer)), box B3 [Vi 0, .slice none 0 0] 50, box B2 [Vi to] 3, box B1 [Vi wh.now, .slice awh_0 wh.slots.length cwh_0.n] 50, base w0]) (fun K hK10 => ?_) ?_
     ·refine c_held hmix [box B3 [Vi 0, .slice none 0 0] 50, box B2 [Vi to] 3, box B1 [Vi wh.now, .slice awh_0 wh.slots.length cwh_0.n] 50, base w0] rfl rfl ?_
      refine h_t0 (i := 0) (ls := #[T1,F0,F0,F0,F0]) rfl (p_load (i := 1) (v := Vi to) rfl rfl sh3 rfl) ?_
      refine h_two (i := 1) (j := 3) (ls := #[T1,T1,F0,F0,F0]) (ls' := #[T1,F0,F0,T1,F0]) (by kernel_rfl) rfl rfl rfl rfl ?_ ?_
      ·refine o_makeSliceN (T := tTimer) (m := 48) rfl rfl Try.underlying48 el57 ze57 rfl (by omega) (by omega) rfl (fun S9_1 a9_1 => ?_)
       refine o_nil ?_
       refine h_next (dp (lz (lj (lj (lj (lj (ln))))))) ?_
       refine h_tk (i := 2) (ls := #[T1,T1,T1,F0,F0]) rfl (p_build (cells := [Vi to, .slice a9_1 (List.replicate 48 ([] : List DTimer)).length (ncz 48).n]) fp50 ze50 rfl rfl) (dp (lz (lj (lj (lj (lj (ln))))))) ?_
       refine h_one (i := 3) (ls := #[T1,T1,T1,T1,F0]) (by kernel_rfl) rfl rfl ?_
       refine o_alloc ze50 rfl (fun B9_3 => ?_)
       refine o_nil ?_
       refine h_next (dp (lz (lz (lj (lj (lj (lj (ln)))))))) ?_
       refine h_one (i := 4) (ls := #[T1,T1,T1,T1,T1]) (by kernel_rfl) rfl rfl ?_
       refine o_storeN (i := 0) (vs := [Vi to, .slice a9_1 (List.replicate 48 ([] : List DTimer)).length (ncz 48).n]) (cs' := [Vi to, .slice a9_1 (List.replicate 48 ([] : List DTimer)).length (ncz 48).n]) rfl rfl rfl sz50 rfl rfl rfl rfl ?_
       refine o_nil ?_
       refine h_next (dp (lz (lz (lj (lj (lj (lj (ln)))))))) ?_
       refine h_done (by kernel_rfl) ?_
       refine q_kontN hK10 (a9_1, S9_1, B9_3) (sr (sr (sr (sr (Sub.nil _))))) (pk [0, 1, 2, 3, 4, 5])
      ·refine o_alloc ze50 rfl (fun B9_3 => ?_)
       refine o_nil ?_
       refine h_next (dp (lz (lj (lj (lj (lj (ln))))))) ?_
       refine h_one (i := 1) (ls := #[T1,T1,F0,T1,F0]) (by kernel_rfl) rfl rfl ?_
       refine o_makeSliceN (T := tTimer) (m := 48) rfl rfl Try.underlying48 el57 ze57 rfl (by omega) (by omega) rfl (fun S9_1 a9_1 => ?_)
       refine o_nil ?_
       refine h_next (dp (lz (lz (lj (lj (lj (lj (ln)))))))) ?_
       refine h_tk (i := 2) (ls := #[T1,T1,T1,T1,F0]) rfl (p_build (cells := [Vi to, .slice a9_1 (List.replicate 48 ([] : List DTimer)).length (ncz 48).n]) fp50 ze50 rfl rfl) (dp (lz (lz (lj (lj (lj (lj (ln)))))))) ?_
       refine h_one (i := 4) (ls := #[T1,T1,T1,T1,T1]) (by kernel_rfl) rfl rfl ?_
       refine o_storeN (i := 1) (vs := [Vi to, .slice a9_1 (List.replicate 48 ([] : List DTimer)).length (ncz 48).n]) (cs' := [Vi to, .slice a9_1 (List.replicate 48 ([] : List DTimer)).length (ncz 48).n]) rfl rfl rfl sz50 rfl rfl rfl rfl ?_
       refine o_nil ?_
       refine h_next (dp (lz (lz (lj (lj (lj (lj (ln)))))))) ?_
       refine h_done (by kernel_rfl) ?_
       refine q_kontN hK10 (a9_1, S9_1, B9_3) (sr (sr (sr (sr (Sub.nil _))))) (pk [1, 0, 2, 3, 4, 5])
     rintro ⟨a9_1, S9_1, B9_3⟩
     show SQ _ 52 w0 _ _ [(2, .pointer (some ⟨B1, 0, none⟩)), (3, .pointer (some ⟨B2, 0, none⟩)), (4, .pointer (some ⟨B3, 0, none⟩)), (8, .pointer (some ⟨B9_3, 0, none⟩))] [box B9_3 [Vi to, .slice a9_1 (List.replicate 48 ([] : List DTimer)).length (ncz 48).n] 50, ownN tTimer S9_1 a9_1 (ncz 48) (List.replicate 48 ([] : List DTimer)), box B3 [Vi 0, .slice none 0 0] 50, box B2 [Vi to] 3, box B1 [Vi wh.now, .slice awh_0 wh.slots.length cwh_0.n] 50, base w0]
     refine q_know (fun w hw => own_lenN (i := 1) (T := tTimer) hw rfl) (fun hlr11 => ?_)
     refine q_then (c_seq (c_region ?_))
     refine o_alloc ze57 rfl (fun B12 => ?_)
     refine o_nil (q_then (c_seq (c_seq (c_region ?_))))
     refine o_p (p_load_agg (i := 5) (vs := [Vi wh.now, .slice awh_0 wh.slots.length cwh_0.n]) rfl rfl sh50 rfl rfl) ?_
     refine o_callX (pre := []) (R := [box B12 [.slice none 0 0] 57, box B9_3 [Vi to, .slice a9_1 (List.replicate 48 ([] : List DTimer)).length (ncz 48).n] 50, ownN tTimer S9_1 a9_1 (ncz 48) (List.replicate 48 ([] : List DTimer)), box B3 [Vi 0, .slice none 0 0] 50, box B2 [Vi to] 3, box B1 [Vi wh.now, .slice awh_0 wh.slots.length cwh_0.n] 50, base w0]) rfl (wall_ok wh awh_0 cwh_0) hf72 rfl (fun _ _ => trivial) rfl ?_
     rintro B13
     refine o_asH (H' := [box B13 [Vi wh.now, .slice awh_0 wh.slots.length cwh_0.n] 50, box B12 [.slice none 0 0] 57, box B9_3 [Vi to, .slice a9_1 (List.replicate 48 ([] : List DTimer)).length (ncz 48).n] 50, ownN tTimer S9_1 a9_1 (ncz 48) (List.replicate 48 ([] : List DTimer)), box B3 [Vi 0, .slice none 0 0] 50, box B2 [Vi to] 3, box B1 [Vi wh.now, .slice awh_0 wh.slots.length cwh_0.n] 50, base w0]) rfl ?_
     refine o_nil (q_then (c_block ?_))
     refine c_ownNil tTimer ?_
     refine c_rangeFunc (f := 110) (caps := [.pointer (some ⟨B13, 0, none⟩)]) (Pr := (fun e w => ((box B13 [Vi wh.now, .slice awh_0 wh.slots.length cwh_0.n] 50).A w ∧ (outer w [e]).S B13) ∧ SlRN tTimer (outer w [e]).S w awh_0 cwh_0 wh.slots)) (X := Unit) (encs := (fun x k => [Vi (Wh.slotAt wh.slots k), .agg #[Vi ((Wh.timAt wh.slots k).id), Vi ((Wh.timAt wh.slots k).due)]])) (E := (fun x k => [])) (N := (Wh.timers wh.slots).length) rfl hf110 (wall1_ok wh awh_0 cwh_0 B13) (fun _ _ => rfl) (by decide) (St := DWheel × Option Addr × NC × (Nat → Prop) × List DTimer × Option Addr × Nat × (Nat → Prop))
      (fun ⟨oo, aoo_0, coo_0, Soo_0, gl, agl, cgl, Sgl⟩ => [own tTimer Sgl agl cgl gl, box B12 [.slice agl gl.length cgl] 57, box B9_3 [Vi oo.now, .slice aoo_0 oo.slots.length coo_0.n] 50, ownN tTimer Soo_0 aoo_0 coo_0 oo.slots])
      (fun k ⟨oo, aoo_0, coo_0, Soo_0, gl, agl, cgl, Sgl⟩ => (oo, gl) = Wh.advGo wh to k)
      (fun c ⟨oo, aoo_0, coo_0, Soo_0, gl, agl, cgl, Sgl⟩ => False)
      [box B13 [Vi wh.now, .slice awh_0 wh.slots.length cwh_0.n] 50, box B3 [Vi 0, .slice none 0 0] 50, box B2 [Vi to] 3, box B1 [Vi wh.now, .slice awh_0 wh.slots.length cwh_0.n] 50, base w0]
      ((⟨to, (List.replicate 48 ([] : List DTimer))⟩ : DWheel), a9_1, (ncz 48), S9_1, [], none, 0, (fun _ => False)) ?_ ?_ ?_ ?_ ?_ ?_
     ·rfl
     ·exact fun w hw => hw.pick (H' := [own tTimer (fun _ => False) none 0 ([]), box B12 [.slice none 0 0] 57, box B9_3 [Vi to, .slice a9_1 (List.replicate 48 ([] : List DTimer)).length (ncz 48).n] 50, ownN tTimer S9_1 a9_1 (ncz 48) (List.replicate 48 ([] : List DTimer)), box B13 [Vi wh.now, .slice awh_0 wh.slots.length cwh_0.n] 50, box B3 [Vi 0, .slice none 0 0] 50, box B2 [Vi to] 3, box B1 [Vi wh.now, .slice awh_0 wh.slots.length cwh_0.n] 50, base w0]) [0, 2, 3, 4, 1, 5, 6, 7, 8] (by decide) rfl
     ·intro D e0 W1 hW1
      exact ⟨boxX (i := 2) (js := [0]) rfl (by decide) rfl W1 hW1, (rdXN (i := 6) (js := [0]) rfl (by decide) rfl (fun _ hA => slR_baseN hwh_0 hA)) W1 hW1⟩
     ·rintro l_ rc D e0 W1 hW1 x_ k ⟨oo, aoo_0, coo_0, Soo_0, gl, agl, cgl, Sgl⟩ hk hI
      have hfit := Wh.adv_fit hok hto hk hI
      have hgl := Wh.adv_gl hok (by omega) hI
      have hol := hfit.len
      have hobr0_B2 := boxX (i := 4) (B := B2) (cs := [Vi to]) (U := 3) (js := [0]) (pre := [e0]) rfl (by decide) rfl W1 hW1
      refine c_region ?_
      refine o_alloc ze52 rfl (fun B15 => ?_)
      refine o_storeN (i := 0) (vs := [Vi ((Wh.timAt wh.slots k).id), Vi ((Wh.timAt wh.slots k).due)]) (cs' := [Vi ((Wh.timAt wh.slots k).id), Vi ((Wh.timAt wh.slots k).due)]) rfl rfl rfl sz52 rfl rfl rfl rfl ?_
      refine o_nil ?_
      refine q_begin (i := 2) rfl ?_
      refine c_block (c_seq (c_region ?_))
      refine o_p (p_fieldAddr (j' := 1) rfl fo52_1 rfl) ?_
      refine o_p (p_load (i := 0) (v := Vi ((Wh.timAt wh.slots k).due)) rfl rfl sh3 rfl) ?_
      refine o_p (p_loadR (v := Vi to) rfl (rbox_outer (i := 1) rfl hobr0_B2) sh3 rfl) ?_
      refine o_p (p_le rfl rfl) ?_
      refine o_nil (q_then ?_)
      refine c_cond rfl (fun hc16 => ?_) (fun hc16 => ?_)
      ·simp only [decide_eq_true_eq] at hc16
       have hle := hc16
       refine c_region ?_
       refine o_p (p_load (i := 4) (v := .slice agl gl.length cgl) rfl rfl sh57 rfl) ?_
       refine o_p (p_load_agg (i := 0) (vs := [Vi ((Wh.timAt wh.slots k).id), Vi ((Wh.timAt wh.slots k).due)]) rfl rfl sh52 rfl rfl) ?_
       refine o_buildSlice (m := 1) (T := tTimer) (L := [(⟨(Wh.timAt wh.slots k).id, (Wh.timAt wh.slots k).due⟩ : DTimer)]) (vs := [.agg #[Vi ((Wh.timAt wh.slots k).id), Vi ((Wh.timAt wh.slots k).due)]]) rfl rfl rfl rfl Try.underlying57 sz52 (by decide) ze52 rfl (by decide) rfl (fun S17 a18 => ?_)
       refine o_append (i := 4) (L := gl) (M := [(⟨(Wh.timAt wh.slots k).id, (Wh.timAt wh.slots k).due⟩ : DTimer)]) (T := tTimer) rfl rfl rfl (rd_own (i := 0) rfl) Try.underlying57 Try.underlying57 (by intro k h; cases h) el52 (by intro z; simp [tTimer, one1]) (by decide) (by first | omega | (simp only [List.length_cons, List.length_nil]; omega) | (simp only [List.length_append, List.length_cons, List.length_nil, List.length_take, List.length_drop]; omega)) rfl (fun a20 c21 S22 => ?_)
       refine o_store (i := 5) (v := .slice a20 (gl ++ [(⟨(Wh.timAt wh.slots k).id, (Wh.timAt wh.slots k).due⟩ : DTimer)]).length c21) (cs' := [.slice a20 (gl ++ [(⟨(Wh.timAt wh.slots k).id, (Wh.timAt wh.slots k).due⟩ : DTimer)]).length c21]) rfl rfl rfl sz57 rfl rfl rfl ?_
       refine o_nil ?_
       refine q_block_normal ?_
       refine q_next (oo, aoo_0, coo_0, Soo_0, (gl ++ [(⟨(Wh.timAt wh.slots k).id, (Wh.timAt wh.slots k).due⟩ : DTimer)]), a20, c21, S22) ?_ (fun w hw => hw.pick (H' := [outer W1 [e0], loopE l_ (recd rc .busy none), own tTimer S22 a20 c21 (gl ++ [(⟨(Wh.timAt wh.slots k).id, (Wh.timAt wh.slots k).due⟩ : DTimer)]), box B12 [.slice a20 (gl ++ [(⟨(Wh.timAt wh.slots k).id, (Wh.timAt wh.slots k).due⟩ : DTimer)]).length c21] 57, box B9_3 [Vi oo.now, .slice aoo_0 oo.slots.length coo_0.n] 50, ownN tTimer Soo_0 aoo_0 coo_0 oo.slots]) [2, 3, 4, 5, 6, 7] (by decide) rfl)
       first | exact Wh.adv_yes hk hI hle | exact Wh.adv_no hk hI (by omega)
      ·simp only [decide_eq_false_iff_not, Int.not_le] at hc16
       have hle := hc16
       refine c_region ?_
       refine o_p (p_load_agg (i := 5) (vs := [Vi oo.now, .slice aoo_0 oo.slots.length coo_0.n]) rfl rfl sh50 rfl rfl) ?_
       refine o_p (p_load_agg (i := 0) (vs := [Vi ((Wh.timAt wh.slots k).id), Vi ((Wh.timAt wh.slots k).due)]) rfl rfl sh52 rfl rfl) ?_
       refine o_pick (H' := [ownN tTimer Soo_0 aoo_0 coo_0 oo.slots, box B15 [Vi ((Wh.timAt wh.slots k).id), Vi ((Wh.timAt wh.slots k).due)] 52, outer W1 [e0], loopE l_ (recd rc .busy none), own tTimer Sgl agl cgl gl, box B12 [.slice agl gl.length cgl] 57, box B9_3 [Vi oo.now, .slice aoo_0 oo.slots.length coo_0.n] 50]) [6, 0, 1, 2, 3, 4, 5] (by decide) rfl ?_
       refine o_callX (pre := [ownN tTimer Soo_0 aoo_0 coo_0 oo.slots]) (R := [box B15 [Vi ((Wh.timAt wh.slots k).id), Vi ((Wh.timAt wh.slots k).due)] 52, outer W1 [e0], loopE l_ (recd rc .busy none), own tTimer Sgl agl cgl gl, box B12 [.slice agl gl.length cgl] 57, box B9_3 [Vi oo.now, .slice aoo_0 oo.slots.length coo_0.n] 50]) rfl (wput_ok oo aoo_0 coo_0 Soo_0 (Wh.timAt wh.slots k) (by first | assumption | exact hfit)) hf70 rfl (fun _ _ => trivial) rfl ?_
       rintro ⟨R23, K24, S25⟩
       refine o_asH (H' := [ownN tTimer S25 aoo_0 (⟨coo_0.n, R23, K24⟩ : NC) ((Wh.put oo (Wh.timAt wh.slots k)).slots), box B15 [Vi ((Wh.timAt wh.slots k).id), Vi ((Wh.timAt wh.slots k).due)] 52, outer W1 [e0], loopE l_ (recd rc .busy none), own tTimer Sgl agl cgl gl, box B12 [.slice agl gl.length cgl] 57, box B9_3 [Vi oo.now, .slice aoo_0 oo.slots.length coo_0.n] 50]) rfl ?_
       refine o_cast (F' := [(47, .tuple #[])]) (H := [ownN tTimer S25 aoo_0 (⟨coo_0.n, R23, K24⟩ : NC) ((Wh.put oo (Wh.timAt wh.slots k)).slots), box B15 [Vi ((Wh.timAt wh.slots k).id), Vi ((Wh.timAt wh.slots k).due)] 52, outer W1 [e0], loopE l_ (recd rc .busy none), own tTimer Sgl agl cgl gl, box B12 [.slice agl gl.length cgl] 57, box B9_3 [Vi oo.now, .slice aoo_0 oo.slots.length coo_0.n] 50]) (H' := [ownN tTimer S25 aoo_0 (⟨coo_0.n, R23, K24⟩ : NC) ((Wh.put oo (Wh.timAt wh.slots k)).slots), box B15 [Vi ((Wh.timAt wh.slots k).id), Vi ((Wh.timAt wh.slots k).due)] 52, outer W1 [e0], loopE l_ (recd rc .busy none), own tTimer Sgl agl cgl gl, box B12 [.slice agl gl.length cgl] 57, box B9_3 [Vi oo.now, .slice aoo_0 ((Wh.put oo (Wh.timAt wh.slots k)).slots).length (⟨coo_0.n, R23, K24⟩ : NC).n] 50]) (sr (Sub.nil _)) (by simp only [List.length_set, List.length_reverse, Wh.put_len, NC.put_n]) ?_
       refine o_nil ?_
       refine q_block_normal ?_
       refine q_next ((⟨oo.now, ((Wh.put oo (Wh.timAt wh.slots k)).slots)⟩ : DWheel), aoo_0, (⟨coo_0.n, R23, K24⟩ : NC), S25, gl, agl, cgl, Sgl) ?_ (fun w hw => hw.pick (H' := [outer W1 [e0], loopE l_ (recd rc .busy none), own tTimer Sgl agl cgl gl, box B12 [.slice agl gl.length cgl] 57, box B9_3 [Vi oo.now, .slice aoo_0 ((Wh.put oo (Wh.timAt wh.slots k)).slots).length (⟨coo_0.n, R23, K24⟩ : NC).n] 50, ownN tTimer S25 aoo_0 (⟨coo_0.n, R23, K24⟩ : NC) ((Wh.put oo (Wh.timAt wh.slots k)).slots)]) [2, 3, 4, 5, 6, 0] (by decide) rfl)
       first | exact Wh.adv_yes hk hI hle | exact Wh.adv_no hk hI (by omega)
     ·rintro D ⟨oo, aoo_0, coo_0, Soo_0, gl, agl, cgl, Sgl⟩ hI
      have hsd := Wh.adv_sd hok hI
      have hgl := Wh.adv_gl hok (Nat.le_refl _) hI
      have hol := Wh.adv_len hok hI
      show SQ _ 52 w0 _ _ _ [defE D, own tTimer Sgl agl cgl gl, box B12 [.slice agl gl.length cgl] 57, box B9_3 [Vi oo.now, .slice aoo_0 oo.slots.length coo_0.n] 50, ownN tTimer Soo_0 aoo_0 coo_0 oo.slots, box B13 [Vi wh.now, .slice awh_0 wh.slots.length cwh_0.n] 50, box B3 [Vi 0, .slice none 0 0] 50, box B2 [Vi to] 3, box B1 [Vi wh.now, .slice awh_0 wh.slots.length cwh_0.n] 50, base w0]
      refine q_block_normal (q_then ?_)
      refine c_seq (c_region ?_)
      refine o_p (p_load (i := 2) (v := .slice agl gl.length cgl) rfl rfl sh57 rfl) ?_
      refine o_pick (H' := [own tTimer Sgl agl cgl gl, defE D, box B12 [.slice agl gl.length cgl] 57, box B9_3 [Vi oo.now, .slice aoo_0 oo.slots.length coo_0.n] 50, ownN tTimer Soo_0 aoo_0 coo_0 oo.slots, box B13 [Vi wh.now, .slice awh_0 wh.slots.length cwh_0.n] 50, box B3 [Vi 0, .slice none 0 0] 50, box B2 [Vi to] 3, box B1 [Vi wh.now, .slice awh_0 wh.slots.length cwh_0.n] 50, base w0]) [1, 0, 2, 3, 4, 5, 6, 7, 8, 9] (by decide) rfl ?_
      refine o_callX (pre := [own tTimer Sgl agl cgl gl]) (R := [defE D, box B12 [.slice agl gl.length cgl] 57, box B9_3 [Vi oo.now, .slice aoo_0 oo.slots.length coo_0.n] 50, ownN tTimer Soo_0 aoo_0 coo_0 oo.slots, box B13 [Vi wh.now, .slice awh_0 wh.slots.length cwh_0.n] 50, box B3 [Vi 0, .slice none 0 0] 50, box B2 [Vi to] 3, box B1 [Vi wh.now, .slice awh_0 wh.slots.length cwh_0.n] 50, base w0]) rfl (sortT_ok gl agl cgl Sgl (by first | assumption | exact hsd)) hf73 rfl (fun _ _ => trivial) rfl ?_
      rintro ⟨⟩
      refine o_asH (H' := [own tTimer Sgl agl cgl gl, defE D, box B12 [.slice agl gl.length cgl] 57, box B9_3 [Vi oo.now, .slice aoo_0 oo.slots.length coo_0.n] 50, ownN tTimer Soo_0 aoo_0 coo_0 oo.slots, box B13 [Vi wh.now, .slice awh_0 wh.slots.length cwh_0.n] 50, box B3 [Vi 0, .slice none 0 0] 50, box B2 [Vi to] 3, box B1 [Vi wh.now, .slice awh_0 wh.slots.length cwh_0.n] 50, base w0]) rfl ?_
      refine o_nil (q_then (c_seq ?_))
      refine c_cutN (G := Unit) (fun _ => [(4, .pointer (some ⟨B3, 0, none⟩)), (5, .slice agl gl.length cgl), (6, Vi 0)]) (fun _ => [own tTimer Sgl agl cgl gl, defE D, box B12 [.slice agl gl.length cgl] 57, box B9_3 [Vi oo.now, .slice aoo_0 oo.slots.length coo_0.n] 50, ownN tTimer Soo_0 aoo_0 coo_0 oo.slots, box B13 [Vi wh.now, .slice awh_0 wh.slots.length cwh_0.n] 50, box B3 [Vi oo.now, .slice aoo_0 oo.slots.length coo_0.n] 50, box B2 [Vi to] 3, box B1 [Vi wh.now, .slice awh_0 wh.slots.length cwh_0.n] 50, base w0]) (fun K hK27 => ?_) ?_
      ·refine c_held hmix [own tTimer Sgl agl cgl gl, defE D, box B12 [.slice agl gl.length cgl] 57, box B9_3 [Vi oo.now, .slice aoo_0 oo.slots.length coo_0.n] 50, ownN tTimer Soo_0 aoo_0 coo_0 oo.slots, box B13 [Vi wh.now, .slice awh_0 wh.slots.length cwh_0.n] 50, box B2 [Vi to] 3, box B1 [Vi wh.now, .slice awh_0 wh.slots.length cwh_0.n] 50, base w0] rfl rfl ?_
       refine h_tk (i := 0) (ls := #[T1,F0,F0,F0,F0]) rfl (p_load_agg (i := 3) (vs := [Vi oo.now, .slice aoo_0 oo.slots.length coo_0.n]) rfl rfl sh50 rfl rfl) (dp (lj (lj (lj (lj (lj (lj (lz (lj (lj (lj (ln)))))))))))) ?_
       refine h_tk (i := 1) (ls := #[T1,T1,F0,F0,F0]) rfl (p_load (i := 2) (v := .slice agl gl.length cgl) rfl rfl sh57 rfl) (dp (lj (lj (lj (lj (lj (lj (lz (lj (lj (lj (ln)))))))))))) ?_
       refine h_one (i := 2) (ls := #[T1,T1,T1,F0,F0]) (by kernel_rfl) rfl rfl ?_
       refine o_storeN (i := 6) (vs := [Vi oo.now, .slice aoo_0 oo.slots.length coo_0.n]) (cs' := [Vi oo.now, .slice aoo_0 oo.slots.length coo_0.n]) rfl rfl rfl sz50 rfl rfl rfl rfl ?_
       refine o_nil ?_
       refine h_next (dp (lj (lj (lj (lj (lj (lj (lz (lj (lj (lj (ln)))))))))))) ?_
       refine h_tk (i := 3) (ls := #[T1,T1,T1,T1,F0]) rfl (p_assign rfl) (dp (lj (lj (lj (lj (lj (lj (lz (lj (lj (lj (ln)))))))))))) ?_
       refine h_tk (i := 4) (ls := #[T1,T1,T1,T1,T1]) rfl (p_assign rfl) (dp (lj (lj (lj (lj (lj (lj (lz (lj (lj (lj (ln)))))))))))) ?_
       refine h_done (by kernel_rfl) ?_
       refine q_kontN hK27 () (sr (sr (sr (Sub.nil _)))) (pk [0, 1, 2, 3, 4, 5, 6, 7, 8, 9])
      rintro _
      show SQ _ 52 w0 _ _ [(4, .pointer (some ⟨B3, 0, none⟩)), (5, .slice agl gl.length cgl), (6, Vi 0)] [own tTimer Sgl agl cgl gl, defE D, box B12 [.slice agl gl.length cgl] 57, box B9_3 [Vi oo.now, .slice aoo_0 oo.slots.length coo_0.n] 50, ownN tTimer Soo_0 aoo_0 coo_0 oo.slots, box B13 [Vi wh.now, .slice awh_0 wh.slots.length cwh_0.n] 50, box B3 [Vi oo.now, .slice aoo_0 oo.slots.length coo_0.n] 50, box B2 [Vi to] 3, box B1 [Vi wh.now, .slice awh_0 wh.slots.length cwh_0.n] 50, base w0]
      refine q_then (c_ret ?_)
      refine q_marks (i := 1) rfl ?_
      show SQ _ 52 w0 _ _ _ [own tTimer Sgl agl cgl gl, box B12 [.slice agl gl.length cgl] 57, box B9_3 [Vi oo.now, .slice aoo_0 oo.slots.length coo_0.n] 50, ownN tTimer Soo_0 aoo_0 coo_0 oo.slots, box B13 [Vi wh.now, .slice awh_0 wh.slots.length cwh_0.n] 50, box B3 [Vi oo.now, .slice aoo_0 oo.slots.length coo_0.n] 50, box B2 [Vi to] 3, box B1 [Vi wh.now, .slice awh_0 wh.slots.length cwh_0.n] 50, base w0]
      refine q_marks0 ?_
      obtain ⟨c1, c2, c3⟩ : _ ∧ _ ∧ _ := by first | exact Wh.av1 (w := wh) (to := to) hch | exact Wh.av2 (w := wh) (to := to) hch hot | exact Wh.av3 (w := wh) (to := to) hch hot (by omega) | exact Wh.av4 hok hot (by omega) hI
      have hr0 : (oo.now : Int) = (Wh.adv wh to).now := by
       first | (rw [c1]; done) | (rw [c1]; rfl) | (rw [c2]; done) | exact c2 | exact c2.symm | exact c3.symm
      have hr1 : (oo.slots : List (List DTimer)) = (Wh.adv wh to).slots := by
       first | (rw [c1]; done) | (rw [c1]; rfl) | (rw [c2]; done) | exact c2 | exact c2.symm | exact c3.symm
      have hr2 : (gl : List DTimer) = (Wh.gone wh to) := by
       first | (rw [c1]; done) | (rw [c1]; rfl) | (rw [c2]; done) | exact c2 | exact c2.symm | exact c3.symm
      have hr3 : (0 : Int) = (Wh.advErr wh to) := by
       first | (rw [c1]; done) | (rw [c1]; rfl) | (rw [c2]; done) | exact c2 | exact c2.symm | exact c3.symm
      refine q_endM (p := (aoo_0, coo_0, agl, cgl)) (fun b => Soo_0 b ∨ Sgl b) (rt3 rfl (r_cell (i := 5) rfl rfl sh50 rfl) (r_tmp rfl) (r_tmp rfl)) (i := 8) rfl ?_ ?_ ?_
      ·exact (by have hcc := congr (congr (congr (congrArg (fun (y0 : Int) (y1 : List (List DTimer)) (y2 : List DTimer) (y3 : Int) => (.tuple #[.agg #[.int .i64 y0, .slice aoo_0 y1.length coo_0.n], .slice agl y2.length cgl, .int .i64 y3] : Value)) hr0) hr1) hr2) hr3; exact hcc)
      ·intro w hw b hb; rcases hb with hb | hb
       ·exact hw.above (i := 8) (j := 3) (by decide) rfl rfl b hb
       ·exact hw.above (i := 8) (j := 0) (by decide) rfl rfl b hb
      ·intro w hw; exact ⟨Eq.mp (congrArg (fun y => SlRN tTimer _ w aoo_0 coo_0 y) hr1) (SlRN.mono (fun b hb => by simp [hb]) (SlON.toR (hw.at (i := 3) rfl).here)), Eq.mp (congrArg (fun y => SlR tTimer _ w agl cgl y) hr2) (SlR.mono (fun b hb => by simp [hb]) (SlO.toR (hw.at (i := 0) rfl).here))⟩
     ·intro D c s h; exact h.elim
end Go.Proofs.Ytnmbkopnopaigaa

/- The walks, printed by a program from the translation and a specification. -/
namespace Go.Proofs.Ytnmbkopnopaigaa
open Go.Sx Go.RowKit
set_option maxHeartbeats 8000000 in
set_option maxRecDepth 100000 in
theorem wheelBegun_ok  : Fn0 Try.prog 40 [] (fun _ => True) (.bool true) := by
 refine fn0 (nt := 120) (F0 := []) Try.func40 rfl Try.ntmps40 rfl rfl (fun w0 hpre => ?_)
 refine c_seq (c_region ?_)
 refine o_as rfl rfl ?_
 refine o_nil (q_then (c_seq (c_region ?_)))
 refine o_callM rfl (wnew_ok (100 : Int)) hf29 (fun _ _ => trivial) rfl (fun _ _ _ _ ha hA => SlON.agree ha hA) ?_
 rintro ⟨a3, c4⟩ S1
 refine o_know (fun w hw => own_lenN (i := 0) (T := tTimer) hw rfl) (fun hlr5 => ?_)
 refine o_mv rfl rfl ?_
 refine o_ex rfl rfl rfl ?_
 refine o_ex rfl rfl rfl ?_
 refine o_alloc ze50 rfl (fun B6 => ?_)
 refine o_storeN (i := 0) (vs := [Vi ((Wh.new (100 : Int)).now), .slice a3 ((Wh.new (100 : Int)).slots).length c4.n]) (cs' := [Vi ((Wh.new (100 : Int)).now), .slice a3 ((Wh.new (100 : Int)).slots).length c4.n]) rfl rfl rfl sz50 rfl rfl rfl rfl ?_
 refine o_as rfl rfl ?_
 refine o_nil (q_then (c_seq (c_seq (c_region ?_))))
 refine o_mv rfl rfl ?_
 refine o_p (p_ne rfl rfl) ?_
 refine o_mv rfl rfl ?_
 refine o_or (p := 28) 5 ((((Wh.new (100 : Int)).slots).length : Int) != 48) ?_ ?_ ?_
 ·intro hb7 hk
  simp only [bne_eq_false_iff_eq] at hb7
  refine o_unguard 23 rfl rfl ?_
  refine o_p (p_fieldAddr (j' := 1) rfl fo50_1 rfl) ?_
  refine o_unguard 23 rfl rfl ?_
  refine o_p (p_load (i := 0) (v := .slice a3 ((Wh.new (100 : Int)).slots).length c4.n) rfl rfl sh48 rfl) ?_
  refine o_unguard 23 rfl rfl ?_
  refine o_p (p_len_slice rfl rfl Try.underlying48) ?_
  refine o_unguard 23 rfl rfl ?_
  refine o_p (p_ne rfl rfl) ?_
  refine o_pf rfl rfl rfl ?_
  exact o_sub (sr (Sub.skip rfl (Sub.skip rfl (Sub.skip rfl (Sub.skip rfl (Sub.skip rfl (Sub.skip rfl (Sub.refl _)))))))) hk
 ·intro hb7 hk
  refine o_guard_no rfl 23 rfl rfl rfl rfl rfl ?_
  refine o_guard_no rfl 23 rfl rfl rfl rfl rfl ?_
  refine o_guard_no rfl 23 rfl rfl rfl rfl rfl ?_
  refine o_guard_no rfl 23 rfl rfl rfl rfl rfl ?_
  refine o_pt rfl rfl rfl ?_
  exact o_sub (sr (Sub.skip rfl (Sub.skip rfl (Sub.skip rfl (Sub.skip rfl (Sub.skip rfl (Sub.skip rfl (Sub.refl _)))))))) hk
 refine o_nil (q_then ?_)
 refine c_cond rfl (fun hc8 => ?_) (fun hc8 => ?_)
 ·simp only [Bool.or_eq_true, bne_iff_ne, ne_eq] at hc8
  exfalso; rcases hc8 with h9 | h9 <;> exact absurd h9 (by decide +kernel)
 ·simp only [Bool.or_eq_false_iff, bne_eq_false_iff_eq] at hc8
  refine c_skip (q_then (c_seq (c_region ?_)))
  refine o_p (p_load_agg (i := 0) (vs := [Vi ((Wh.new (100 : Int)).now), .slice a3 ((Wh.new (100 : Int)).slots).length c4.n]) rfl rfl sh50 rfl rfl) ?_
  refine o_p (p_build (cells := [Vi 1, Vi 103]) fp52 ze52 rfl rfl) ?_
  refine o_callM rfl (wadd_ok (Wh.new (100 : Int)) a3 c4 (⟨1, 103⟩ : DTimer)) hf30 (fun w hw => (rd_ownN (i := 1) rfl) w hw) rfl (fun _ _ _ _ ha hA => SlON.agree ha hA) ?_
  rintro ⟨a11, c12⟩ S9
  refine o_know (fun w hw => own_lenN (i := 0) (T := tTimer) hw rfl) (fun hlr13 => ?_)
  refine o_mv rfl rfl ?_
  refine o_ex rfl rfl rfl ?_
  refine o_ex rfl rfl rfl ?_
  refine o_storeN (i := 1) (vs := [Vi ((Wh.add (Wh.new (100 : Int)) (⟨1, 103⟩ : DTimer)).now), .slice a11 ((Wh.add (Wh.new (100 : Int)) (⟨1, 103⟩ : DTimer)).slots).length c12.n]) (cs' := [Vi ((Wh.add (Wh.new (100 : Int)) (⟨1, 103⟩ : DTimer)).now), .slice a11 ((Wh.add (Wh.new (100 : Int)) (⟨1, 103⟩ : DTimer)).slots).length c12.n]) rfl rfl rfl sz50 rfl rfl rfl rfl ?_
  refine o_as rfl rfl ?_
  refine o_nil (q_then (c_seq (c_region ?_)))
  refine o_p (p_load_agg (i := 1) (vs := [Vi ((Wh.add (Wh.new (100 : Int)) (⟨1, 103⟩ : DTimer)).now), .slice a11 ((Wh.add (Wh.new (100 : Int)) (⟨1, 103⟩ : DTimer)).slots).length c12.n]) rfl rfl sh50 rfl rfl) ?_
  refine o_p (p_build (cells := [Vi 2, Vi 700]) fp52 ze52 rfl rfl) ?_
  refine o_callM rfl (wadd_ok (Wh.add (Wh.new (100 : Int)) (⟨1, 103⟩ : DTimer)) a11 c12 (⟨2, 700⟩ : DTimer)) hf30 (fun w hw => (rd_ownN (i := 0) rfl) w hw) rfl (fun _ _ _ _ ha hA => SlON.agree ha hA) ?_
  rintro ⟨a16, c17⟩ S14
  refine o_know (fun w hw => own_lenN (i := 0) (T := tTimer) hw rfl) (fun hlr18 => ?_)
  refine o_mv rfl rfl ?_
  refine o_ex rfl rfl rfl ?_
  refine o_ex rfl rfl rfl ?_
  refine o_storeN (i := 2) (vs := [Vi ((Wh.add (Wh.add (Wh.new (100 : Int)) (⟨1, 103⟩ : DTimer)) (⟨2, 700⟩ : DTimer)).now), .slice a16 ((Wh.add (Wh.add (Wh.new (100 : Int)) (⟨1, 103⟩ : DTimer)) (⟨2, 700⟩ : DTimer)).slots).length c17.n]) (cs' := [Vi ((Wh.add (Wh.add (Wh.new (100 : Int)) (⟨1, 103⟩ : DTimer)) (⟨2, 700⟩ : DTimer)).now), .slice a16 ((Wh.add (Wh.add (Wh.new (100 : Int)) (⟨1, 103⟩ : DTimer)) (⟨2, 700⟩ : DTimer)).slots).length c17.n]) rfl rfl rfl sz50 rfl rfl rfl rfl ?_
  refine o_as rfl rfl ?_
  refine o_nil (q_then (c_seq (c_region ?_)))
  refine o_p (p_load_agg (i := 2) (vs := [Vi ((Wh.add (Wh.add (Wh.new (100 : Int)) (⟨1, 103⟩ : DTimer)) (⟨2, 700⟩ : DTimer)).now), .slice a16 ((Wh.add (Wh.add (Wh.new (100 : Int)) (⟨1, 103⟩ : DTimer)) (⟨2, 700⟩ : DTimer)).slots).length c17.n]) rfl rfl sh50 rfl rfl) ?_
  refine o_p (p_build (cells := [Vi 3, Vi 101]) fp52 ze52 rfl rfl) ?_
  refine o_callM rfl (wadd_ok (Wh.add (Wh.add (Wh.new (100 : Int)) (⟨1, 103⟩ : DTimer)) (⟨2, 700⟩ : DTimer)) a16 c17 (⟨3, 101⟩ : DTimer)) hf30 (fun w hw => (rd_ownN (i := 0) rfl) w hw) rfl (fun _ _ _ _ ha hA => SlON.agree ha hA) ?_
  rintro ⟨a21, c22⟩ S19
  refine o_know (fun w hw => own_lenN (i := 0) (T := tTimer) hw rfl) (fun hlr23 => ?_)
  refine o_mv rfl rfl ?_
  refine o_ex rfl rfl rfl ?_
  refine o_ex rfl rfl rfl ?_
  refine o_storeN (i := 3) (vs := [Vi ((Wh.add (Wh.add (Wh.add (Wh.new (100 : Int)) (⟨1, 103⟩ : DTimer)) (⟨2, 700⟩ : DTimer)) (⟨3, 101⟩ : DTimer)).now), .slice a21 ((Wh.add (Wh.add (Wh.add (Wh.new (100 : Int)) (⟨1, 103⟩ : DTimer)) (⟨2, 700⟩ : DTimer)) (⟨3, 101⟩ : DTimer)).slots).length c22.n]) (cs' := [Vi ((Wh.add (Wh.add (Wh.add (Wh.new (100 : Int)) (⟨1, 103⟩ : DTimer)) (⟨2, 700⟩ : DTimer)) (⟨3, 101⟩ : DTimer)).now), .slice a21 ((Wh.add (Wh.add (Wh.add (Wh.new (100 : Int)) (⟨1, 103⟩ : DTimer)) (⟨2, 700⟩ : DTimer)) (⟨3, 101⟩ : DTimer)).slots).length c22.n]) rfl rfl rfl sz50 rfl rfl rfl rfl ?_
  refine o_as rfl rfl ?_
  refine o_nil (q_then (c_seq (c_region ?_)))
  refine o_p (p_load_agg (i := 3) (vs := [Vi ((Wh.add (Wh.add (Wh.add (Wh.new (100 : Int)) (⟨1, 103⟩ : DTimer)) (⟨2, 700⟩ : DTimer)) (⟨3, 101⟩ : DTimer)).now), .slice a21 ((Wh.add (Wh.add (Wh.add (Wh.new (100 : Int)) (⟨1, 103⟩ : DTimer)) (⟨2, 700⟩ : DTimer)) (⟨3, 101⟩ : DTimer)).slots).length c22.n]) rfl rfl sh50 rfl rfl) ?_
  refine o_call0 (v := .tuple #[Vi (Wh.next (Wh.add (Wh.add (Wh.add (Wh.new (100 : Int)) (⟨1, 103⟩ : DTimer)) (⟨2, 700⟩ : DTimer)) (⟨3, 101⟩ : DTimer))), Vi (Wh.nextErr (Wh.add (Wh.add (Wh.add (Wh.new (100 : Int)) (⟨1, 103⟩ : DTimer)) (⟨2, 700⟩ : DTimer)) (⟨3, 101⟩ : DTimer)))]) rfl (wnext_ok (Wh.add (Wh.add (Wh.add (Wh.new (100 : Int)) (⟨1, 103⟩ : DTimer)) (⟨2, 700⟩ : DTimer)) (⟨3, 101⟩ : DTimer)) a21 c22) hf33 (fun w hw => (rd_ownN (i := 0) rfl) w hw) rfl ?_
  refine o_mv rfl rfl ?_
  refine o_ex rfl rfl rfl ?_
  refine o_ex rfl rfl rfl ?_
  refine o_as rfl rfl ?_
  refine o_as rfl rfl ?_
  refine o_nil (q_then (c_seq (c_region ?_)))
  refine o_p (p_load_agg (i := 3) (vs := [Vi ((Wh.add (Wh.add (Wh.add (Wh.new (100 : Int)) (⟨1, 103⟩ : DTimer)) (⟨2, 700⟩ : DTimer)) (⟨3, 101⟩ : DTimer)).now), .slice a21 ((Wh.add (Wh.add (Wh.add (Wh.new (100 : Int)) (⟨1, 103⟩ : DTimer)) (⟨2, 700⟩ : DTimer)) (⟨3, 101⟩ : DTimer)).slots).length c22.n]) rfl rfl sh50 rfl rfl) ?_
  refine o_callM rfl (wadvance_ok (Wh.add (Wh.add (Wh.add (Wh.new (100 : Int)) (⟨1, 103⟩ : DTimer)) (⟨2, 700⟩ : DTimer)) (⟨3, 101⟩ : DTimer)) a21 c22 (103 : Int)) hf32 (fun w hw => (rd_ownN (i := 0) rfl) w hw) rfl (fun _ _ _ _ ha hA => ⟨SlRN.agree ha hA.1, SlR.agree ha hA.2⟩) ?_
  rintro ⟨a26, c27, a28, c29⟩ S24
  refine o_know (fun w hw => (hw.at (i := 0) rfl).here.1.2.1) (fun hlr30 => ?_)
  refine o_know (fun w hw => (hw.at (i := 0) rfl).here.2.2.1) (fun hlr31 => ?_)
  refine o_mv rfl rfl ?_
  refine o_ex rfl rfl rfl ?_
  refine o_ex rfl rfl rfl ?_
  refine o_ex rfl rfl rfl ?_
  refine o_alloc ze50 rfl (fun B32 => ?_)
  refine o_storeN (i := 0) (vs := [Vi ((Wh.adv (Wh.add (Wh.add (Wh.add (Wh.new (100 : Int)) (⟨1, 103⟩ : DTimer)) (⟨2, 700⟩ : DTimer)) (⟨3, 101⟩ : DTimer)) (103 : Int)).now), .slice a26 ((Wh.adv (Wh.add (Wh.add (Wh.add (Wh.new (100 : Int)) (⟨1, 103⟩ : DTimer)) (⟨2, 700⟩ : DTimer)) (⟨3, 101⟩ : DTimer)) (103 : Int)).slots).length c27.n]) (cs' := [Vi ((Wh.adv (Wh.add (Wh.add (Wh.add (Wh.new (100 : Int)) (⟨1, 103⟩ : DTimer)) (⟨2, 700⟩ : DTimer)) (⟨3, 101⟩ : DTimer)) (103 : Int)).now), .slice a26 ((Wh.adv (Wh.add (Wh.add (Wh.add (Wh.new (100 : Int)) (⟨1, 103⟩ : DTimer)) (⟨2, 700⟩ : DTimer)) (⟨3, 101⟩ : DTimer)) (103 : Int)).slots).length c27.n]) rfl rfl rfl sz50 rfl rfl rfl rfl ?_
  refine o_as rfl rfl ?_
  refine o_as rfl rfl ?_
  refine o_nil (q_then (c_seq (c_region ?_)))
  refine o_p (p_load_agg (i := 0) (vs := [Vi ((Wh.adv (Wh.add (Wh.add (Wh.add (Wh.new (100 : Int)) (⟨1, 103⟩ : DTimer)) (⟨2, 700⟩ : DTimer)) (⟨3, 101⟩ : DTimer)) (103 : Int)).now), .slice a26 ((Wh.adv (Wh.add (Wh.add (Wh.add (Wh.new (100 : Int)) (⟨1, 103⟩ : DTimer)) (⟨2, 700⟩ : DTimer)) (⟨3, 101⟩ : DTimer)) (103 : Int)).slots).length c27.n]) rfl rfl sh50 rfl rfl) ?_
  refine o_callM rfl (wcancel_ok (Wh.adv (Wh.add (Wh.add (Wh.add (Wh.new (100 : Int)) (⟨1, 103⟩ : DTimer)) (⟨2, 700⟩ : DTimer)) (⟨3, 101⟩ : DTimer)) (103 : Int)) a26 c27 (2 : Int)) hf31 (fun w hw => (rd_entN (i := 1) rfl (fun w h => h.1)) w hw) rfl (fun _ _ _ _ ha hA => SlON.agree ha hA) ?_
  rintro ⟨a35, c36⟩ S33
  refine o_know (fun w hw => own_lenN (i := 0) (T := tTimer) hw rfl) (fun hlr37 => ?_)
  refine o_mv rfl rfl ?_
  refine o_ex rfl rfl rfl ?_
  refine o_ex rfl rfl rfl ?_
  refine o_alloc ze50 rfl (fun B38 => ?_)
  refine o_storeN (i := 0) (vs := [Vi ((Wh.cancel (Wh.adv (Wh.add (Wh.add (Wh.add (Wh.new (100 : Int)) (⟨1, 103⟩ : DTimer)) (⟨2, 700⟩ : DTimer)) (⟨3, 101⟩ : DTimer)) (103 : Int)) (2 : Int)).now), .slice a35 ((Wh.cancel (Wh.adv (Wh.add (Wh.add (Wh.add (Wh.new (100 : Int)) (⟨1, 103⟩ : DTimer)) (⟨2, 700⟩ : DTimer)) (⟨3, 101⟩ : DTimer)) (103 : Int)) (2 : Int)).slots).length c36.n]) (cs' := [Vi ((Wh.cancel (Wh.adv (Wh.add (Wh.add (Wh.add (Wh.new (100 : Int)) (⟨1, 103⟩ : DTimer)) (⟨2, 700⟩ : DTimer)) (⟨3, 101⟩ : DTimer)) (103 : Int)) (2 : Int)).now), .slice a35 ((Wh.cancel (Wh.adv (Wh.add (Wh.add (Wh.add (Wh.new (100 : Int)) (⟨1, 103⟩ : DTimer)) (⟨2, 700⟩ : DTimer)) (⟨3, 101⟩ : DTimer)) (103 : Int)) (2 : Int)).slots).length c36.n]) rfl rfl rfl sz50 rfl rfl rfl rfl ?_
  refine o_as rfl rfl ?_
  refine o_nil (q_then (c_seq (c_region ?_)))
  refine o_p (p_load_agg (i := 0) (vs := [Vi ((Wh.cancel (Wh.adv (Wh.add (Wh.add (Wh.add (Wh.new (100 : Int)) (⟨1, 103⟩ : DTimer)) (⟨2, 700⟩ : DTimer)) (⟨3, 101⟩ : DTimer)) (103 : Int)) (2 : Int)).now), .slice a35 ((Wh.cancel (Wh.adv (Wh.add (Wh.add (Wh.add (Wh.new (100 : Int)) (⟨1, 103⟩ : DTimer)) (⟨2, 700⟩ : DTimer)) (⟨3, 101⟩ : DTimer)) (103 : Int)) (2 : Int)).slots).length c36.n]) rfl rfl sh50 rfl rfl) ?_
  refine o_call0 (v := .tuple #[Vi (Wh.next (Wh.cancel (Wh.adv (Wh.add (Wh.add (Wh.add (Wh.new (100 : Int)) (⟨1, 103⟩ : DTimer)) (⟨2, 700⟩ : DTimer)) (⟨3, 101⟩ : DTimer)) (103 : Int)) (2 : Int))), Vi (Wh.nextErr (Wh.cancel (Wh.adv (Wh.add (Wh.add (Wh.add (Wh.new (100 : Int)) (⟨1, 103⟩ : DTimer)) (⟨2, 700⟩ : DTimer)) (⟨3, 101⟩ : DTimer)) (103 : Int)) (2 : Int)))]) rfl (wnext_ok (Wh.cancel (Wh.adv (Wh.add (Wh.add (Wh.add (Wh.new (100 : Int)) (⟨1, 103⟩ : DTimer)) (⟨2, 700⟩ : DTimer)) (⟨3, 101⟩ : DTimer)) (103 : Int)) (2 : Int)) a35 c36) hf33 (fun w hw => (rd_ownN (i := 1) rfl) w hw) rfl ?_
  refine o_mv rfl rfl ?_
  refine o_ex rfl rfl rfl ?_
  refine o_ex rfl rfl rfl ?_
  refine o_as rfl rfl ?_
  refine o_as rfl rfl ?_
  refine o_nil (q_then (c_seq (c_region ?_)))
  refine o_p (p_load_agg (i := 2) (vs := [Vi ((Wh.adv (Wh.add (Wh.add (Wh.add (Wh.new (100 : Int)) (⟨1, 103⟩ : DTimer)) (⟨2, 700⟩ : DTimer)) (⟨3, 101⟩ : DTimer)) (103 : Int)).now), .slice a26 ((Wh.adv (Wh.add (Wh.add (Wh.add (Wh.new (100 : Int)) (⟨1, 103⟩ : DTimer)) (⟨2, 700⟩ : DTimer)) (⟨3, 101⟩ : DTimer)) (103 : Int)).slots).length c27.n]) rfl rfl sh50 rfl rfl) ?_
  refine o_p (p_build (cells := [Vi 4, Vi 103]) fp52 ze52 rfl rfl) ?_
  refine o_callM rfl (wadd_ok (Wh.adv (Wh.add (Wh.add (Wh.add (Wh.new (100 : Int)) (⟨1, 103⟩ : DTimer)) (⟨2, 700⟩ : DTimer)) (⟨3, 101⟩ : DTimer)) (103 : Int)) a26 c27 (⟨4, 103⟩ : DTimer)) hf30 (fun w hw => (rd_entN (i := 3) rfl (fun w h => h.1)) w hw) rfl (fun _ _ _ _ ha hA => SlON.agree ha hA) ?_
  rintro ⟨a41, c42⟩ S39
  refine o_know (fun w hw => own_lenN (i := 0) (T := tTimer) hw rfl) (fun hlr43 => ?_)
  refine o_mv rfl rfl ?_
  refine o_ex rfl rfl rfl ?_
  refine o_ex rfl rfl rfl ?_
  refine o_alloc ze50 rfl (fun B44 => ?_)
  refine o_storeN (i := 0) (vs := [Vi ((Wh.add (Wh.adv (Wh.add (Wh.add (Wh.add (Wh.new (100 : Int)) (⟨1, 103⟩ : DTimer)) (⟨2, 700⟩ : DTimer)) (⟨3, 101⟩ : DTimer)) (103 : Int)) (⟨4, 103⟩ : DTimer)).now), .slice a41 ((Wh.add (Wh.adv (Wh.add (Wh.add (Wh.add (Wh.new (100 : Int)) (⟨1, 103⟩ : DTimer)) (⟨2, 700⟩ : DTimer)) (⟨3, 101⟩ : DTimer)) (103 : Int)) (⟨4, 103⟩ : DTimer)).slots).length c42.n]) (cs' := [Vi ((Wh.add (Wh.adv (Wh.add (Wh.add (Wh.add (Wh.new (100 : Int)) (⟨1, 103⟩ : DTimer)) (⟨2, 700⟩ : DTimer)) (⟨3, 101⟩ : DTimer)) (103 : Int)) (⟨4, 103⟩ : DTimer)).now), .slice a41 ((Wh.add (Wh.adv (Wh.add (Wh.add (Wh.add (Wh.new (100 : Int)) (⟨1, 103⟩ : DTimer)) (⟨2, 700⟩ : DTimer)) (⟨3, 101⟩ : DTimer)) (103 : Int)) (⟨4, 103⟩ : DTimer)).slots).length c42.n]) rfl rfl rfl sz50 rfl rfl rfl rfl ?_
  refine o_as rfl rfl ?_
  refine o_nil (q_then (c_seq (c_region ?_)))
  refine o_mv rfl rfl ?_
  refine o_p (p_eq rfl rfl) ?_
  refine o_mv rfl rfl ?_
  refine o_and (p := 79) 3 ((Wh.addErr (Wh.add (Wh.new (100 : Int)) (⟨1, 103⟩ : DTimer)) (⟨2, 700⟩ : DTimer)) == 0) ?_ ?_ ?_
  ·intro hb45 hk
   simp only [beq_iff_eq] at hb45
   refine o_unguard 76 rfl rfl ?_
   refine o_mv rfl rfl ?_
   refine o_unguard 76 rfl rfl ?_
   refine o_p (p_eq rfl rfl) ?_
   refine o_pt rfl rfl rfl ?_
   exact o_sub (sr (Sub.skip rfl (Sub.skip rfl (Sub.skip rfl (Sub.skip rfl (Sub.refl _)))))) hk
  ·intro hb45 hk
   refine o_guard_no rfl 76 rfl rfl rfl rfl rfl ?_
   refine o_guard_no rfl 76 rfl rfl rfl rfl rfl ?_
   refine o_pf rfl rfl rfl ?_
   exact o_sub (sr (Sub.skip rfl (Sub.skip rfl (Sub.skip rfl (Sub.skip rfl (Sub.refl _)))))) hk
  refine o_mv rfl rfl ?_
  refine o_and (p := 83) 3 ((Wh.addErr (Wh.add (Wh.add (Wh.new (100 : Int)) (⟨1, 103⟩ : DTimer)) (⟨2, 700⟩ : DTimer)) (⟨3, 101⟩ : DTimer)) == 0) ?_ ?_ ?_
  ·intro hb46 hk
   simp only [Bool.and_eq_true, beq_iff_eq] at hb46
   refine o_unguard 80 rfl rfl ?_
   refine o_mv rfl rfl ?_
   refine o_unguard 80 rfl rfl ?_
   refine o_p (p_eq rfl rfl) ?_
   refine o_pt rfl rfl rfl ?_
   exact o_sub (sr (Sub.skip rfl (Sub.skip rfl (Sub.skip rfl (Sub.skip rfl (Sub.refl _)))))) hk
  ·intro hb46 hk
   refine o_guard_no rfl 80 rfl rfl rfl rfl rfl ?_
   refine o_guard_no rfl 80 rfl rfl rfl rfl rfl ?_
   refine o_pf rfl rfl rfl ?_
   exact o_sub (sr (Sub.skip rfl (Sub.skip rfl (Sub.skip rfl (Sub.skip rfl (Sub.refl _)))))) hk
  refine o_mv rfl rfl ?_
  refine o_and (p := 87) 3 ((Wh.next (Wh.add (Wh.add (Wh.add (Wh.new (100 : Int)) (⟨1, 103⟩ : DTimer)) (⟨2, 700⟩ : DTimer)) (⟨3, 101⟩ : DTimer))) == 101) ?_ ?_ ?_
  ·intro hb47 hk
   simp only [Bool.and_eq_true, beq_iff_eq] at hb47
   refine o_unguard 84 rfl rfl ?_
   refine o_mv rfl rfl ?_
   refine o_unguard 84 rfl rfl ?_
   refine o_p (p_eq rfl rfl) ?_
   refine o_pt rfl rfl rfl ?_
   exact o_sub (sr (Sub.skip rfl (Sub.skip rfl (Sub.skip rfl (Sub.skip rfl (Sub.refl _)))))) hk
  ·intro hb47 hk
   refine o_guard_no rfl 84 rfl rfl rfl rfl rfl ?_
   refine o_guard_no rfl 84 rfl rfl rfl rfl rfl ?_
   refine o_pf rfl rfl rfl ?_
   exact o_sub (sr (Sub.skip rfl (Sub.skip rfl (Sub.skip rfl (Sub.skip rfl (Sub.refl _)))))) hk
  refine o_mv rfl rfl ?_
  refine o_and (p := 91) 3 ((Wh.nextErr (Wh.add (Wh.add (Wh.add (Wh.new (100 : Int)) (⟨1, 103⟩ : DTimer)) (⟨2, 700⟩ : DTimer)) (⟨3, 101⟩ : DTimer))) == 0) ?_ ?_ ?_
  ·intro hb48 hk
   simp only [Bool.and_eq_true, beq_iff_eq] at hb48
   refine o_unguard 88 rfl rfl ?_
   refine o_mv rfl rfl ?_
   refine o_unguard 88 rfl rfl ?_
   refine o_p (p_eq rfl rfl) ?_
   refine o_pt rfl rfl rfl ?_
   exact o_sub (sr (Sub.skip rfl (Sub.skip rfl (Sub.skip rfl (Sub.skip rfl (Sub.refl _)))))) hk
  ·intro hb48 hk
   refine o_guard_no rfl 88 rfl rfl rfl rfl rfl ?_
   refine o_guard_no rfl 88 rfl rfl rfl rfl rfl ?_
   refine o_pf rfl rfl rfl ?_
   exact o_sub (sr (Sub.skip rfl (Sub.skip rfl (Sub.skip rfl (Sub.skip rfl (Sub.refl _)))))) hk
  refine o_mv rfl rfl ?_
  refine o_and (p := 98) 6 (decide ((Wh.gone (Wh.add (Wh.add (Wh.add (Wh.new (100 : Int)) (⟨1, 103⟩ : DTimer)) (⟨2, 700⟩ : DTimer)) (⟨3, 101⟩ : DTimer)) (103 : Int)) = ([(⟨3, 101⟩ : DTimer), (⟨1, 103⟩ : DTimer)]))) ?_ ?_ ?_
  ·intro hb49 hk
   simp only [Bool.and_eq_true, beq_iff_eq] at hb49
   refine o_unguard 92 rfl rfl ?_
   refine o_mv rfl rfl ?_
   refine o_unguard 92 rfl rfl ?_
   refine o_p (p_build (cells := [Vi 3, Vi 101]) fp52 ze52 rfl rfl) ?_
   refine o_unguard 92 rfl rfl ?_
   refine o_p (p_build (cells := [Vi 1, Vi 103]) fp52 ze52 rfl rfl) ?_
   refine o_unguard 92 rfl rfl ?_
   refine o_buildSlice (m := 2) (T := tTimer) (L := [(⟨3, 101⟩ : DTimer), (⟨1, 103⟩ : DTimer)]) (vs := [.agg #[Vi 3, Vi 101], .agg #[Vi 1, Vi 103]]) rfl rfl rfl rfl Try.underlying57 sz52 (by decide) ze52 rfl (by decide) rfl (fun S50 a51 => ?_)
   refine o_unguard 92 rfl rfl ?_
   refine o_call0 (v := .bool (decide ((Wh.gone (Wh.add (Wh.add (Wh.add (Wh.new (100 : Int)) (⟨1, 103⟩ : DTimer)) (⟨2, 700⟩ : DTimer)) (⟨3, 101⟩ : DTimer)) (103 : Int)) = ([(⟨3, 101⟩ : DTimer), (⟨1, 103⟩ : DTimer)])))) rfl (sameTimers_ok (Wh.gone (Wh.add (Wh.add (Wh.add (Wh.new (100 : Int)) (⟨1, 103⟩ : DTimer)) (⟨2, 700⟩ : DTimer)) (⟨3, 101⟩ : DTimer)) (103 : Int)) a28 c29 ([(⟨3, 101⟩ : DTimer), (⟨1, 103⟩ : DTimer)]) a51 ([(⟨3, 101⟩ : DTimer), (⟨1, 103⟩ : DTimer)].length)) hf43 (fun w hw => ⟨(rd_ent (i := 6) rfl (fun w h => h.2)) w hw, (rd_own (i := 0) rfl) w hw⟩) rfl ?_
   refine o_pt rfl rfl rfl ?_
   exact o_sub (sr (Sub.skip rfl (Sub.skip rfl (Sub.skip rfl (Sub.skip rfl (Sub.skip rfl (Sub.skip rfl (Sub.skip rfl (Sub.refl _))))))))) (o_drop (lz (lj (lj (lj (lj (lj (lj (lj (lj (lj (lj (lj (lj (ln)))))))))))))) hk)
  ·intro hb49 hk
   refine o_guard_no rfl 92 rfl rfl rfl rfl rfl ?_
   refine o_guard_no rfl 92 rfl rfl rfl rfl rfl ?_
   refine o_guard_no rfl 92 rfl rfl rfl rfl rfl ?_
   refine o_guard_no rfl 92 rfl rfl rfl rfl rfl ?_
   refine o_guard_no rfl 92 rfl rfl rfl rfl rfl ?_
   refine o_pf rfl rfl rfl ?_
   exact o_sub (sr (Sub.skip rfl (Sub.skip rfl (Sub.skip rfl (Sub.skip rfl (Sub.skip rfl (Sub.skip rfl (Sub.skip rfl (Sub.refl _))))))))) hk
  refine o_mv rfl rfl ?_
  refine o_and (p := 102) 3 ((Wh.advErr (Wh.add (Wh.add (Wh.add (Wh.new (100 : Int)) (⟨1, 103⟩ : DTimer)) (⟨2, 700⟩ : DTimer)) (⟨3, 101⟩ : DTimer)) (103 : Int)) == 0) ?_ ?_ ?_
  ·intro hb53 hk
   simp only [Bool.and_eq_true, beq_iff_eq, decide_eq_true_eq] at hb53
   refine o_unguard 99 rfl rfl ?_
   refine o_mv rfl rfl ?_
   refine o_unguard 99 rfl rfl ?_
   refine o_p (p_eq rfl rfl) ?_
   refine o_pt rfl rfl rfl ?_
   exact o_sub (sr (Sub.skip rfl (Sub.skip rfl (Sub.skip rfl (Sub.skip rfl (Sub.refl _)))))) hk
  ·intro hb53 hk
   refine o_guard_no rfl 99 rfl rfl rfl rfl rfl ?_
   refine o_guard_no rfl 99 rfl rfl rfl rfl rfl ?_
   refine o_pf rfl rfl rfl ?_
   exact o_sub (sr (Sub.skip rfl (Sub.skip rfl (Sub.skip rfl (Sub.skip rfl (Sub.refl _)))))) hk
  refine o_mv rfl rfl ?_
  refine o_and (p := 106) 3 ((Wh.cancelErr (Wh.adv (Wh.add (Wh.add (Wh.add (Wh.new (100 : Int)) (⟨1, 103⟩ : DTimer)) (⟨2, 700⟩ : DTimer)) (⟨3, 101⟩ : DTimer)) (103 : Int)) (2 : Int)) == 0) ?_ ?_ ?_
  ·intro hb54 hk
   simp only [Bool.and_eq_true, beq_iff_eq, decide_eq_true_eq] at hb54
   refine o_unguard 103 rfl rfl ?_
   refine o_mv rfl rfl ?_
   refine o_unguard 103 rfl rfl ?_
   refine o_p (p_eq rfl rfl) ?_
   refine o_pt rfl rfl rfl ?_
   exact o_sub (sr (Sub.skip rfl (Sub.skip rfl (Sub.skip rfl (Sub.skip rfl (Sub.refl _)))))) hk
  ·intro hb54 hk
   refine o_guard_no rfl 103 rfl rfl rfl rfl rfl ?_
   refine o_guard_no rfl 103 rfl rfl rfl rfl rfl ?_
   refine o_pf rfl rfl rfl ?_
   exact o_sub (sr (Sub.skip rfl (Sub.skip rfl (Sub.skip rfl (Sub.skip rfl (Sub.refl _)))))) hk
  refine o_mv rfl rfl ?_
  refine o_and (p := 110) 3 ((Wh.nextErr (Wh.cancel (Wh.adv (Wh.add (Wh.add (Wh.add (Wh.new (100 : Int)) (⟨1, 103⟩ : DTimer)) (⟨2, 700⟩ : DTimer)) (⟨3, 101⟩ : DTimer)) (103 : Int)) (2 : Int))) == 5) ?_ ?_ ?_
  ·intro hb55 hk
   simp only [Bool.and_eq_true, beq_iff_eq, decide_eq_true_eq] at hb55
   refine o_unguard 107 rfl rfl ?_
   refine o_mv rfl rfl ?_
   refine o_unguard 107 rfl rfl ?_
   refine o_p (p_eq rfl rfl) ?_
   refine o_pt rfl rfl rfl ?_
   exact o_sub (sr (Sub.skip rfl (Sub.skip rfl (Sub.skip rfl (Sub.skip rfl (Sub.refl _)))))) hk
  ·intro hb55 hk
   refine o_guard_no rfl 107 rfl rfl rfl rfl rfl ?_
   refine o_guard_no rfl 107 rfl rfl rfl rfl rfl ?_
   refine o_pf rfl rfl rfl ?_
   exact o_sub (sr (Sub.skip rfl (Sub.skip rfl (Sub.skip rfl (Sub.skip rfl (Sub.refl _)))))) hk
  refine o_mv rfl rfl ?_
  refine o_and (p := 114) 3 ((Wh.addErr (Wh.adv (Wh.add (Wh.add (Wh.add (Wh.new (100 : Int)) (⟨1, 103⟩ : DTimer)) (⟨2, 700⟩ : DTimer)) (⟨3, 101⟩ : DTimer)) (103 : Int)) (⟨4, 103⟩ : DTimer)) == 3) ?_ ?_ ?_
  ·intro hb56 hk
   simp only [Bool.and_eq_true, beq_iff_eq, decide_eq_true_eq] at hb56
   refine o_unguard 111 rfl rfl ?_
   refine o_mv rfl rfl ?_
   refine o_unguard 111 rfl rfl ?_
   refine o_p (p_eq rfl rfl) ?_
   refine o_pt rfl rfl rfl ?_
   exact o_sub (sr (Sub.skip rfl (Sub.skip rfl (Sub.skip rfl (Sub.skip rfl (Sub.refl _)))))) hk
  ·intro hb56 hk
   refine o_guard_no rfl 111 rfl rfl rfl rfl rfl ?_
   refine o_guard_no rfl 111 rfl rfl rfl rfl rfl ?_
   refine o_pf rfl rfl rfl ?_
   exact o_sub (sr (Sub.skip rfl (Sub.skip rfl (Sub.skip rfl (Sub.skip rfl (Sub.refl _)))))) hk
  refine o_mv rfl rfl ?_
  refine o_and (p := 119) 4 ((Wh.check (⟨0, []⟩ : DWheel)) == 1) ?_ ?_ ?_
  ·intro hb57 hk
   simp only [Bool.and_eq_true, beq_iff_eq, decide_eq_true_eq] at hb57
   refine o_unguard 115 rfl rfl ?_
   refine o_p (p_build (cells := [Vi 0, .slice none 0 0]) fp50 ze50 rfl rfl) ?_
   refine o_unguard 115 rfl rfl ?_
   refine o_call0 (v := Vi (Wh.check (⟨0, []⟩ : DWheel))) rfl (wcheck_ok (⟨0, []⟩ : DWheel) none nc0) hf41 (fun w hw => rd_nilN w hw) rfl ?_
   refine o_unguard 115 rfl rfl ?_
   refine o_p (p_eq rfl rfl) ?_
   refine o_pt rfl rfl rfl ?_
   exact o_sub (sr (Sub.skip rfl (Sub.skip rfl (Sub.skip rfl (Sub.skip rfl (Sub.skip rfl (Sub.refl _))))))) hk
  ·intro hb57 hk
   refine o_guard_no rfl 115 rfl rfl rfl rfl rfl ?_
   refine o_guard_no rfl 115 rfl rfl rfl rfl rfl ?_
   refine o_guard_no rfl 115 rfl rfl rfl rfl rfl ?_
   refine o_pf rfl rfl rfl ?_
   exact o_sub (sr (Sub.skip rfl (Sub.skip rfl (Sub.skip rfl (Sub.skip rfl (Sub.skip rfl (Sub.refl _))))))) hk
  refine o_as rfl rfl ?_
  refine o_nil (q_then (c_ret ?_))
  have hr0 : (((((((((((((Wh.addErr (Wh.new (100 : Int)) (⟨1, 103⟩ : DTimer)) == 0) && ((Wh.addErr (Wh.add (Wh.new (100 : Int)) (⟨1, 103⟩ : DTimer)) (⟨2, 700⟩ : DTimer)) == 0)) && ((Wh.addErr (Wh.add (Wh.add (Wh.new (100 : Int)) (⟨1, 103⟩ : DTimer)) (⟨2, 700⟩ : DTimer)) (⟨3, 101⟩ : DTimer)) == 0)) && ((Wh.next (Wh.add (Wh.add (Wh.add (Wh.new (100 : Int)) (⟨1, 103⟩ : DTimer)) (⟨2, 700⟩ : DTimer)) (⟨3, 101⟩ : DTimer))) == 101)) && ((Wh.nextErr (Wh.add (Wh.add (Wh.add (Wh.new (100 : Int)) (⟨1, 103⟩ : DTimer)) (⟨2, 700⟩ : DTimer)) (⟨3, 101⟩ : DTimer))) == 0)) && (decide ((Wh.gone (Wh.add (Wh.add (Wh.add (Wh.new (100 : Int)) (⟨1, 103⟩ : DTimer)) (⟨2, 700⟩ : DTimer)) (⟨3, 101⟩ : DTimer)) (103 : Int)) = ([(⟨3, 101⟩ : DTimer), (⟨1, 103⟩ : DTimer)])))) && ((Wh.advErr (Wh.add (Wh.add (Wh.add (Wh.new (100 : Int)) (⟨1, 103⟩ : DTimer)) (⟨2, 700⟩ : DTimer)) (⟨3, 101⟩ : DTimer)) (103 : Int)) == 0)) && ((Wh.cancelErr (Wh.adv (Wh.add (Wh.add (Wh.add (Wh.new (100 : Int)) (⟨1, 103⟩ : DTimer)) (⟨2, 700⟩ : DTimer)) (⟨3, 101⟩ : DTimer)) (103 : Int)) (2 : Int)) == 0)) && ((Wh.nextErr (Wh.cancel (Wh.adv (Wh.add (Wh.add (Wh.add (Wh.new (100 : Int)) (⟨1, 103⟩ : DTimer)) (⟨2, 700⟩ : DTimer)) (⟨3, 101⟩ : DTimer)) (103 : Int)) (2 : Int))) == 5)) && ((Wh.addErr (Wh.adv (Wh.add (Wh.add (Wh.add (Wh.new (100 : Int)) (⟨1, 103⟩ : DTimer)) (⟨2, 700⟩ : DTimer)) (⟨3, 101⟩ : DTimer)) (103 : Int)) (⟨4, 103⟩ : DTimer)) == 3)) && ((Wh.check (⟨0, []⟩ : DWheel)) == 1)) : Bool) = true := by
   first | rfl | decide +kernel
  refine q_end0 (v := .bool ((((((((((((Wh.addErr (Wh.new (100 : Int)) (⟨1, 103⟩ : DTimer)) == 0) && ((Wh.addErr (Wh.add (Wh.new (100 : Int)) (⟨1, 103⟩ : DTimer)) (⟨2, 700⟩ : DTimer)) == 0)) && ((Wh.addErr (Wh.add (Wh.add (Wh.new (100 : Int)) (⟨1, 103⟩ : DTimer)) (⟨2, 700⟩ : DTimer)) (⟨3, 101⟩ : DTimer)) == 0)) && ((Wh.next (Wh.add (Wh.add (Wh.add (Wh.new (100 : Int)) (⟨1, 103⟩ : DTimer)) (⟨2, 700⟩ : DTimer)) (⟨3, 101⟩ : DTimer))) == 101)) && ((Wh.nextErr (Wh.add (Wh.add (Wh.add (Wh.new (100 : Int)) (⟨1, 103⟩ : DTimer)) (⟨2, 700⟩ : DTimer)) (⟨3, 101⟩ : DTimer))) == 0)) && (decide ((Wh.gone (Wh.add (Wh.add (Wh.add (Wh.new (100 : Int)) (⟨1, 103⟩ : DTimer)) (⟨2, 700⟩ : DTimer)) (⟨3, 101⟩ : DTimer)) (103 : Int)) = ([(⟨3, 101⟩ : DTimer), (⟨1, 103⟩ : DTimer)])))) && ((Wh.advErr (Wh.add (Wh.add (Wh.add (Wh.new (100 : Int)) (⟨1, 103⟩ : DTimer)) (⟨2, 700⟩ : DTimer)) (⟨3, 101⟩ : DTimer)) (103 : Int)) == 0)) && ((Wh.cancelErr (Wh.adv (Wh.add (Wh.add (Wh.add (Wh.new (100 : Int)) (⟨1, 103⟩ : DTimer)) (⟨2, 700⟩ : DTimer)) (⟨3, 101⟩ : DTimer)) (103 : Int)) (2 : Int)) == 0)) && ((Wh.nextErr (Wh.cancel (Wh.adv (Wh.add (Wh.add (Wh.add (Wh.new (100 : Int)) (⟨1, 103⟩ : DTimer)) (⟨2, 700⟩ : DTimer)) (⟨3, 101⟩ : DTimer)) (103 : Int)) (2 : Int))) == 5)) && ((Wh.addErr (Wh.adv (Wh.add (Wh.add (Wh.add (Wh.new (100 : Int)) (⟨1, 103⟩ : DTimer)) (⟨2, 700⟩ : DTimer)) (⟨3, 101⟩ : DTimer)) (103 : Int)) (⟨4, 103⟩ : DTimer)) == 3)) && ((Wh.check (⟨0, []⟩ : DWheel)) == 1))) (rt1 rfl (r_tmp rfl)) (i := 11) rfl ?_
  exact (by have hcc := congrArg (fun (y0 : Bool) => (.bool y0 : Value)) hr0; exact hcc)
end Go.Proofs.Ytnmbkopnopaigaa

/- The walks, printed by a program from the translation and a specification. -/
namespace Go.Proofs.Ytnmbkopnopaigaa
open Go.Sx Go.RowKit
set_option maxHeartbeats 8000000 in
set_option maxRecDepth 100000 in
theorem timersSorted_ok (l : List DTimer) (al : Option Addr) (cl : Nat) (hy1 : l.length ≤ 1000) : FnM Try.prog 37 [.slice al l.length cl] (fun w => Rd tTimer w al cl l) (Option Addr × Nat) (fun p => .slice p.1 (Wh.isort l).length p.2) (fun p S w => SlO tTimer S w p.1 p.2 (Wh.isort l)) := by
 refine fnM (nt := 47) (F0 := [(0, .slice al l.length cl)]) Try.func37 rfl Try.ntmps37 rfl rfl (fun w0 hpre => ?_)
 have hl := hpre
 have hlhl := hl.2.1
 refine c_seq (c_region ?_)
 refine o_as rfl rfl ?_
 refine o_nil (q_then (c_seq (c_region ?_)))
 refine o_buildSlice (m := 0) (T := tTimer) (L := []) (vs := []) rfl rfl rfl rfl Try.underlying57 sz52 (by decide) ze52 rfl (by decide) rfl (fun S1 a2 => ?_)
 refine o_mv rfl rfl ?_
 refine o_append (i := 0) (L := []) (M := l) (T := tTimer) rfl rfl rfl (rd_base (i := 1) rfl hl) Try.underlying57 Try.underlying57 (by intro k h; cases h) el52 (by intro z; simp [tTimer, one1]) (by decide) (by first | omega | (simp only [List.length_cons, List.length_nil]; omega) | (simp only [List.length_append, List.length_cons, List.length_nil, List.length_take, List.length_drop]; omega)) rfl (fun a4 c5 S6 => ?_)
 refine o_as rfl rfl ?_
 refine o_nil (q_then (c_seq (c_region ?_)))
 refine o_as rfl rfl ?_
 refine o_nil (q_then (c_seq (c_block ?_)))
 refine c_ownNil tTimer ?_
 refine c_loop (St := List DTimer × Option Addr × Nat × (Nat → Prop) × List DTimer × Option Addr × Nat × (Nat → Prop))
  (fun ⟨left, aleft, cleft, Sleft, out, aout, cout, Sout⟩ => [(3, .slice aleft left.length cleft), (4, .slice aout out.length cout)])
  (fun ⟨left, aleft, cleft, Sleft, out, aout, cout, Sout⟩ => [own tTimer Sout aout cout out, own tTimer Sleft aleft cleft left, base w0])
  (fun ⟨left, aleft, cleft, Sleft, out, aout, cout, Sout⟩ => left.length ≤ l.length ∧ out ++ Wh.isort left = Wh.isort l)
  (fun ⟨left, aleft, cleft, Sleft, out, aout, cout, Sout⟩ => left.length)
  (([] ++ l), a4, c5, S6, [], none, 0, (fun _ => False)) ?_ (sr (sr (Sub.nil _))) (fun _ hw => hw) ?_
 ·exact ⟨by simp, by simp⟩
 rintro ⟨left, aleft, cleft, Sleft, out, aout, cout, Sout⟩ hI K hK8
 have hol : out.length ≤ l.length := by have h9 := congrArg List.length hI.2; simp only [List.length_append, Wh.isort_len] at h9; omega
 have hO := hI
 show SC _ _ Try.prog 47 w0 _ _ [(3, .slice aleft left.length cleft), (4, .slice aout out.length cout)] [own tTimer Sout aout cout out, own tTimer Sleft aleft cleft left, base w0]
 refine c_seq (c_seq (c_region ?_))
 refine o_mv rfl rfl ?_
 refine o_p (p_len_slice rfl rfl Try.underlying57) ?_
 refine o_p (p_gt rfl rfl) ?_
 refine o_nil (q_then ?_)
 refine c_cond rfl (fun hc9 => ?_) (fun hc9 => ?_)
 ·simp only [decide_eq_true_eq] at hc9
  refine c_skip (q_then (c_block (c_seq (c_region ?_))))
  refine o_as rfl rfl ?_
  refine o_nil (q_then (c_seq (c_seq (c_region ?_))))
  refine o_as rfl rfl ?_
  refine o_nil (q_then (c_block ?_))
  refine c_loop (St := Int × Nat)
   (fun ⟨best, i⟩ => [(3, .slice aleft left.length cleft), (4, .slice aout out.length cout), (5, Vi best), (6, Vi (i : Int))])
   (fun ⟨best, i⟩ => [own tTimer Sout aout cout out, own tTimer Sleft aleft cleft left, base w0])
   (fun ⟨best, i⟩ => Wh.BI left best i)
   (fun ⟨best, i⟩ => left.length - i)
   (0, 0) ?_ (sr (sr (sr (sr (Sub.nil _))))) (fun _ hw => hw) ?_
  ·exact Wh.BI.start (by omega)
  rintro ⟨best, i⟩ hI K hK10
  have hbb := hI.2.1
  have hil := hI.1
  show SC _ _ Try.prog 47 w0 _ _ [(3, .slice aleft left.length cleft), (4, .slice aout out.length cout), (5, Vi best), (6, Vi (i : Int))] [own tTimer Sout aout cout out, own tTimer Sleft aleft cleft left, base w0]
  refine c_seq (c_seq (c_region ?_))
  refine o_mv rfl rfl ?_
  refine o_mv rfl rfl ?_
  refine o_p (p_len_slice rfl rfl Try.underlying57) ?_
  refine o_p (p_lt rfl rfl) ?_
  refine o_nil (q_then ?_)
  refine c_cond rfl (fun hc11 => ?_) (fun hc11 => ?_)
  ·simp only [decide_eq_true_eq] at hc11
   refine c_skip (q_then (c_seq (c_block (c_seq ?_))))
   refine c_draw hmix (by kernel_rfl) ?_
   refine w_mv rfl rfl ?_
   refine w_mv rfl rfl ?_
   refine w_p (p_indexAddr (L := left) (T := tTimer) (i := (i : Int)) rfl rfl (rd_own (i := 1) rfl) Try.underlying57 sz52 (by omega) (by omega)) ?_
   refine w_p (p_loadEn (i := i) (T := tTimer) (L := left) (vs := [Vi ((left.getD i default).id), Vi ((left.getD i default).due)]) rfl (rd_own (i := 1) rfl) (by first | assumption | omega) sh52 (congrArg tTimer.enc (getd_at (by first | assumption | omega) default))) ?_
   refine w_mv rfl rfl ?_
   refine w_mv rfl rfl ?_
   refine w_p (p_indexAddr (L := left) (T := tTimer) (i := best) rfl rfl (rd_own (i := 1) rfl) Try.underlying57 sz52 (by omega) (by omega)) ?_
   refine w_p (p_loadEn (i := best.toNat) (T := tTimer) (L := left) (vs := [Vi ((left.getD best.toNat default).id), Vi ((left.getD best.toNat default).due)]) rfl (rd_own (i := 1) rfl) (by first | assumption | omega) sh52 (congrArg tTimer.enc (getd_at (by first | assumption | omega) default))) ?_
   refine w_call0 (v := .bool (Wh.ahead (left.getD i default) (left.getD best.toNat default))) rfl (timerAhead_ok (left.getD i default) (left.getD best.toNat default)) hf76 (fun _ _ => trivial) rfl ?_
   refine w_nil (q_then ?_)
   refine c_cond rfl (fun hc12 => ?_) (fun hc12 => ?_)
   ·skip
    have hah := hc12
    refine c_region ?_
    refine o_mv rfl rfl ?_
    refine o_as rfl rfl ?_
    refine o_nil ?_
    refine q_block_normal (q_then ?_)
    refine c_region ?_
    refine o_mv rfl rfl ?_
    refine o_p (p_addb rfl rfl (by omega)) ?_
    refine o_as rfl rfl ?_
    refine o_nil ?_
    refine q_round hK10 ((i : Int), i + 1) ?_ ?_ ?_ ?_
    ·clear hK10
     first | exact hI.yes (by omega) hah | exact hI.no (by omega) (by simpa using hah)
    ·(try dsimp only); omega
    ·exact sr (sr (sr (sr (Sub.nil _))))
    ·exact pk [0, 1, 2]
   ·skip
    have hah := hc12
    refine c_skip ?_
    refine q_block_normal (q_then ?_)
    refine c_region ?_
    refine o_mv rfl rfl ?_
    refine o_p (p_addb rfl rfl (by omega)) ?_
    refine o_as rfl rfl ?_
    refine o_nil ?_
    refine q_round hK10 (best, i + 1) ?_ ?_ ?_ ?_
    ·clear hK10
     first | exact hI.yes (by omega) hah | exact hI.no (by omega) (by simpa using hah)
    ·(try dsimp only); omega
    ·exact sr (sr (sr (sr (Sub.nil _))))
    ·exact pk [0, 1, 2]
  ·simp only [decide_eq_false_iff_not, Int.not_lt] at hc11
   refine c_exit ?_
   refine q_then_exit (q_then_exit (q_block_exit (q_then ?_)))
   refine c_seq (c_region ?_)
   refine o_mv rfl rfl ?_
   refine o_mv rfl rfl ?_
   refine o_mv rfl rfl ?_
   refine o_p (p_indexAddr (L := left) (T := tTimer) (i := best) rfl rfl (rd_own (i := 1) rfl) Try.underlying57 sz52 (by omega) (by omega)) ?_
   refine o_p (p_loadEn (i := best.toNat) (T := tTimer) (L := left) (vs := [Vi ((left.getD best.toNat default).id), Vi ((left.getD best.toNat default).due)]) rfl (rd_own (i := 1) rfl) (by first | assumption | omega) sh52 (congrArg tTimer.enc (getd_at (by first | assumption | omega) default))) ?_
   refine o_buildSlice (m := 1) (T := tTimer) (L := [(⟨(left.getD best.toNat default).id, (left.getD best.toNat default).due⟩ : DTimer)]) (vs := [.agg #[Vi ((left.getD best.toNat default).id), Vi ((left.getD best.toNat default).due)]]) rfl rfl rfl rfl Try.underlying57 sz52 (by decide) ze52 rfl (by decide) rfl (fun S13 a14 => ?_)
   refine o_append (i := 1) (L := out) (M := [(⟨(left.getD best.toNat default).id, (left.getD best.toNat default).due⟩ : DTimer)]) (T := tTimer) rfl rfl rfl (rd_own (i := 0) rfl) Try.underlying57 Try.underlying57 (by intro k h; cases h) el52 (by intro z; simp [tTimer, one1]) (by decide) (by first | omega | (simp only [List.length_cons, List.length_nil]; omega) | (simp only [List.length_append, List.length_cons, List.length_nil, List.length_take, List.length_drop]; omega)) rfl (fun a16 c17 S18 => ?_)
   refine o_as rfl rfl ?_
   refine o_nil (q_then ?_)
   refine c_held hmix [own tTimer S13 a14 ([(⟨(left.getD best.toNat default).id, (left.getD best.toNat default).due⟩ : DTimer)].length) ([(⟨(left.getD best.toNat default).id, (left.getD best.toNat default).due⟩ : DTimer)]), own tTimer S18 a16 c17 (out ++ [(⟨(left.getD best.toNat default).id, (left.getD best.toNat default).due⟩ : DTimer)]), own tTimer Sleft aleft cleft left, base w0] rfl rfl ?_
   refine h_t0 (i := 1) (ls := #[F0,T1,F0,F0,F0,F0,F0,F0,F0,F0,F0]) rfl (p_move rfl) ?_
   refine h_t0 (i := 2) (ls := #[F0,T1,T1,F0,F0,F0,F0,F0,F0,F0,F0]) rfl (p_move rfl) ?_
   refine h_t0 (i := 3) (ls := #[F0,T1,T1,T1,F0,F0,F0,F0,F0,F0,F0]) rfl (p_sliceH (L := left) (T := tTimer) (h := best) rfl rfl Try.underlying57 sz52 (by omega) (by omega) (rd_own (i := 2) rfl)) ?_
   refine h_t0 (i := 5) (ls := #[F0,T1,T1,T1,F0,T1,F0,F0,F0,F0,F0]) rfl (p_move rfl) ?_
   refine h_t0 (i := 6) (ls := #[F0,T1,T1,T1,F0,T1,T1,F0,F0,F0,F0]) rfl (p_move rfl) ?_
   refine h_t0 (i := 7) (ls := #[F0,T1,T1,T1,F0,T1,T1,T1,F0,F0,F0]) rfl (p_addb rfl rfl (by omega)) ?_
   refine h_t0 (i := 8) (ls := #[F0,T1,T1,T1,F0,T1,T1,T1,T1,F0,F0]) rfl (p_sliceL (L := left) (T := tTimer) (l := (best + 1)) rfl rfl Try.underlying57 sz52 (by omega) (by omega) (rd_own (i := 2) rfl)) ?_
   refine h_one (i := 0) (ls := #[T1,T1,T1,T1,F0,T1,T1,T1,T1,F0,F0]) (by kernel_rfl) rfl rfl ?_
   refine o_buildSlice (m := 0) (T := tTimer) (L := []) (vs := []) rfl rfl rfl rfl Try.underlying57 sz52 (by decide) ze52 rfl (by decide) rfl (fun S19_0 a19_0 => ?_)
   refine o_nil ?_
   refine h_next (dp (lz (lj (lj (lj (lj (ln))))))) ?_
   refine h_one (i := 4) (ls := #[T1,T1,T1,T1,T1,T1,T1,T1,T1,F0,F0]) (by kernel_rfl) rfl rfl ?_
   refine o_append (i := 0) (L := []) (M := (left.take best.toNat)) (T := tTimer) rfl rfl rfl (rd_takeC (hi := best.toNat) (rd_own (i := 3) rfl) (by omega)) Try.underlying57 Try.underlying57 (by intro k h; cases h) el52 (by intro z; simp [tTimer, one1]) (by decide) (by first | omega | (simp only [List.length_cons, List.length_nil]; omega) | (simp only [List.length_append, List.length_cons, List.length_nil, List.length_take, List.length_drop]; omega)) rfl (fun a19_4 c19_4 S19_4 => ?_)
   refine o_nil ?_
   refine h_next (dp (lz (lj (lj (lj (lj (ln))))))) ?_
   refine h_one (i := 9) (ls := #[T1,T1,T1,T1,T1,T1,T1,T1,T1,T1,F0]) (by kernel_rfl) rfl rfl ?_
   refine o_append (i := 0) (L := ([] ++ (left.take best.toNat))) (M := (left.drop ((best + 1).toNat))) (T := tTimer) rfl rfl rfl (rd_dropC (l := (best + 1).toNat) (rd_own (i := 3) rfl) (by omega)) Try.underlying57 Try.underlying57 (by intro k h; cases h) el52 (by intro z; simp [tTimer, one1]) (by decide) (by first | omega | (simp only [List.length_cons, List.length_nil]; omega) | (simp only [List.length_append, List.length_cons, List.length_nil, List.length_take, List.length_drop]; omega)) rfl (fun a19_9 c19_9 S19_9 => ?_)
   refine o_nil ?_
   refine h_next (dp (lz (lj (lj (lj (lj (ln))))))) ?_
   refine h_tk (i := 10) (ls := #[T1,T1,T1,T1,T1,T1,T1,T1,T1,T1,T1]) rfl (p_assign rfl) (dp (lz (lj (lj (lj (lj (ln))))))) ?_
   refine h_done (by kernel_rfl) ?_
   refine q_block_normal ?_
   refine q_round hK8 ((([] ++ (left.take best.toNat)) ++ (left.drop ((best + 1).toNat))), a19_9, c19_9, S19_9, (out ++ [(⟨(left.getD best.toNat default).id, (left.getD best.toNat default).due⟩ : DTimer)]), a16, c17, S18) ?_ ?_ ?_ ?_
   ·clear hK8
    exact ⟨by simp only [List.nil_append, List.length_append, List.length_take, List.length_drop]; omega, Wh.ts_next hO.2 hI (by omega)⟩
   ·(try dsimp only); simp only [List.nil_append, List.length_append, List.length_take, List.length_drop]; omega
   ·exact sr (sr (Sub.nil _))
   ·exact pk [2, 0, 4]
 ·simp only [decide_eq_false_iff_not, Int.not_lt] at hc9
  refine c_exit ?_
  refine q_then_exit (q_then_exit (q_block_exit (q_then ?_)))
  refine c_seq (c_region ?_)
  refine o_mv rfl rfl ?_
  refine o_as rfl rfl ?_
  refine o_nil (q_then (c_ret ?_))
  have hr0 : (out : List DTimer) = (Wh.isort l) := by
   (have h9 := hI.2; rw [show left = [] from List.length_eq_zero_iff.1 (by omega)] at h9; simpa [Wh.isort] using h9)
  refine q_endM (p := (aout, cout)) Sout (rt1 rfl (r_tmp rfl)) (i := 2) rfl ?_ ?_ ?_
  ·exact (by have hcc := congrArg (fun (y0 : List DTimer) => (.slice aout y0.length cout : Value)) hr0; exact hcc)
  ·exact fun w hw => hw.above (i := 2) (j := 0) (by decide) rfl rfl
  ·intro w hw; exact Eq.mp (congrArg (fun y => SlO tTimer _ w aout cout y) hr0) ((hw.at (i := 0) rfl).here)

set_option maxHeartbeats 8000000 in
set_option maxRecDepth 100000 in
theorem wheelOf_ok (now : Int) (l : List DTimer) (al : Option Addr) (cl : Nat) (hy1 : (0 ≤ now ∧ now ≤ 262143) ∧ l.length ≤ 1000 ∧ ∀ t ∈ l, 0 ≤ t.due ∧ t.due ≤ 262143) : FnM Try.prog 35 [Vi now, .slice al l.length cl] (fun w => Rd tTimer w al cl l) (Option Addr × NC) (fun p => .agg #[Vi ((Wh.of now l).now), .slice p.1 ((Wh.of now l).slots).length p.2.n]) (fun p S w => SlON tTimer S w p.1 p.2 ((Wh.of now l).slots)) := by
 refine fnM (nt := 49) (F0 := [(0, Vi now), (1, .slice al l.length cl)]) Try.func35 rfl Try.ntmps35 rfl rfl (fun w0 hpre => ?_)
 have hl := hpre
 have hlhl := hl.2.1
 refine c_seq (c_region ?_)
 refine o_alloc ze50 rfl (fun B1 => ?_)
 refine o_nil (q_then (c_seq (c_region ?_)))
 refine o_mv rfl rfl ?_
 refine o_makeSliceN (T := tTimer) (m := 48) rfl rfl Try.underlying48 el57 ze57 rfl (by omega) (by omega) rfl (fun S3 a2 => ?_)
 refine o_p (p_build (cells := [Vi now, .slice a2 (List.replicate 48 ([] : List DTimer)).length (ncz 48).n]) fp50 ze50 rfl rfl) ?_
 refine o_alloc ze50 rfl (fun B5 => ?_)
 refine o_storeN (i := 0) (vs := [Vi now, .slice a2 (List.replicate 48 ([] : List DTimer)).length (ncz 48).n]) (cs' := [Vi now, .slice a2 (List.replicate 48 ([] : List DTimer)).length (ncz 48).n]) rfl rfl rfl sz50 rfl rfl rfl rfl ?_
 refine o_nil (q_then (c_seq (c_region ?_)))
 refine o_mv rfl rfl ?_
 refine o_callM rfl (timersSorted_ok l al cl (by first | assumption | omega)) hf37 (fun w hw => (rd_base (i := 3) rfl hl) w hw) rfl (fun _ _ _ _ ha hA => SlO.agree ha hA) ?_
 rintro ⟨a8, c9⟩ S6
 refine o_know (fun w hw => own_len (i := 0) (T := tTimer) hw rfl) (fun hlr10 => ?_)
 refine o_as rfl rfl ?_
 refine o_nil (q_then (c_seq (c_seq (c_region ?_))))
 refine o_as rfl rfl ?_
 refine o_nil (q_then (c_block ?_))
 refine c_loop (St := Nat × DWheel × Option Addr × NC × (Nat → Prop))
  (fun ⟨i, oo, aoo_0, coo_0, Soo_0⟩ => [(0, Vi now), (1, .slice a8 (Wh.isort l).length c9), (4, .pointer (some ⟨B1, 0, none⟩)), (5, .pointer (some ⟨B5, 0, none⟩)), (6, Vi (i : Int))])
  (fun ⟨i, oo, aoo_0, coo_0, Soo_0⟩ => [own tTimer S6 a8 c9 (Wh.isort l), box B5 [Vi oo.now, .slice aoo_0 oo.slots.length coo_0.n] 50, ownN tTimer Soo_0 aoo_0 coo_0 oo.slots, box B1 [Vi 0, .slice none 0 0] 50, base w0])
  (fun ⟨i, oo, aoo_0, coo_0, Soo_0⟩ => i ≤ (Wh.isort l).length ∧ oo = Wh.ofI now l i)
  (fun ⟨i, oo, aoo_0, coo_0, Soo_0⟩ => (Wh.isort l).length - i)
  (0, (⟨now, (List.replicate 48 ([] : List DTimer))⟩ : DWheel), a2, (ncz 48), S3) ?_ (sr (sr (sr (sr (sr (Sub.nil _)))))) (fun _ hw => hw) ?_
 ·exact ⟨Nat.zero_le _, Wh.of_start now l⟩
 rintro ⟨i, oo, aoo_0, coo_0, Soo_0⟩ hI K hK11
 have hol : oo.slots.length = 48 := by rw [hI.2]; exact Wh.of_len _ _ _
 have hor : ∀ j, (oo.slots.getD j []).length ≤ l.length := by rw [hI.2]; exact Wh.of_row _ _ _
 show SC _ _ Try.prog 49 w0 _ _ [(0, Vi now), (1, .slice a8 (Wh.isort l).length c9), (4, .pointer (some ⟨B1, 0, none⟩)), (5, .pointer (some ⟨B5, 0, none⟩)), (6, Vi (i : Int))] [own tTimer S6 a8 c9 (Wh.isort l), box B5 [Vi oo.now, .slice aoo_0 oo.slots.length coo_0.n] 50, ownN tTimer Soo_0 aoo_0 coo_0 oo.slots, box B1 [Vi 0, .slice none 0 0] 50, base w0]
 refine c_seq (c_seq (c_region ?_))
 refine o_mv rfl rfl ?_
 refine o_mv rfl rfl ?_
 refine o_p (p_len_slice rfl rfl Try.underlying57) ?_
 refine o_p (p_lt rfl rfl) ?_
 refine o_nil (q_then ?_)
 refine c_cond rfl (fun hc12 => ?_) (fun hc12 => ?_)
 ·simp only [decide_eq_true_eq] at hc12
  refine c_skip (q_then (c_seq (c_block (c_seq (c_region ?_)))))
  refine o_mv rfl rfl ?_
  refine o_mv rfl rfl ?_
  refine o_p (p_indexAddr (L := (Wh.isort l)) (T := tTimer) (i := (i : Int)) rfl rfl (rd_own (i := 0) rfl) Try.underlying57 sz52 (by omega) (by omega)) ?_
  refine o_p (p_fieldAddrE rfl fo52_1) ?_
  refine o_p (p_loadF (i := i) (j := 1) (T := tTimer) (L := (Wh.isort l)) (v := Vi (((Wh.isort l).getD i default).due)) rfl (rd_own (i := 0) rfl) (by first | assumption | omega) sh3 (congrArg (fun z => (tTimer.enc z)[1]?) (getd_at (by first | assumption | omega) default))) ?_
  refine o_mv rfl rfl ?_
  refine o_p (p_gt rfl rfl) ?_
  refine o_nil (q_then ?_)
  refine c_cond rfl (fun hc13 => ?_) (fun hc13 => ?_)
  ·simp only [decide_eq_true_eq] at hc13
   have hnl := hc13
   have hdb := Wh.of_due hy1.2.2 (show i < (Wh.isort l).length by omega)
   have hp9 := Wh.place_bd ((Wh.isort l).getD i default).due now
   have hr9 := hor (Wh.place ((Wh.isort l).getD i default).due now).toNat
   refine c_seq (c_region ?_)
   refine o_mv rfl rfl ?_
   refine o_mv rfl rfl ?_
   refine o_p (p_indexAddr (L := (Wh.isort l)) (T := tTimer) (i := (i : Int)) rfl rfl (rd_own (i := 0) rfl) Try.underlying57 sz52 (by omega) (by omega)) ?_
   refine o_p (p_fieldAddrE rfl fo52_1) ?_
   refine o_p (p_loadF (i := i) (j := 1) (T := tTimer) (L := (Wh.isort l)) (v := Vi (((Wh.isort l).getD i default).due)) rfl (rd_own (i := 0) rfl) (by first | assumption | omega) sh3 (congrArg (fun z => (tTimer.enc z)[1]?) (getd_at (by first | assumption | omega) default))) ?_
   refine o_mv rfl rfl ?_
   refine o_call0 (v := Vi (Wh.place (((Wh.isort l).getD i default).due) now)) rfl (wheelPlace_ok (((Wh.isort l).getD i default).due) now (by first | assumption | omega) (by first | assumption | omega)) hf75 (fun _ _ => trivial) rfl ?_
   refine o_as rfl rfl ?_
   refine o_nil (q_then ?_)
   refine c_cut (G := (Nat → Prop) × Option Addr × Option Addr × Nat × (Nat → Prop)) (fun ⟨S14_12, a14_12, a14_13, c14_13, S14_15⟩ => [(0, Vi now), (1, .slice a8 (Wh.isort l).length c9), (4, .pointer (some ⟨B1, 0, none⟩)), (5, .pointer (some ⟨B5, 0, none⟩)), (6, Vi (i : Int))]) (fun ⟨S14_12, a14_12, a14_13, c14_13, S14_15⟩ => [ownN tTimer S14_15 aoo_0 (coo_0.put ((Wh.place (((Wh.isort l).getD i default).due) now).toNat) a14_13 c14_13) (oo.slots.set ((Wh.place (((Wh.isort l).getD i default).due) now).toNat) ((oo.slots.getD ((Wh.place (((Wh.isort l).getD i default).due) now).toNat) []) ++ [(⟨((Wh.isort l).getD i default).id, ((Wh.isort l).getD i default).due⟩ : DTimer)])), own tTimer S14_12 a14_12 ([(⟨((Wh.isort l).getD i default).id, ((Wh.isort l).getD i default).due⟩ : DTimer)].length) ([(⟨((Wh.isort l).getD i default).id, ((Wh.isort l).getD i default).due⟩ : DTimer)]), own tTimer S6 a8 c9 (Wh.isort l), box B5 [Vi oo.now, .slice aoo_0 oo.slots.length coo_0.n] 50, box B1 [Vi 0, .slice none 0 0] 50, base w0]) (fun K hK15 => ?_) ?_
   ·refine c_held hmix [own tTimer S6 a8 c9 (Wh.isort l), box B5 [Vi oo.now, .slice aoo_0 oo.slots.length coo_0.n] 50, box B1 [Vi 0, .slice none 0 0] 50, base w0] rfl rfl ?_
    refine h_tk (i := 0) (ls := #[T1,F0,F0,F0,F0,F0,F0,F0,F0,F0,F0,F0,F0,F0,F0,F0]) rfl (p_fieldAddr (j' := 1) rfl fo50_1 rfl) (dp (lj (lj (lz (lj (lj (ln))))))) ?_
    refine h_tk (i := 1) (ls := #[T1,T1,F0,F0,F0,F0,F0,F0,F0,F0,F0,F0,F0,F0,F0,F0]) rfl (p_load (i := 1) (v := .slice aoo_0 oo.slots.length coo_0.n) rfl rfl sh48 rfl) (dp (lj (lj (lz (lj (lj (ln))))))) ?_
    refine h_tk (i := 2) (ls := #[T1,T1,T1,F0,F0,F0,F0,F0,F0,F0,F0,F0,F0,F0,F0,F0]) rfl (p_move rfl) (dp (lj (lj (lz (lj (lj (ln))))))) ?_
    refine h_tk (i := 3) (ls := #[T1,T1,T1,T1,F0,F0,F0,F0,F0,F0,F0,F0,F0,F0,F0,F0]) rfl (p_fieldAddr (j' := 1) rfl fo50_1 rfl) (dp (lj (lj (lz (lj (lj (ln))))))) ?_
    refine h_tk (i := 4) (ls := #[T1,T1,T1,T1,T1,F0,F0,F0,F0,F0,F0,F0,F0,F0,F0,F0]) rfl (p_load (i := 1) (v := .slice aoo_0 oo.slots.length coo_0.n) rfl rfl sh48 rfl) (dp (lj (lj (lz (lj (lj (ln))))))) ?_
    refine h_tk (i := 5) (ls := #[T1,T1,T1,T1,T1,T1,F0,F0,F0,F0,F0,F0,F0,F0,F0,F0]) rfl (p_move rfl) (dp (lj (lj (lz (lj (lj (ln))))))) ?_
    refine h_tk (i := 8) (ls := #[T1,T1,T1,T1,T1,T1,F0,F0,T1,F0,F0,F0,F0,F0,F0,F0]) rfl (p_move rfl) (dp (lj (lj (lz (lj (lj (ln))))))) ?_
    refine h_tk (i := 9) (ls := #[T1,T1,T1,T1,T1,T1,F0,F0,T1,T1,F0,F0,F0,F0,F0,F0]) rfl (p_move rfl) (dp (lj (lj (lz (lj (lj (ln))))))) ?_
    refine h_tk (i := 10) (ls := #[T1,T1,T1,T1,T1,T1,F0,F0,T1,T1,T1,F0,F0,F0,F0,F0]) rfl (p_indexAddr (L := (Wh.isort l)) (T := tTimer) (i := (i : Int)) rfl rfl (rd_own (i := 0) rfl) Try.underlying57 sz52 (by omega) (by omega)) (dp (lj (lj (lz (lj (lj (ln))))))) ?_
    refine h_tk (i := 11) (ls := #[T1,T1,T1,T1,T1,T1,F0,F0,T1,T1,T1,T1,F0,F0,F0,F0]) rfl (p_loadEn (i := i) (T := tTimer) (L := (Wh.isort l)) (vs := [Vi (((Wh.isort l).getD i default).id), Vi (((Wh.isort l).getD i default).due)]) rfl (rd_own (i := 0) rfl) (by first | assumption | omega) sh52 (congrArg tTimer.enc (getd_at (by first | assumption | omega) default))) (dp (lj (lj (lz (lj (lj (ln))))))) ?_
    refine h_two (i := 6) (j := 12) (ls := #[T1,T1,T1,T1,T1,T1,T1,F0,T1,T1,T1,T1,F0,F0,F0,F0]) (ls' := #[T1,T1,T1,T1,T1,T1,F0,F0,T1,T1,T1,T1,T1,F0,F0,F0]) (by kernel_rfl) rfl rfl rfl rfl ?_ ?_
    ·refine o_p (p_indexAddrN (T := tTimer) (c := coo_0) (LL := oo.slots) (i := (Wh.place (((Wh.isort l).getD i default).due) now)) rfl rfl (rd_ownN (i := 2) rfl) Try.underlying48 sz57 (by first | omega | decide) (by first | omega | decide)) ?_
     refine o_nil ?_
     refine h_next (dp (lj (lj (lz (lj (lj (ln))))))) ?_
     refine h_two (i := 7) (j := 12) (ls := #[T1,T1,T1,T1,T1,T1,T1,T1,T1,T1,T1,T1,F0,F0,F0,F0]) (ls' := #[T1,T1,T1,T1,T1,T1,T1,F0,T1,T1,T1,T1,T1,F0,F0,F0]) (by kernel_rfl) rfl rfl rfl rfl ?_ ?_
     ·refine o_p (p_loadN (T := tTimer) (c := coo_0) (LL := oo.slots) (i := (Wh.place (((Wh.isort l).getD i default).due) now).toNat) rfl (rd_ownN (i := 2) rfl) (by first | assumption | omega | decide) sh57) ?_
      refine o_nil ?_
      refine h_next (dp (lj (lj (lz (lj (lj (ln))))))) ?_
      refine h_one (i := 12) (ls := #[T1,T1,T1,T1,T1,T1,T1,T1,T1,T1,T1,T1,T1,F0,F0,F0]) (by kernel_rfl) rfl rfl ?_
      refine o_buildSlice (m := 1) (T := tTimer) (L := [(⟨((Wh.isort l).getD i default).id, ((Wh.isort l).getD i default).due⟩ : DTimer)]) (vs := [.agg #[Vi (((Wh.isort l).getD i default).id), Vi (((Wh.isort l).getD i default).due)]]) rfl rfl rfl rfl Try.underlying57 sz52 (by decide) ze52 rfl (by decide) rfl (fun S14_12 a14_12 => ?_)
      refine o_nil ?_
      refine h_next (dp (lz (lj (lj (lz (lj (lj (ln)))))))) ?_
      refine h_one (i := 13) (ls := #[T1,T1,T1,T1,T1,T1,T1,T1,T1,T1,T1,T1,T1,T1,F0,F0]) (by kernel_rfl) rfl rfl ?_
      refine o_pick (H' := [ownN tTimer Soo_0 aoo_0 coo_0 oo.slots, own tTimer S14_12 a14_12 ([(⟨((Wh.isort l).getD i default).id, ((Wh.isort l).getD i default).due⟩ : DTimer)].length) ([(⟨((Wh.isort l).getD i default).id, ((Wh.isort l).getD i default).due⟩ : DTimer)]), own tTimer S6 a8 c9 (Wh.isort l), box B5 [Vi oo.now, .slice aoo_0 oo.slots.length coo_0.n] 50, box B1 [Vi 0, .slice none 0 0] 50, base w0]) [3, 0, 1, 2, 4, 5] (by decide) rfl ?_
      refine o_outN (k := (Wh.place (((Wh.isort l).getD i default).due) now).toNat) (by first | assumption | omega) (fun S14_13 S14_13_1 => ?_)
      refine o_append (i := 0) (L := (oo.slots.getD ((Wh.place (((Wh.isort l).getD i default).due) now).toNat) [])) (M := [(⟨((Wh.isort l).getD i default).id, ((Wh.isort l).getD i default).due⟩ : DTimer)]) (T := tTimer) rfl rfl rfl (rd_own (i := 2) rfl) Try.underlying57 Try.underlying57 (by intro k h; cases h) el52 (by intro z; simp [tTimer, one1]) (by decide) (by first | omega | (simp only [List.length_cons, List.length_nil]; omega) | (simp only [List.length_append, List.length_cons, List.length_nil, List.length_take, List.length_drop]; omega)) rfl (fun a14_13 c14_13 S14_13_2 => ?_)
      refine o_nil ?_
      refine h_next (dp (lz (lz (lz (lj (lj (lj (lj (ln))))))))) ?_
      refine h_one (i := 14) (ls := #[T1,T1,T1,T1,T1,T1,T1,T1,T1,T1,T1,T1,T1,T1,T1,F0]) (by kernel_rfl) rfl rfl ?_
      refine o_p (p_indexAddrX (T := tTimer) (c := coo_0) (LL := oo.slots) (i := (Wh.place (((Wh.isort l).getD i default).due) now)) (j := 1) rfl rfl rfl Try.underlying48 sz57 (by first | omega | decide) (by first | omega | decide)) ?_
      refine o_nil ?_
      refine h_next (dp (lz (lz (lz (lj (lj (lj (lj (ln))))))))) ?_
      refine h_one (i := 15) (ls := #[T1,T1,T1,T1,T1,T1,T1,T1,T1,T1,T1,T1,T1,T1,T1,T1]) (by kernel_rfl) rfl rfl ?_
      refine o_storeRow (k := (Wh.place (((Wh.isort l).getD i default).due) now).toNat) (T := tTimer) rfl rfl (by first | assumption | omega | (simp only [List.length_set]; omega)) sz57 (Sub.refl _) (fun S14_15 => ?_)
      refine o_nil ?_
      refine h_next (dp (lz (lz (lj (lj (lj (lj (ln)))))))) ?_
      refine h_done (by kernel_rfl) ?_
      refine q_kont hK15 (S14_12, a14_12, a14_13, c14_13, S14_15) (sr (sr (sr (sr (sr (Sub.nil _)))))) (pk [0, 1, 2, 3, 4, 5])
     ·refine o_buildSlice (m := 1) (T := tTimer) (L := [(⟨((Wh.isort l).getD i default).id, ((Wh.isort l).getD i default).due⟩ : DTimer)]) (vs := [.agg #[Vi (((Wh.isort l).getD i default).id), Vi (((Wh.isort l).getD i default).due)]]) rfl rfl rfl rfl Try.underlying57 sz52 (by decide) ze52 rfl (by decide) rfl (fun S14_12 a14_12 => ?_)
      refine o_nil ?_
      refine h_next (dp (lz (lj (lj (lz (lj (lj (ln)))))))) ?_
      refine h_one (i := 7) (ls := #[T1,T1,T1,T1,T1,T1,T1,T1,T1,T1,T1,T1,T1,F0,F0,F0]) (by kernel_rfl) rfl rfl ?_
      refine o_p (p_loadN (T := tTimer) (c := coo_0) (LL := oo.slots) (i := (Wh.place (((Wh.isort l).getD i default).due) now).toNat) rfl (rd_ownN (i := 3) rfl) (by first | assumption | omega | decide) sh57) ?_
      refine o_nil ?_
      refine h_next (dp (lz (lj (lj (lz (lj (lj (ln)))))))) ?_
      refine h_one (i := 13) (ls := #[T1,T1,T1,T1,T1,T1,T1,T1,T1,T1,T1,T1,T1,T1,F0,F0]) (by kernel_rfl) rfl rfl ?_
      refine o_pick (H' := [ownN tTimer Soo_0 aoo_0 coo_0 oo.slots, own tTimer S14_12 a14_12 ([(⟨((Wh.isort l).getD i default).id, ((Wh.isort l).getD i default).due⟩ : DTimer)].length) ([(⟨((Wh.isort l).getD i default).id, ((Wh.isort l).getD i default).due⟩ : DTimer)]), own tTimer S6 a8 c9 (Wh.isort l), box B5 [Vi oo.now, .slice aoo_0 oo.slots.length coo_0.n] 50, box B1 [Vi 0, .slice none 0 0] 50, base w0]) [3, 0, 1, 2, 4, 5] (by decide) rfl ?_
      refine o_outN (k := (Wh.place (((Wh.isort l).getD i default).due) now).toNat) (by first | assumption | omega) (fun S14_13 S14_13_1 => ?_)
      refine o_append (i := 0) (L := (oo.slots.getD ((Wh.place (((Wh.isort l).getD i default).due) now).toNat) [])) (M := [(⟨((Wh.isort l).getD i default).id, ((Wh.isort l).getD i default).due⟩ : DTimer)]) (T := tTimer) rfl rfl rfl (rd_own (i := 2) rfl) Try.underlying57 Try.underlying57 (by intro k h; cases h) el52 (by intro z; simp [tTimer, one1]) (by decide) (by first | omega | (simp only [List.length_cons, List.length_nil]; omega) | (simp only [List.length_append, List.length_cons, List.length_nil, List.length_take, List.length_drop]; omega)) rfl (fun a14_13 c14_13 S14_13_2 => ?_)
      refine o_nil ?_
      refine h_next (dp (lz (lz (lz (lj (lj (lj (lj (ln))))))))) ?_
      refine h_one (i := 14) (ls := #[T1,T1,T1,T1,T1,T1,T1,T1,T1,T1,T1,T1,T1,T1,T1,F0]) (by kernel_rfl) rfl rfl ?_
      refine o_p (p_indexAddrX (T := tTimer) (c := coo_0) (LL := oo.slots) (i := (Wh.place (((Wh.isort l).getD i default).due) now)) (j := 1) rfl rfl rfl Try.underlying48 sz57 (by first | omega | decide) (by first | omega | decide)) ?_
      refine o_nil ?_
      refine h_next (dp (lz (lz (lz (lj (lj (lj (lj (ln))))))))) ?_
      refine h_one (i := 15) (ls := #[T1,T1,T1,T1,T1,T1,T1,T1,T1,T1,T1,T1,T1,T1,T1,T1]) (by kernel_rfl) rfl rfl ?_
      refine o_storeRow (k := (Wh.place (((Wh.isort l).getD i default).due) now).toNat) (T := tTimer) rfl rfl (by first | assumption | omega | (simp only [List.length_set]; omega)) sz57 (Sub.refl _) (fun S14_15 => ?_)
      refine o_nil ?_
      refine h_next (dp (lz (lz (lj (lj (lj (lj (ln)))))))) ?_
      refine h_done (by kernel_rfl) ?_
      refine q_kont hK15 (S14_12, a14_12, a14_13, c14_13, S14_15) (sr (sr (sr (sr (sr (Sub.nil _)))))) (pk [0, 1, 2, 3, 4, 5])
    ·refine o_buildSlice (m := 1) (T := tTimer) (L := [(⟨((Wh.isort l).getD i default).id, ((Wh.isort l).getD i default).due⟩ : DTimer)]) (vs := [.agg #[Vi (((Wh.isort l).getD i default).id), Vi (((Wh.isort l).getD i default).due)]]) rfl rfl rfl rfl Try.underlying57 sz52 (by decide) ze52 rfl (by decide) rfl (fun S14_12 a14_12 => ?_)
     refine o_nil ?_
     refine h_next (dp (lz (lj (lj (lz (lj (lj (ln)))))))) ?_
     refine h_one (i := 6) (ls := #[T1,T1,T1,T1,T1,T1,T1,F0,T1,T1,T1,T1,T1,F0,F0,F0]) (by kernel_rfl) rfl rfl ?_
     refine o_p (p_indexAddrN (T := tTimer) (c := coo_0) (LL := oo.slots) (i := (Wh.place (((Wh.isort l).getD i default).due) now)) rfl rfl (rd_ownN (i := 3) rfl) Try.underlying48 sz57 (by first | omega | decide) (by first | omega | decide)) ?_
     refine o_nil ?_
     refine h_next (dp (lz (lj (lj (lz (lj (lj (ln)))))))) ?_
     refine h_one (i := 7) (ls := #[T1,T1,T1,T1,T1,T1,T1,T1,T1,T1,T1,T1,T1,F0,F0,F0]) (by kernel_rfl) rfl rfl ?_
     refine o_p (p_loadN (T := tTimer) (c := coo_0) (LL := oo.slots) (i := (Wh.place (((Wh.isort l).getD i default).due) now).toNat) rfl (rd_ownN (i := 3) rfl) (by first | assumption | omega | decide) sh57) ?_
     refine o_nil ?_
     refine h_next (dp (lz (lj (lj (lz (lj (lj (ln)))))))) ?_
     refine h_one (i := 13) (ls := #[T1,T1,T1,T1,T1,T1,T1,T1,T1,T1,T1,T1,T1,T1,F0,F0]) (by kernel_rfl) rfl rfl ?_
     refine o_pick (H' := [ownN tTimer Soo_0 aoo_0 coo_0 oo.slots, own tTimer S14_12 a14_12 ([(⟨((Wh.isort l).getD i default).id, ((Wh.isort l).getD i default).due⟩ : DTimer)].length) ([(⟨((Wh.isort l).getD i default).id, ((Wh.isort l).getD i default).due⟩ : DTimer)]), own tTimer S6 a8 c9 (Wh.isort l), box B5 [Vi oo.now, .slice aoo_0 oo.slots.length coo_0.n] 50, box B1 [Vi 0, .slice none 0 0] 50, base w0]) [3, 0, 1, 2, 4, 5] (by decide) rfl ?_
     refine o_outN (k := (Wh.place (((Wh.isort l).getD i default).due) now).toNat) (by first | assumption | omega) (fun S14_13 S14_13_1 => ?_)
     refine o_append (i := 0) (L := (oo.slots.getD ((Wh.place (((Wh.isort l).getD i default).due) now).toNat) [])) (M := [(⟨((Wh.isort l).getD i default).id, ((Wh.isort l).getD i default).due⟩ : DTimer)]) (T := tTimer) rfl rfl rfl (rd_own (i := 2) rfl) Try.underlying57 Try.underlying57 (by intro k h; cases h) el52 (by intro z; simp [tTimer, one1]) (by decide) (by first | omega | (simp only [List.length_cons, List.length_nil]; omega) | (simp only [List.length_append, List.length_cons, List.length_nil, List.length_take, List.length_drop]; omega)) rfl (fun a14_13 c14_13 S14_13_2 => ?_)
     refine o_nil ?_
     refine h_next (dp (lz (lz (lz (lj (lj (lj (lj (ln))))))))) ?_
     refine h_one (i := 14) (ls := #[T1,T1,T1,T1,T1,T1,T1,T1,T1,T1,T1,T1,T1,T1,T1,F0]) (by kernel_rfl) rfl rfl ?_
     refine o_p (p_indexAddrX (T := tTimer) (c := coo_0) (LL := oo.slots) (i := (Wh.place (((Wh.isort l).getD i default).due) now)) (j := 1) rfl rfl rfl Try.underlying48 sz57 (by first | omega | decide) (by first | omega | decide)) ?_
     refine o_nil ?_
     refine h_next (dp (lz (lz (lz (lj (lj (lj (lj (ln))))))))) ?_
     refine h_one (i := 15) (ls := #[T1,T1,T1,T1,T1,T1,T1,T1,T1,T1,T1,T1,T1,T1,T1,T1]) (by kernel_rfl) rfl rfl ?_
     refine o_storeRow (k := (Wh.place (((Wh.isort l).getD i default).due) now).toNat) (T := tTimer) rfl rfl (by first | assumption | omega | (simp only [List.length_set]; omega)) sz57 (Sub.refl _) (fun S14_15 => ?_)
     refine o_nil ?_
     refine h_next (dp (lz (lz (lj (lj (lj (lj (ln)))))))) ?_
     refine h_done (by kernel_rfl) ?_
     refine q_kont hK15 (S14_12, a14_12, a14_13, c14_13, S14_15) (sr (sr (sr (sr (sr (Sub.nil _)))))) (pk [0, 1, 2, 3, 4, 5])
   rintro ⟨S14_12, a14_12, a14_13, c14_13, S14_15⟩
   show SQ _ 49 w0 _ _ [(0, Vi now), (1, .slice a8 (Wh.isort l).length c9), (4, .pointer (some ⟨B1, 0, none⟩)), (5, .pointer (some ⟨B5, 0, none⟩)), (6, Vi (i : Int))] [ownN tTimer S14_15 aoo_0 (coo_0.put ((Wh.place (((Wh.isort l).getD i default).due) now).toNat) a14_13 c14_13) (oo.slots.set ((Wh.place (((Wh.isort l).getD i default).due) now).toNat) ((oo.slots.getD ((Wh.place (((Wh.isort l).getD i default).due) now).toNat) []) ++ [(⟨((Wh.isort l).getD i default).id, ((Wh.isort l).getD i default).due⟩ : DTimer)])), own tTimer S14_12 a14_12 ([(⟨((Wh.isort l).getD i default).id, ((Wh.isort l).getD i default).due⟩ : DTimer)].length) ([(⟨((Wh.isort l).getD i default).id, ((Wh.isort l).getD i default).due⟩ : DTimer)]), own tTimer S6 a8 c9 (Wh.isort l), box B5 [Vi oo.now, .slice aoo_0 oo.slots.length coo_0.n] 50, box B1 [Vi 0, .slice none 0 0] 50, base w0]
   refine q_cast (F' := [(0, Vi now), (1, .slice a8 (Wh.isort l).length c9), (4, .pointer (some ⟨B1, 0, none⟩)), (5, .pointer (some ⟨B5, 0, none⟩)), (6, Vi (i : Int))]) (H := [ownN tTimer S14_15 aoo_0 (coo_0.put ((Wh.place (((Wh.isort l).getD i default).due) now).toNat) a14_13 c14_13) (oo.slots.set ((Wh.place (((Wh.isort l).getD i default).due) now).toNat) ((oo.slots.getD ((Wh.place (((Wh.isort l).getD i default).due) now).toNat) []) ++ [(⟨((Wh.isort l).getD i default).id, ((Wh.isort l).getD i default).due⟩ : DTimer)])), own tTimer S14_12 a14_12 ([(⟨((Wh.isort l).getD i default).id, ((Wh.isort l).getD i default).due⟩ : DTimer)].length) ([(⟨((Wh.isort l).getD i default).id, ((Wh.isort l).getD i default).due⟩ : DTimer)]), own tTimer S6 a8 c9 (Wh.isort l), box B5 [Vi oo.now, .slice aoo_0 oo.slots.length coo_0.n] 50, box B1 [Vi 0, .slice none 0 0] 50, base w0]) (H' := [ownN tTimer S14_15 aoo_0 (coo_0.put ((Wh.place (((Wh.isort l).getD i default).due) now).toNat) a14_13 c14_13) (oo.slots.set ((Wh.place (((Wh.isort l).getD i default).due) now).toNat) ((oo.slots.getD ((Wh.place (((Wh.isort l).getD i default).due) now).toNat) []) ++ [(⟨((Wh.isort l).getD i default).id, ((Wh.isort l).getD i default).due⟩ : DTimer)])), own tTimer S14_12 a14_12 ([(⟨((Wh.isort l).getD i default).id, ((Wh.isort l).getD i default).due⟩ : DTimer)].length) ([(⟨((Wh.isort l).getD i default).id, ((Wh.isort l).getD i default).due⟩ : DTimer)]), own tTimer S6 a8 c9 (Wh.isort l), box B5 [Vi oo.now, .slice aoo_0 (oo.slots.set ((Wh.place (((Wh.isort l).getD i default).due) now).toNat) ((oo.slots.getD ((Wh.place (((Wh.isort l).getD i default).due) now).toNat) []) ++ [(⟨((Wh.isort l).getD i default).id, ((Wh.isort l).getD i default).due⟩ : DTimer)])).length (coo_0.put ((Wh.place (((Wh.isort l).getD i default).due) now).toNat) a14_13 c14_13).n] 50, box B1 [Vi 0, .slice none 0 0] 50, base w0]) (sr (sr (sr (sr (sr (Sub.nil _)))))) (by simp only [List.length_set, List.length_reverse, NC.put_n]) ?_
   refine q_block_normal (q_then ?_)
   refine c_region ?_
   refine o_mv rfl rfl ?_
   refine o_p (p_addb rfl rfl (by omega)) ?_
   refine o_as rfl rfl ?_
   refine o_nil ?_
   refine q_round hK11 (i + 1, (⟨oo.now, (oo.slots.set ((Wh.place (((Wh.isort l).getD i default).due) now).toNat) ((oo.slots.getD ((Wh.place (((Wh.isort l).getD i default).due) now).toNat) []) ++ [(⟨((Wh.isort l).getD i default).id, ((Wh.isort l).getD i default).due⟩ : DTimer)]))⟩ : DWheel), aoo_0, (coo_0.put ((Wh.place (((Wh.isort l).getD i default).due) now).toNat) a14_13 c14_13), S14_15) ?_ ?_ ?_ ?_
   ·clear hK11
    first | exact ⟨by omega, Wh.of_yes hI.2 (by omega) hnl⟩ | exact ⟨by omega, Wh.of_no hI.2 (by omega) (by omega)⟩
   ·(try dsimp only); omega
   ·exact sr (sr (sr (sr (sr (Sub.nil _)))))
   ·exact pk [2, 3, 0, 4, 5]
  ·simp only [decide_eq_false_iff_not, Int.not_lt] at hc13
   have hnl := hc13
   refine c_skip ?_
   refine q_block_normal (q_then ?_)
   refine c_region ?_
   refine o_mv rfl rfl ?_
   refine o_p (p_addb rfl rfl (by omega)) ?_
   refine o_as rfl rfl ?_
   refine o_nil ?_
   refine q_round hK11 (i + 1, oo, aoo_0, coo_0, Soo_0) ?_ ?_ ?_ ?_
   ·clear hK11
    first | exact ⟨by omega, Wh.of_yes hI.2 (by omega) hnl⟩ | exact ⟨by omega, Wh.of_no hI.2 (by omega) (by omega)⟩
   ·(try dsimp only); omega
   ·exact sr (sr (sr (sr (sr (Sub.nil _)))))
   ·exact pk [0, 1, 2, 3, 4]
 ·simp only [decide_eq_false_iff_not, Int.not_lt] at hc12
  refine c_exit ?_
  refine q_then_exit (q_then_exit (q_block_exit (q_then ?_)))
  refine c_seq (c_region ?_)
  refine o_p (p_load_agg (i := 1) (vs := [Vi oo.now, .slice aoo_0 oo.slots.length coo_0.n]) rfl rfl sh50 rfl rfl) ?_
  refine o_storeN (i := 3) (vs := [Vi oo.now, .slice aoo_0 oo.slots.length coo_0.n]) (cs' := [Vi oo.now, .slice aoo_0 oo.slots.length coo_0.n]) rfl rfl rfl sz50 rfl rfl rfl rfl ?_
  refine o_nil (q_then (c_ret ?_))
  have hr0 : (oo.now : Int) = (Wh.of now l).now := by
   (have h9 := Wh.of_done hI.2 (by omega); rw [h9])
  have hr1 : (oo.slots : List (List DTimer)) = (Wh.of now l).slots := by
   (have h9 := Wh.of_done hI.2 (by omega); rw [h9])
  refine q_endM (p := (aoo_0, coo_0)) Soo_0 (rt1 rfl (r_cell (i := 3) rfl rfl sh50 rfl)) (i := 4) rfl ?_ ?_ ?_
  ·exact (by have hcc := congr (congrArg (fun (y0 : Int) (y1 : List (List DTimer)) => (.agg #[.int .i64 y0, .slice aoo_0 y1.length coo_0.n] : Value)) hr0) hr1; exact hcc)
  ·exact fun w hw => hw.above (i := 4) (j := 2) (by decide) rfl rfl
  ·intro w hw; exact Eq.mp (congrArg (fun y => SlON tTimer _ w aoo_0 coo_0 y) hr1) ((hw.at (i := 2) rfl).here)
end Go.Proofs.Ytnmbkopnopaigaa

/- The walks, printed by a program from the translation and a specification. -/
namespace Go.Proofs.Ytnmbkopnopaigaa
open Go.Sx Go.RowKit
set_option maxHeartbeats 8000000 in
set_option maxRecDepth 100000 in
theorem wheelCheck_ok (wh : DWheel) (awh_0 : Option Addr) (cwh_0 : NC) : Fn0 Try.prog 34 [.agg #[Vi wh.now, .slice awh_0 wh.slots.length cwh_0.n]] (fun w => RdN tTimer w awh_0 cwh_0 wh.slots) (Vi (Wh.check wh)) := by
 refine fn0 (nt := 89) (F0 := [(0, .agg #[Vi wh.now, .slice awh_0 wh.slots.length cwh_0.n])]) Try.func34 rfl Try.ntmps34 rfl rfl (fun w0 hpre => ?_)
 have hwh_0 := hpre
 have hlhwh_0 := hwh_0.2.1
 refine c_seq (c_region ?_)
 refine o_box (v := .agg #[Vi wh.now, .slice awh_0 wh.slots.length cwh_0.n]) rfl rfl (fun B1 => ?_)
 refine o_as rfl rfl ?_
 refine o_nil (q_then (c_seq (c_seq (c_region ?_))))
 refine o_p (p_fieldAddr (j' := 0) rfl fo50_0 rfl) ?_
 refine o_p (p_load (i := 0) (v := Vi wh.now) rfl rfl sh3 rfl) ?_
 refine o_call0 (v := .bool (Ref.between wh.now (0 : Int) (262143 : Int))) rfl (between_ok wh.now (0 : Int) (262143 : Int)) hf59 (fun _ _ => trivial) rfl ?_
 refine o_p (p_not (b := (Ref.between wh.now (0 : Int) (262143 : Int))) rfl) ?_
 refine o_nil (q_then ?_)
 refine c_cond rfl (fun hc2 => ?_) (fun hc2 => ?_)
 ·simp only [Bool.not_eq_true'] at hc2
  have hot := hc2
  refine c_seq (c_region ?_)
  refine o_as rfl rfl ?_
  refine o_nil (q_then (c_ret ?_))
  refine q_then_ret ?_
  have hr0 : (3 : Int) = (Wh.check wh) := by
   first | exact Wh.ch1 (by simpa [Wh.okTime, Ref.between] using hot) | exact Wh.ch2 hot2 (by omega) | exact hC.right hot2 h48 (by omega) (by omega) hrt | exact hC.twice hot2 h48 (by omega) (by omega) hrt hpl.1 (Wh.ho_of hpl.2) (by omega) hne | exact hC.place hot2 h48 (by omega) (by omega) hrt (Wh.hb_of hpl) | (obtain rfl : i = 48 := (by omega); exact hI.2.many hot2 h48 (by omega)) | (obtain rfl : i = 48 := (by omega); exact hI.2.fine hot2 h48 (by omega))
  refine q_end0 (v := Vi 3) (rt1 rfl (r_tmp rfl)) (i := 1) rfl ?_
  exact (by have hcc := congrArg (fun (y0 : Int) => (.int .i64 y0 : Value)) hr0; exact hcc)
 ·simp only [Bool.not_eq_false'] at hc2
  have hot2 : Wh.okTime wh.now = true := by simpa [Wh.okTime, Ref.between] using hc2
  have hnw := Wh.okTime_iff.1 hot2
  refine c_skip (q_then (c_seq (c_seq (c_region ?_))))
  refine o_p (p_fieldAddr (j' := 1) rfl fo50_1 rfl) ?_
  refine o_p (p_load (i := 0) (v := .slice awh_0 wh.slots.length cwh_0.n) rfl rfl sh48 rfl) ?_
  refine o_p (p_len_slice rfl rfl Try.underlying48) ?_
  refine o_p (p_ne rfl rfl) ?_
  refine o_nil (q_then ?_)
  refine c_cond rfl (fun hc3 => ?_) (fun hc3 => ?_)
  ·simp only [bne_iff_ne, ne_eq] at hc3
   have h48 := hc3
   refine c_seq (c_region ?_)
   refine o_as rfl rfl ?_
   refine o_nil (q_then (c_ret ?_))
   refine q_then_ret ?_
   have hr0 : (1 : Int) = (Wh.check wh) := by
    first | exact Wh.ch1 (by simpa [Wh.okTime, Ref.between] using hot) | exact Wh.ch2 hot2 (by omega) | exact hC.right hot2 h48 (by omega) (by omega) hrt | exact hC.twice hot2 h48 (by omega) (by omega) hrt hpl.1 (Wh.ho_of hpl.2) (by omega) hne | exact hC.place hot2 h48 (by omega) (by omega) hrt (Wh.hb_of hpl) | (obtain rfl : i = 48 := (by omega); exact hI.2.many hot2 h48 (by omega)) | (obtain rfl : i = 48 := (by omega); exact hI.2.fine hot2 h48 (by omega))
   refine q_end0 (v := Vi 1) (rt1 rfl (r_tmp rfl)) (i := 1) rfl ?_
   exact (by have hcc := congrArg (fun (y0 : Int) => (.int .i64 y0 : Value)) hr0; exact hcc)
  ·simp only [bne_eq_false_iff_eq] at hc3
   have h48 : (wh.slots.length : Int) = 48 := by omega
   refine c_skip (q_then (c_seq (c_region ?_)))
   refine o_as rfl rfl ?_
   refine o_nil (q_then (c_seq (c_seq (c_region ?_))))
   refine o_as rfl rfl ?_
   refine o_nil (q_then (c_block ?_))
   refine c_ownNil tTimer ?_
   refine c_loop (St := List DTimer × Option Addr × Nat × (Nat → Prop) × Nat)
    (fun ⟨seen, aseen, cseen, Sseen, i⟩ => [(1, .pointer (some ⟨B1, 0, none⟩)), (3, .slice aseen seen.length cseen), (4, Vi (i : Int))])
    (fun ⟨seen, aseen, cseen, Sseen, i⟩ => [own tTimer Sseen aseen cseen seen, box B1 [Vi wh.now, .slice awh_0 wh.slots.length cwh_0.n] 50, base w0])
    (fun ⟨seen, aseen, cseen, Sseen, i⟩ => i ≤ 48 ∧ Wh.CR wh seen i 0)
    (fun ⟨seen, aseen, cseen, Sseen, i⟩ => 48 - i)
    ([], none, 0, (fun _ => False), 0) ?_ (sr (sr (sr (Sub.nil _)))) (fun _ hw => hw) ?_
   ·exact ⟨Nat.zero_le _, Wh.CR.start wh⟩
   rintro ⟨seen, aseen, cseen, Sseen, i⟩ hI K hK5
   have hsl : seen.length ≤ (Wh.timers wh.slots).length := by rw [hI.2.seen_, List.length_take]; omega
   show SC _ _ Try.prog 89 w0 _ _ [(1, .pointer (some ⟨B1, 0, none⟩)), (3, .slice aseen seen.length cseen), (4, Vi (i : Int))] [own tTimer Sseen aseen cseen seen, box B1 [Vi wh.now, .slice awh_0 wh.slots.length cwh_0.n] 50, base w0]
   refine c_seq (c_seq (c_region ?_))
   refine o_mv rfl rfl ?_
   refine o_p (p_lt rfl rfl) ?_
   refine o_nil (q_then ?_)
   refine c_cond rfl (fun hc6 => ?_) (fun hc6 => ?_)
   ·simp only [decide_eq_true_eq] at hc6
    refine c_skip (q_then (c_seq (c_block (c_seq (c_region ?_)))))
    refine o_as rfl rfl ?_
    refine o_nil (q_then (c_block ?_))
    refine c_loop (St := List DTimer × Option Addr × Nat × (Nat → Prop) × Nat)
     (fun ⟨seen, aseen, cseen, Sseen, k⟩ => [(1, .pointer (some ⟨B1, 0, none⟩)), (3, .slice aseen seen.length cseen), (4, Vi (i : Int)), (5, Vi (k : Int))])
     (fun ⟨seen, aseen, cseen, Sseen, k⟩ => [own tTimer Sseen aseen cseen seen, box B1 [Vi wh.now, .slice awh_0 wh.slots.length cwh_0.n] 50, base w0])
     (fun ⟨seen, aseen, cseen, Sseen, k⟩ => k ≤ (wh.slots.getD i []).length ∧ Wh.CR wh seen i k)
     (fun ⟨seen, aseen, cseen, Sseen, k⟩ => (wh.slots.getD i []).length - k)
     (seen, aseen, cseen, Sseen, 0) ?_ (sr (sr (sr (sr (Sub.nil _))))) (fun _ hw => hw) ?_
    ·exact ⟨Nat.zero_le _, hI.2⟩
    rintro ⟨seen, aseen, cseen, Sseen, k⟩ hI K hK7
    have hC := hI.2
    have hrq := (hwh_0.2.2.2 i (by omega)).2.1
    have hsm := hC.small
    show SC _ _ Try.prog 89 w0 _ _ [(1, .pointer (some ⟨B1, 0, none⟩)), (3, .slice aseen seen.length cseen), (4, Vi (i : Int)), (5, Vi (k : Int))] [own tTimer Sseen aseen cseen seen, box B1 [Vi wh.now, .slice awh_0 wh.slots.length cwh_0.n] 50, base w0]
    refine c_seq (c_seq (c_region ?_))
    refine o_mv rfl rfl ?_
    refine o_p (p_fieldAddr (j' := 1) rfl fo50_1 rfl) ?_
    refine o_p (p_load (i := 1) (v := .slice awh_0 wh.slots.length cwh_0.n) rfl rfl sh48 rfl) ?_
    refine o_mv rfl rfl ?_
    refine o_p (p_indexAddrN (T := tTimer) (c := cwh_0) (LL := wh.slots) (i := (i : Int)) rfl rfl (rd_baseN (i := 2) rfl hwh_0) Try.underlying48 sz57 (by first | omega | decide) (by first | omega | decide)) ?_
    refine o_p (p_loadN (T := tTimer) (c := cwh_0) (LL := wh.slots) (i := i) rfl (rd_baseN (i := 2) rfl hwh_0) (by first | assumption | omega | decide) sh57) ?_
    refine o_p (p_len_slice rfl rfl Try.underlying57) ?_
    refine o_p (p_lt rfl rfl) ?_
    refine o_nil (q_then ?_)
    refine c_cond rfl (fun hc8 => ?_) (fun hc8 => ?_)
    ·simp only [decide_eq_true_eq] at hc8
     refine c_skip (q_then (c_seq (c_block (c_seq (c_region ?_)))))
     refine o_p (p_fieldAddr (j' := 1) rfl fo50_1 rfl) ?_
     refine o_p (p_load (i := 1) (v := .slice awh_0 wh.slots.length cwh_0.n) rfl rfl sh48 rfl) ?_
     refine o_mv rfl rfl ?_
     refine o_p (p_indexAddrN (T := tTimer) (c := cwh_0) (LL := wh.slots) (i := (i : Int)) rfl rfl (rd_baseN (i := 2) rfl hwh_0) Try.underlying48 sz57 (by first | omega | decide) (by first | omega | decide)) ?_
     refine o_p (p_loadN (T := tTimer) (c := cwh_0) (LL := wh.slots) (i := i) rfl (rd_baseN (i := 2) rfl hwh_0) (by first | assumption | omega | decide) sh57) ?_
     refine o_mv rfl rfl ?_
     refine o_p (p_indexAddr (L := (wh.slots.getD i [])) (T := tTimer) (i := (k : Int)) rfl rfl (rd_rowN (i := i) (rd_baseN (i := 2) rfl hwh_0) (by first | assumption | omega)) Try.underlying57 sz52 (by omega) (by omega)) ?_
     refine o_p (p_loadEn (i := k) (T := tTimer) (L := (wh.slots.getD i [])) (vs := [Vi (((wh.slots.getD i []).getD k default).id), Vi (((wh.slots.getD i []).getD k default).due)]) rfl (rd_rowN (i := i) (rd_baseN (i := 2) rfl hwh_0) (by first | assumption | omega)) (by first | assumption | omega) sh52 (congrArg tTimer.enc (getd_at (by first | assumption | omega) default))) ?_
     refine o_alloc ze52 rfl (fun B9 => ?_)
     refine o_storeN (i := 0) (vs := [Vi (((wh.slots.getD i []).getD k default).id), Vi (((wh.slots.getD i []).getD k default).due)]) (cs' := [Vi (((wh.slots.getD i []).getD k default).id), Vi (((wh.slots.getD i []).getD k default).due)]) rfl rfl rfl sz52 rfl rfl rfl rfl ?_
     refine o_nil (q_then (c_seq (c_seq (c_region ?_))))
     refine o_p (p_load_agg (i := 0) (vs := [Vi (((wh.slots.getD i []).getD k default).id), Vi (((wh.slots.getD i []).getD k default).due)]) rfl rfl sh52 rfl rfl) ?_
     refine o_p (p_fieldAddr (j' := 0) rfl fo50_0 rfl) ?_
     refine o_p (p_load (i := 2) (v := Vi wh.now) rfl rfl sh3 rfl) ?_
     refine o_call0 (v := .bool (Wh.right ((wh.slots.getD i []).getD k default) wh.now)) rfl (timerRight_ok ((wh.slots.getD i []).getD k default) wh.now) hf38 (fun _ _ => trivial) rfl ?_
     refine o_p (p_not (b := (Wh.right ((wh.slots.getD i []).getD k default) wh.now)) rfl) ?_
     refine o_nil (q_then ?_)
     refine c_cond rfl (fun hc10 => ?_) (fun hc10 => ?_)
     ·simp only [Bool.not_eq_true'] at hc10
      have hrt : Wh.right ((wh.slots.getD i []).getD k default) wh.now = false := by simpa using hc10
      refine c_seq (c_region ?_)
      refine o_as rfl rfl ?_
      refine o_nil (q_then (c_ret ?_))
      refine q_then_ret (q_block_ret (q_then_ret (q_then_ret (q_block_ret (q_block_ret (q_then_ret (q_then_ret (q_block_ret (q_then_ret ?_)))))))))
      have hr0 : (3 : Int) = (Wh.check wh) := by
       first | exact Wh.ch1 (by simpa [Wh.okTime, Ref.between] using hot) | exact Wh.ch2 hot2 (by omega) | exact hC.right hot2 h48 (by omega) (by omega) hrt | exact hC.twice hot2 h48 (by omega) (by omega) hrt hpl.1 (Wh.ho_of hpl.2) (by omega) hne | exact hC.place hot2 h48 (by omega) (by omega) hrt (Wh.hb_of hpl) | (obtain rfl : i = 48 := (by omega); exact hI.2.many hot2 h48 (by omega)) | (obtain rfl : i = 48 := (by omega); exact hI.2.fine hot2 h48 (by omega))
      refine q_end0 (v := Vi 3) (rt1 rfl (r_tmp rfl)) (i := 3) rfl ?_
      exact (by have hcc := congrArg (fun (y0 : Int) => (.int .i64 y0 : Value)) hr0; exact hcc)
     ·simp only [Bool.not_eq_false'] at hc10
      have hrt : Wh.right ((wh.slots.getD i []).getD k default) wh.now = true := by simpa using hc10
      have hri := Wh.right_iff.1 hrt
      refine c_skip (q_then (c_seq (c_seq ?_)))
      refine c_draw hmix (by kernel_rfl) ?_
      refine w_p (p_fieldAddr (j' := 1) rfl fo52_1 rfl) ?_
      refine w_p (p_load (i := 0) (v := Vi (((wh.slots.getD i []).getD k default).due)) rfl rfl sh3 rfl) ?_
      refine w_p (p_fieldAddr (j' := 0) rfl fo50_0 rfl) ?_
      refine w_p (p_load (i := 2) (v := Vi wh.now) rfl rfl sh3 rfl) ?_
      refine w_call0 (v := Vi (Wh.place (((wh.slots.getD i []).getD k default).due) wh.now)) rfl (wheelPlace_ok (((wh.slots.getD i []).getD k default).due) wh.now (by first | assumption | omega) (by first | assumption | omega)) hf75 (fun _ _ => trivial) rfl ?_
      refine w_mv rfl rfl ?_
      refine w_p (p_ne rfl rfl) ?_
      refine w_mv rfl rfl ?_
      refine w_or (p := 67) 17 (decide (0 < (k : Int)) && (!(Wh.ahead ((wh.slots.getD i []).getD (((k : Int) - 1).toNat) default) ((wh.slots.getD i []).getD k default)))) ?_ ?_ ?_
      ·intro hb11 hk
       simp only [bne_eq_false_iff_eq] at hb11
       refine w_unguard 50 rfl rfl ?_
       refine w_mv rfl rfl ?_
       refine w_unguard 50 rfl rfl ?_
       refine w_p (p_gt rfl rfl) ?_
       refine w_unguard 50 rfl rfl ?_
       refine w_mv rfl rfl ?_
       refine w_and (p := 66) 13 (!(Wh.ahead ((wh.slots.getD i []).getD (((k : Int) - 1).toNat) default) ((wh.slots.getD i []).getD k default))) ?_ ?_ ?_
       ·intro hb12 hk
        simp only [decide_eq_true_eq] at hb12
        refine w_unguard 53 rfl rfl ?_
        refine w_p (p_fieldAddr (j' := 1) rfl fo50_1 rfl) ?_
        refine w_unguard 53 rfl rfl ?_
        refine w_p (p_load (i := 2) (v := .slice awh_0 wh.slots.length cwh_0.n) rfl rfl sh48 rfl) ?_
        refine w_unguard 53 rfl rfl ?_
        refine w_mv rfl rfl ?_
        refine w_unguard 53 rfl rfl ?_
        refine w_p (p_indexAddrN (T := tTimer) (c := cwh_0) (LL := wh.slots) (i := (i : Int)) rfl rfl (rd_baseN (i := 3) rfl hwh_0) Try.underlying48 sz57 (by first | omega | decide) (by first | omega | decide)) ?_
        refine w_unguard 53 rfl rfl ?_
        refine w_p (p_loadN (T := tTimer) (c := cwh_0) (LL := wh.slots) (i := i) rfl (rd_baseN (i := 3) rfl hwh_0) (by first | assumption | omega | decide) sh57) ?_
        refine w_unguard 53 rfl rfl ?_
        refine w_mv rfl rfl ?_
        refine w_unguard 53 rfl rfl ?_
        refine w_p (p_subb rfl rfl (by omega)) ?_
        refine w_unguard 53 rfl rfl ?_
        refine w_p (p_indexAddr (L := (wh.slots.getD i [])) (T := tTimer) (i := ((k : Int) - 1)) rfl rfl (rd_rowN (i := i) (rd_baseN (i := 3) rfl hwh_0) (by first | assumption | omega)) Try.underlying57 sz52 (by omega) (by omega)) ?_
        refine w_unguard 53 rfl rfl ?_
        refine w_p (p_loadEn (i := ((k : Int) - 1).toNat) (T := tTimer) (L := (wh.slots.getD i [])) (vs := [Vi (((wh.slots.getD i []).getD (((k : Int) - 1).toNat) default).id), Vi (((wh.slots.getD i []).getD (((k : Int) - 1).toNat) default).due)]) rfl (rd_rowN (i := i) (rd_baseN (i := 3) rfl hwh_0) (by first | assumption | omega)) (by first | assumption | omega) sh52 (congrArg tTimer.enc (getd_at (by first | assumption | omega) default))) ?_
        refine w_unguard 53 rfl rfl ?_
        refine w_p (p_load_agg (i := 0) (vs := [Vi (((wh.slots.getD i []).getD k default).id), Vi (((wh.slots.getD i []).getD k default).due)]) rfl rfl sh52 rfl rfl) ?_
        refine w_unguard 53 rfl rfl ?_
        refine w_call0 (v := .bool (Wh.ahead ((wh.slots.getD i []).getD (((k : Int) - 1).toNat) default) ((wh.slots.getD i []).getD k default))) rfl (timerAhead_ok ((wh.slots.getD i []).getD (((k : Int) - 1).toNat) default) ((wh.slots.getD i []).getD k default)) hf76 (fun _ _ => trivial) rfl ?_
        refine w_unguard 53 rfl rfl ?_
        refine w_p (p_not (b := (Wh.ahead ((wh.slots.getD i []).getD (((k : Int) - 1).toNat) default) ((wh.slots.getD i []).getD k default))) rfl) ?_
        refine w_unguard 50 rfl rfl ?_
        refine w_pt rfl rfl rfl ?_
        exact w_sub (sr (Sub.skip rfl (Sub.skip rfl (Sub.skip rfl (Sub.skip rfl (Sub.skip rfl (Sub.skip rfl (Sub.skip rfl (Sub.skip rfl (Sub.skip rfl (Sub.skip rfl (Sub.skip rfl (Sub.skip rfl (Sub.skip rfl (Sub.skip rfl (Sub.refl _)))))))))))))))) hk
       ·intro hb12 hk
        refine w_guard_no rfl 53 rfl rfl rfl rfl rfl ?_
        refine w_guard_no rfl 53 rfl rfl rfl rfl rfl ?_
        refine w_guard_no rfl 53 rfl rfl rfl rfl rfl ?_
        refine w_guard_no rfl 53 rfl rfl rfl rfl rfl ?_
        refine w_guard_no rfl 53 rfl rfl rfl rfl rfl ?_
        refine w_guard_no rfl 53 rfl rfl rfl rfl rfl ?_
        refine w_guard_no rfl 53 rfl rfl rfl rfl rfl ?_
        refine w_guard_no rfl 53 rfl rfl rfl rfl rfl ?_
        refine w_guard_no rfl 53 rfl rfl rfl rfl rfl ?_
        refine w_guard_no rfl 53 rfl rfl rfl rfl rfl ?_
        refine w_guard_no rfl 53 rfl rfl rfl rfl rfl ?_
        refine w_guard_no rfl 53 rfl rfl rfl rfl rfl ?_
        refine w_unguard 50 rfl rfl ?_
        refine w_pf rfl rfl rfl ?_
        exact w_sub (sr (Sub.skip rfl (Sub.skip rfl (Sub.skip rfl (Sub.skip rfl (Sub.skip rfl (Sub.skip rfl (Sub.skip rfl (Sub.skip rfl (Sub.skip rfl (Sub.skip rfl (Sub.skip rfl (Sub.skip rfl (Sub.skip rfl (Sub.skip rfl (Sub.refl _)))))))))))))))) hk
       refine w_pf rfl rfl rfl ?_
       exact w_sub (sr (Sub.skip rfl (Sub.skip rfl (Sub.skip rfl (Sub.skip rfl (Sub.skip rfl (Sub.refl _))))))) hk
      ·intro hb11 hk
       refine w_guard_no rfl 50 rfl rfl rfl rfl rfl ?_
       refine w_guard_no rfl 50 rfl rfl rfl rfl rfl ?_
       refine w_guard_no rfl 50 rfl rfl rfl rfl rfl ?_
       refine w_guard_no rfl 53 rfl rfl rfl rfl rfl ?_
       refine w_guard_no rfl 53 rfl rfl rfl rfl rfl ?_
       refine w_guard_no rfl 53 rfl rfl rfl rfl rfl ?_
       refine w_guard_no rfl 53 rfl rfl rfl rfl rfl ?_
       refine w_guard_no rfl 53 rfl rfl rfl rfl rfl ?_
       refine w_guard_no rfl 53 rfl rfl rfl rfl rfl ?_
       refine w_guard_no rfl 53 rfl rfl rfl rfl rfl ?_
       refine w_guard_no rfl 53 rfl rfl rfl rfl rfl ?_
       refine w_guard_no rfl 53 rfl rfl rfl rfl rfl ?_
       refine w_guard_no rfl 53 rfl rfl rfl rfl rfl ?_
       refine w_guard_no rfl 53 rfl rfl rfl rfl rfl ?_
       refine w_guard_no rfl 53 rfl rfl rfl rfl rfl ?_
       refine w_guard_no rfl 50 rfl rfl rfl rfl rfl ?_
       refine w_pt rfl rfl rfl ?_
       exact w_sub (sr (Sub.skip rfl (Sub.skip rfl (Sub.skip rfl (Sub.skip rfl (Sub.skip rfl (Sub.skip rfl (Sub.skip rfl (Sub.skip rfl (Sub.skip rfl (Sub.skip rfl (Sub.skip rfl (Sub.skip rfl (Sub.skip rfl (Sub.skip rfl (Sub.skip rfl (Sub.skip rfl (Sub.skip rfl (Sub.skip rfl (Sub.refl _)))))))))))))))))))) hk
      refine w_nil (q_then ?_)
      refine c_cond rfl (fun hc13 => ?_) (fun hc13 => ?_)
      ·simp only [Bool.or_eq_true, bne_iff_ne, ne_eq, Bool.and_eq_true, decide_eq_true_eq, Bool.not_eq_true'] at hc13
       have hpl := hc13
       refine c_seq (c_region ?_)
       refine o_as rfl rfl ?_
       refine o_nil (q_then (c_ret ?_))
       refine q_then_ret (q_block_ret (q_then_ret (q_then_ret (q_block_ret (q_block_ret (q_then_ret (q_then_ret (q_block_ret (q_then_ret ?_)))))))))
       have hr0 : (4 : Int) = (Wh.check wh) := by
        first | exact Wh.ch1 (by simpa [Wh.okTime, Ref.between] using hot) | exact Wh.ch2 hot2 (by omega) | exact hC.right hot2 h48 (by omega) (by omega) hrt | exact hC.twice hot2 h48 (by omega) (by omega) hrt hpl.1 (Wh.ho_of hpl.2) (by omega) hne | exact hC.place hot2 h48 (by omega) (by omega) hrt (Wh.hb_of hpl) | (obtain rfl : i = 48 := (by omega); exact hI.2.many hot2 h48 (by omega)) | (obtain rfl : i = 48 := (by omega); exact hI.2.fine hot2 h48 (by omega))
       refine q_end0 (v := Vi 4) (rt1 rfl (r_tmp rfl)) (i := 3) rfl ?_
       exact (by have hcc := congrArg (fun (y0 : Int) => (.int .i64 y0 : Value)) hr0; exact hcc)
      ·simp only [Bool.or_eq_false_iff, bne_eq_false_iff_eq, Bool.and_eq_false_iff, decide_eq_false_iff_not, Int.not_lt, Bool.not_eq_false'] at hc13
       have hpl := hc13
       refine c_skip (q_then (c_seq (c_seq (c_region ?_))))
       refine o_as rfl rfl ?_
       refine o_nil (q_then (c_block ?_))
       refine c_loop (St := Nat)
        (fun j => [(1, .pointer (some ⟨B1, 0, none⟩)), (3, .slice aseen seen.length cseen), (4, Vi (i : Int)), (5, Vi (k : Int)), (6, .pointer (some ⟨B9, 0, none⟩)), (7, Vi (j : Int))])
        (fun j => [box B9 [Vi (((wh.slots.getD i []).getD k default).id), Vi (((wh.slots.getD i []).getD k default).due)] 52, own tTimer Sseen aseen cseen seen, box B1 [Vi wh.now, .slice awh_0 wh.slots.length cwh_0.n] 50, base w0])
        (fun j => j ≤ seen.length ∧ ∀ q, q < j → ¬ (seen.getD q default).id = ((wh.slots.getD i []).getD k default).id)
        (fun j => seen.length - j)
        0 ?_ (sr (sr (sr (sr (sr (sr (Sub.nil _))))))) (fun _ hw => hw) ?_
       ·exact ⟨Nat.zero_le _, fun q h => absurd h (Nat.not_lt_zero q)⟩
       rintro j hI K hK14
       show SC _ _ Try.prog 89 w0 _ _ [(1, .pointer (some ⟨B1, 0, none⟩)), (3, .slice aseen seen.length cseen), (4, Vi (i : Int)), (5, Vi (k : Int)), (6, .pointer (some ⟨B9, 0, none⟩)), (7, Vi (j : Int))] [box B9 [Vi (((wh.slots.getD i []).getD k default).id), Vi (((wh.slots.getD i []).getD k default).due)] 52, own tTimer Sseen aseen cseen seen, box B1 [Vi wh.now, .slice awh_0 wh.slots.length cwh_0.n] 50, base w0]
       refine c_seq (c_seq (c_region ?_))
       refine o_mv rfl rfl ?_
       refine o_mv rfl rfl ?_
       refine o_p (p_len_slice rfl rfl Try.underlying57) ?_
       refine o_p (p_lt rfl rfl) ?_
       refine o_nil (q_then ?_)
       refine c_cond rfl (fun hc15 => ?_) (fun hc15 => ?_)
       ·simp only [decide_eq_true_eq] at hc15
        refine c_skip (q_then (c_seq (c_block (c_seq ?_))))
        refine c_draw hmix (by kernel_rfl) ?_
        refine w_mv rfl rfl ?_
        refine w_mv rfl rfl ?_
        refine w_p (p_indexAddr (L := seen) (T := tTimer) (i := (j : Int)) rfl rfl (rd_own (i := 1) rfl) Try.underlying57 sz52 (by omega) (by omega)) ?_
        refine w_p (p_fieldAddrE rfl fo52_0) ?_
        refine w_p (p_loadF (i := j) (j := 0) (T := tTimer) (L := seen) (v := Vi ((seen.getD j default).id)) rfl (rd_own (i := 1) rfl) (by first | assumption | omega) sh3 (congrArg (fun z => (tTimer.enc z)[0]?) (getd_at (by first | assumption | omega) default))) ?_
        refine w_p (p_fieldAddr (j' := 0) rfl fo52_0 rfl) ?_
        refine w_p (p_load (i := 0) (v := Vi (((wh.slots.getD i []).getD k default).id)) rfl rfl sh3 rfl) ?_
        refine w_p (p_eq rfl rfl) ?_
        refine w_nil (q_then ?_)
        refine c_cond rfl (fun hc16 => ?_) (fun hc16 => ?_)
        ·simp only [beq_iff_eq] at hc16
         have hne := hc16
         refine c_seq (c_region ?_)
         refine o_as rfl rfl ?_
         refine o_nil (q_then (c_ret ?_))
         refine q_block_ret (q_then_ret (q_then_ret (q_block_ret (q_then_ret (q_block_ret (q_then_ret (q_then_ret (q_block_ret (q_block_ret (q_then_ret (q_then_ret (q_block_ret (q_then_ret ?_)))))))))))))
         have hr0 : (6 : Int) = (Wh.check wh) := by
          first | exact Wh.ch1 (by simpa [Wh.okTime, Ref.between] using hot) | exact Wh.ch2 hot2 (by omega) | exact hC.right hot2 h48 (by omega) (by omega) hrt | exact hC.twice hot2 h48 (by omega) (by omega) hrt hpl.1 (Wh.ho_of hpl.2) (by omega) hne | exact hC.place hot2 h48 (by omega) (by omega) hrt (Wh.hb_of hpl) | (obtain rfl : i = 48 := (by omega); exact hI.2.many hot2 h48 (by omega)) | (obtain rfl : i = 48 := (by omega); exact hI.2.fine hot2 h48 (by omega))
         refine q_end0 (v := Vi 6) (rt1 rfl (r_tmp rfl)) (i := 3) rfl ?_
         exact (by have hcc := congrArg (fun (y0 : Int) => (.int .i64 y0 : Value)) hr0; exact hcc)
        ·simp only [beq_eq_false_iff_ne, ne_eq] at hc16
         have hne := hc16
         refine c_skip ?_
         refine q_block_normal (q_then ?_)
         refine c_region ?_
         refine o_mv rfl rfl ?_
         refine o_p (p_addb rfl rfl (by omega)) ?_
         refine o_as rfl rfl ?_
         refine o_nil ?_
         refine q_round hK14 (j + 1) ?_ ?_ ?_ ?_
         ·clear hK14
          exact ⟨by omega, Wh.nj_next hI.2 (by omega)⟩
         ·(try dsimp only); omega
         ·exact sr (sr (sr (sr (sr (sr (Sub.nil _))))))
         ·exact pk [0, 1, 2, 3]
       ·simp only [decide_eq_false_iff_not, Int.not_lt] at hc15
        refine c_exit ?_
        refine q_then_exit (q_then_exit (q_block_exit (q_then ?_)))
        refine c_region ?_
        refine o_mv rfl rfl ?_
        refine o_p (p_load_agg (i := 0) (vs := [Vi (((wh.slots.getD i []).getD k default).id), Vi (((wh.slots.getD i []).getD k default).due)]) rfl rfl sh52 rfl rfl) ?_
        refine o_buildSlice (m := 1) (T := tTimer) (L := [(⟨((wh.slots.getD i []).getD k default).id, ((wh.slots.getD i []).getD k default).due⟩ : DTimer)]) (vs := [.agg #[Vi (((wh.slots.getD i []).getD k default).id), Vi (((wh.slots.getD i []).getD k default).due)]]) rfl rfl rfl rfl Try.underlying57 sz52 (by decide) ze52 rfl (by decide) rfl (fun S17 a18 => ?_)
        refine o_append (i := 2) (L := seen) (M := [(⟨((wh.slots.getD i []).getD k default).id, ((wh.slots.getD i []).getD k default).due⟩ : DTimer)]) (T := tTimer) rfl rfl rfl (rd_own (i := 0) rfl) Try.underlying57 Try.underlying57 (by intro k h; cases h) el52 (by intro z; simp [tTimer, one1]) (by decide) (by first | omega | (simp only [List.length_cons, List.length_nil]; omega) | (simp only [List.length_append, List.length_cons, List.length_nil, List.length_take, List.length_drop]; omega)) rfl (fun a20 c21 S22 => ?_)
        refine o_as rfl rfl ?_
        refine o_nil ?_
        refine q_block_normal (q_then ?_)
        refine c_region ?_
        refine o_mv rfl rfl ?_
        refine o_p (p_addb rfl rfl (by omega)) ?_
        refine o_as rfl rfl ?_
        refine o_nil ?_
        refine q_round hK7 ((seen ++ [(⟨((wh.slots.getD i []).getD k default).id, ((wh.slots.getD i []).getD k default).due⟩ : DTimer)]), a20, c21, S22, k + 1) ?_ ?_ ?_ ?_
        ·clear hK7
         exact ⟨by omega, hC.next (by omega) (by omega) hrt hpl.1 (Wh.ho_of hpl.2) (fun q hq => hI.2 q (by omega))⟩
        ·(try dsimp only); omega
        ·exact sr (sr (sr (sr (Sub.nil _))))
        ·exact pk [2, 3, 4]
    ·simp only [decide_eq_false_iff_not, Int.not_lt] at hc8
     refine c_exit ?_
     refine q_then_exit (q_then_exit (q_block_exit (q_block_normal (q_then ?_))))
     refine c_region ?_
     refine o_mv rfl rfl ?_
     refine o_p (p_addb rfl rfl (by omega)) ?_
     refine o_as rfl rfl ?_
     refine o_nil ?_
     refine q_round hK5 (seen, aseen, cseen, Sseen, i + 1) ?_ ?_ ?_ ?_
     ·clear hK5
      exact ⟨by omega, hI.2.row (by omega) (by omega)⟩
     ·(try dsimp only); omega
     ·exact sr (sr (sr (Sub.nil _)))
     ·exact pk [0, 1, 2]
   ·simp only [decide_eq_false_iff_not, Int.not_lt] at hc6
    refine c_exit ?_
    refine q_then_exit (q_then_exit (q_block_exit (q_then ?_)))
    refine c_seq (c_seq (c_region ?_))
    refine o_mv rfl rfl ?_
    refine o_p (p_len_slice rfl rfl Try.underlying57) ?_
    refine o_p (p_gt rfl rfl) ?_
    refine o_nil (q_then ?_)
    refine c_cond rfl (fun hc23 => ?_) (fun hc23 => ?_)
    ·simp only [decide_eq_true_eq] at hc23
     refine c_seq (c_region ?_)
     refine o_as rfl rfl ?_
     refine o_nil (q_then (c_ret ?_))
     refine q_then_ret ?_
     have hr0 : (2 : Int) = (Wh.check wh) := by
      first | exact Wh.ch1 (by simpa [Wh.okTime, Ref.between] using hot) | exact Wh.ch2 hot2 (by omega) | exact hC.right hot2 h48 (by omega) (by omega) hrt | exact hC.twice hot2 h48 (by omega) (by omega) hrt hpl.1 (Wh.ho_of hpl.2) (by omega) hne | exact hC.place hot2 h48 (by omega) (by omega) hrt (Wh.hb_of hpl) | (obtain rfl : i = 48 := (by omega); exact hI.2.many hot2 h48 (by omega)) | (obtain rfl : i = 48 := (by omega); exact hI.2.fine hot2 h48 (by omega))
     refine q_end0 (v := Vi 2) (rt1 rfl (r_tmp rfl)) (i := 2) rfl ?_
     exact (by have hcc := congrArg (fun (y0 : Int) => (.int .i64 y0 : Value)) hr0; exact hcc)
    ·simp only [decide_eq_false_iff_not, Int.not_lt] at hc23
     refine c_skip (q_then (c_seq (c_region ?_)))
     refine o_as rfl rfl ?_
     refine o_nil (q_then (c_ret ?_))
     have hr0 : (0 : Int) = (Wh.check wh) := by
      first | exact Wh.ch1 (by simpa [Wh.okTime, Ref.between] using hot) | exact Wh.ch2 hot2 (by omega) | exact hC.right hot2 h48 (by omega) (by omega) hrt | exact hC.twice hot2 h48 (by omega) (by omega) hrt hpl.1 (Wh.ho_of hpl.2) (by omega) hne | exact hC.place hot2 h48 (by omega) (by omega) hrt (Wh.hb_of hpl) | (obtain rfl : i = 48 := (by omega); exact hI.2.many hot2 h48 (by omega)) | (obtain rfl : i = 48 := (by omega); exact hI.2.fine hot2 h48 (by omega))
     refine q_end0 (v := Vi 0) (rt1 rfl (r_tmp rfl)) (i := 2) rfl ?_
     exact (by have hcc := congrArg (fun (y0 : Int) => (.int .i64 y0 : Value)) hr0; exact hcc)
end Go.Proofs.Ytnmbkopnopaigaa

/- Timing wheels: the laws, by the lists of timers. -/
namespace Go.Sx.Wh
theorem ids_inj {S : List DTimer} (h : (S.map (·.id)).Nodup) {x y : DTimer} (hx : x ∈ S) (hy : y ∈ S) (e : x.id = y.id) : x = y := by
  induction S with
  | nil => cases hx
  | cons z S ih =>
    rw [List.map_cons, List.nodup_cons] at h
    rcases List.mem_cons.1 hx with g1 | g1 <;> rcases List.mem_cons.1 hy with g2 | g2
    · rw [g1, g2]
    · exact absurd (List.mem_map.2 ⟨y, g2, by rw [← e, g1]⟩) h.1
    · exact absurd (List.mem_map.2 ⟨x, g1, by rw [e, g2]⟩) h.1
    · exact ih h.2 g1 g2
theorem has_iff {l : List DTimer} {id : Int} : has l id = true ↔ ∃ t ∈ l, t.id = id := by
  unfold has; rw [List.any_eq_true]; simp
theorem find_has (w : DWheel) (id : Int) : (find w id).2.2 = has (timers w.slots) id := by
  have h : ∀ (LL : List (List DTimer)) (s : Nat), (findGo id s LL).2.2 = has LL.flatten id := by
    intro LL
    induction LL with
    | nil => intro s; rfl
    | cons l r ih =>
      intro s
      unfold findGo
      have e : has (l :: r).flatten id = (l.any (fun t => t.id == id) || has r.flatten id) := by unfold has; rw [List.flatten_cons, List.any_append]
      rw [e]
      rcases idxF_cases (fun x : DTimer => (x.id == id)) l with ⟨k, h2, h1, h3, _⟩ | ⟨h1, h2⟩
      · rw [if_pos (by omega), List.any_eq_true.2 ⟨l[k], List.getElem_mem h2, h3⟩]; rfl
      · rw [if_neg (by omega), ih, List.any_eq_false.2 (fun x hx => by rw [h2 x hx]; decide)]; rfl
  exact h w.slots 0
/-! ### Advance -/
theorem adv0 {w : DWheel} {to : Int} (h : advErr w to = 0) : Ok w ∧ okTime to = true ∧ ¬ to < w.now := by
  unfold advErr at h
  split at h; · rename_i h1; exact absurd h h1
  split at h; · cases h
  split at h; · cases h
  rename_i h1 h2 h3
  exact ⟨check_ok.1 (by simpa using h1), by simpa using h2, h3⟩
theorem adv_can {w : DWheel} {to : Int} (h : advErr w to = 0) : adv w to = mkW to ((timers w.slots).filter fun t => decide (to < t.due)) ∧ gone w to = (timers w.slots).filter fun t => decide (t.due ≤ to) := by
  obtain ⟨hw, h1, h2⟩ := adv0 h
  obtain ⟨a, b, _⟩ := av4 hw h1 h2 (oo := (advGo w to (timers w.slots).length).1) (gl := (advGo w to (timers w.slots).length).2) rfl
  rw [a, b, advGo_eq hw _ (Nat.le_refl _), List.take_length]
  exact ⟨rfl, rfl⟩
theorem sub_ids {S T : List DTimer} (h : T.Sublist S) (hs : (S.map (·.id)).Nodup) : (T.map (·.id)).Nodup := hs.sublist (h.map _)
theorem adv_good {w : DWheel} {to : Int} (h : advErr w to = 0) : Good to ((timers w.slots).filter fun t => decide (to < t.due)) := by
  obtain ⟨hw, h1, h2⟩ := adv0 h
  refine ⟨okTime_iff.1 h1, sd_filter hw.sd _, fun t ht => ?_, sub_ids List.filter_sublist hw.ids, Nat.le_trans (List.length_filter_le _ _) hw.few⟩
  obtain ⟨g1, g2⟩ := List.mem_filter.1 ht
  have := right_iff.1 (hw.right g1)
  exact right_iff.2 ⟨this.1, this.2.1, by simpa using g2⟩
theorem gone_bad {w : DWheel} {to : Int} (h : ¬ advErr w to = 0) : gone w to = [] := if_neg h
theorem gone_len (w : DWheel) (to : Int) : (gone w to).length ≤ 60 := by
  by_cases h : advErr w to = 0
  · rw [(adv_can h).2]; exact Nat.le_trans (List.length_filter_le _ _) (adv0 h).1.few
  · rw [gone_bad h]; exact Nat.zero_le _
theorem adv_timers {w : DWheel} {to : Int} (h : advErr w to = 0) : timers (adv w to).slots = (timers w.slots).filter fun t => decide (to < t.due) := by
  rw [(adv_can h).1]; exact (adv_good h).timers
theorem parts {w : DWheel} {a b : Int} (h : advErr w a = 0) (h2 : advErr (adv w a) b = 0) : advErr w b = 0 ∧ adv (adv w a) b = adv w b ∧ gone w b = gone w a ++ gone (adv w a) b ∧ check (adv (adv w a) b) = 0 := by
  obtain ⟨hw, k1, k2⟩ := adv0 h
  obtain ⟨hw2, m1, m2⟩ := adv0 h2
  have hab : a ≤ b := by rw [(adv_can h).1] at m2; have : ¬ b < a := m2; omega
  have h3 : advErr w b = 0 := advErr0 hw m1 (by omega)
  refine ⟨h3, ?_, ?_, ?_⟩
  · rw [(adv_can h2).1, (adv_can h3).1, adv_timers h, List.filter_filter]
    congr 1
    refine List.filter_congr fun t _ => ?_
    rw [← Bool.decide_and]; exact decide_eq_decide.2 (by omega)
  · rw [(adv_can h2).2, (adv_can h).2, (adv_can h3).2, adv_timers h]
    refine sd_ext (sd_filter hw.sd _) (List.pairwise_append.2 ⟨sd_filter hw.sd _, sd_filter (sd_filter hw.sd _) _, fun x hx y hy => ?_⟩) fun t => ?_
    · have hx := (List.mem_filter.1 hx).2
      have hy := (List.mem_filter.1 (List.mem_filter.1 hy).1).2
      simp only [decide_eq_true_eq] at hx hy
      exact ahead_iff.2 (.inl (by omega))
    · simp only [List.mem_append, List.mem_filter, decide_eq_true_eq]
      constructor
      · rintro ⟨g1, g2⟩
        by_cases c : t.due ≤ a
        · exact .inl ⟨g1, c⟩
        · exact .inr ⟨⟨g1, by omega⟩, g2⟩
      · rintro (⟨g1, g2⟩ | ⟨⟨g1, _⟩, g2⟩)
        · exact ⟨g1, by omega⟩
        · exact ⟨g1, g2⟩
  · rw [(adv_can h2).1]; exact check_ok.2 (adv_good h2).ok
/-! ### Next -/
theorem next0 {w : DWheel} (h : nextErr w = 0) : Ok w ∧ 0 < (timers w.slots).length ∧ next w = ((timers w.slots).getD 0 default).due := by
  have h0 := h
  unfold nextErr at h
  split at h; · rename_i h1; exact absurd h h1
  split at h; · cases h
  rename_i h1 h2
  exact ⟨check_ok.1 (by simpa using h1), by omega, if_pos h0⟩
theorem next5 {w : DWheel} (h : Ok w) : (nextErr w = 0 ∧ 0 < (timers w.slots).length) ∨ (nextErr w = 5 ∧ (timers w.slots).length = 0) := by
  have hc := check_ok.2 h
  by_cases c : (timers w.slots).length = 0
  · right; exact ⟨by rw [nextErr, if_neg (by simp [hc]), if_pos c], c⟩
  · left; exact ⟨by rw [nextErr, if_neg (by simp [hc]), if_neg c], by omega⟩
theorem gone_at {w : DWheel} {to : Int} (h : advErr w to = 0) {i : Nat} (hi : i < (gone w to).length) : ((gone w to).getD i default).due ≤ to ∧ (0 < i → ((gone w to).getD (i - 1) default).due ≤ ((gone w to).getD i default).due) := by
  have e := (adv_can h).2
  have hs : Sd (gone w to) := by rw [e]; exact sd_filter (adv0 h).1.sd _
  rw [getD_of hi]
  refine ⟨?_, fun h0 => ?_⟩
  · have h9 : ∀ x ∈ gone w to, x.due ≤ to := fun x hx => by rw [e] at hx; simpa using (List.mem_filter.1 hx).2
    exact h9 _ (List.getElem_mem hi)
  · rw [getD_of (show i - 1 < (gone w to).length by omega)]
    have := List.pairwise_iff_getElem.1 hs (i - 1) i (by omega) hi (by omega)
    rcases ahead_iff.1 this with h9 | h9
    · omega
    · omega
theorem next_adv {w : DWheel} {to : Int} (h : advErr w to = 0) (h2 : nextErr (adv w to) = 0) : ¬ next (adv w to) ≤ to := by
  obtain ⟨a, b, c⟩ := next0 h2
  rw [c, getD_of b]
  have h9 : ∀ x ∈ timers (adv w to).slots, to < x.due := fun x hx => by rw [adv_timers h] at hx; simpa using (List.mem_filter.1 hx).2
  have := h9 _ (List.getElem_mem b)
  omega
theorem sd_head {S : List DTimer} (h : Sd S) (h0 : 0 < S.length) {t : DTimer} (ht : t ∈ S) : (S.getD 0 default).due ≤ t.due := by
  cases S with
  | nil => cases ht
  | cons x S =>
    show x.due ≤ t.due
    rcases List.mem_cons.1 ht with rfl | ht
    · omega
    · have := (List.pairwise_cons.1 h).1 t ht
      rcases ahead_iff.1 this with h9 | h9 <;> omega
theorem due_law {w : DWheel} {to : Int} (h : advErr w to = 0) : (nextErr w = 5 ∧ gone w to = []) ∨ (nextErr w = 0 ∧ ((to < next w ∧ gone w to = []) ∨ (next w ≤ to ∧ 0 < (gone w to).length ∧ ((gone w to).getD 0 default).due = next w))) := by
  have hw := (adv0 h).1
  have e := (adv_can h).2
  rcases next5 hw with ⟨h1, h2⟩ | ⟨h1, h2⟩
  · right
    refine ⟨h1, ?_⟩
    have hn := (next0 h1).2.2
    by_cases c : to < next w
    · left
      refine ⟨c, ?_⟩
      rw [e, List.filter_eq_nil_iff]
      intro t ht
      have := sd_head hw.sd h2 ht
      simp only [decide_eq_true_eq]; omega
    · right
      refine ⟨by omega, ?_⟩
      rw [e, hn]
      have hsd := hw.sd
      rw [hn] at c
      revert h2 c hsd
      generalize timers w.slots = S
      intro h2 c hsd
      cases S with
      | nil => exact absurd h2 (by simp)
      | cons x S =>
        have hx : x.due ≤ to := by have : ¬ to < x.due := c; omega
        rw [List.filter_cons, if_pos (by simpa using hx)]
        exact ⟨by simp, rfl⟩
  · left
    refine ⟨h1, ?_⟩
    rw [e, List.length_eq_zero_iff.1 h2]; rfl
theorem due_bool {e n to : Int} {l : List DTimer} (h : (e = 5 ∧ l = []) ∨ (e = 0 ∧ ((to < n ∧ l = []) ∨ (n ≤ to ∧ 0 < l.length ∧ (l.getD 0 default).due = n)))) : (((e == 5) && ((l.length : Int) == 0)) || (((e == 0) && (decide (to < n) == ((l.length : Int) == 0))) && (decide (to < n) || ((l.getD 0 default).due == n)))) = true := by
  rcases h with ⟨rfl, rfl⟩ | ⟨rfl, ⟨g2, rfl⟩ | ⟨g2, g3, g4⟩⟩
  · rfl
  · rw [decide_eq_true g2]; rfl
  · have a : decide (to < n) = false := decide_eq_false (by omega)
    have b : ((l.length : Int) == 0) = false := beq_eq_false_iff_ne.2 (by omega)
    rw [a, b, g4]; simp
/-! ### Add -/
theorem add_iff {w : DWheel} {t : DTimer} : addErr w t = 0 ↔ Ok w ∧ Wh.right t w.now = true ∧ has (timers w.slots) t.id = false ∧ ¬ (timers w.slots).length = 60 := by
  unfold addErr
  rw [find_has]
  constructor
  · intro h
    split at h; · rename_i h1; exact absurd h h1
    split at h; · cases h
    split at h; · cases h
    split at h; · cases h
    rename_i h1 h2 h3 h4
    exact ⟨check_ok.1 (by simpa using h1), by simpa using h2, by simpa using h3, h4⟩
  · rintro ⟨h1, h2, h3, h4⟩
    rw [if_neg (by simp [check_ok.2 h1]), if_neg (by simp [h2]), if_neg (by simp [h3]), if_neg h4]
theorem insI_perm (t : DTimer) (l : List DTimer) : (insI t l).Perm (t :: l) := by
  induction l with
  | nil => exact List.Perm.refl _
  | cons x l ih =>
    unfold insI
    split
    · exact (List.Perm.cons x ih).trans (List.Perm.swap t x l)
    · exact List.Perm.refl _
theorem add_can {w : DWheel} {t : DTimer} (h : addErr w t = 0) : add w t = mkW w.now (insI t (timers w.slots)) ∧ Good w.now (insI t (timers w.slots)) := by
  obtain ⟨h1, h2, h3, h4⟩ := add_iff.1 h
  have hn : ∀ x ∈ timers w.slots, ¬ x.id = t.id := fun x hx e => by rw [has_iff.2 ⟨x, hx, e⟩] at h3; cases h3
  have hn2 : t ∉ timers w.slots := fun h9 => hn t h9 rfl
  constructor
  · rw [add, if_pos h]
    conv => lhs; rw [h1.canon]
    exact put_mkW h1.sd hn2
  · refine ⟨h1.now, sd_insI h1.sd hn2, fun x hx => ?_, ?_, ?_⟩
    · rcases mem_insI.1 hx with rfl | hx
      · exact h2
      · exact h1.right hx
    · refine ((insI_perm t (timers w.slots)).map _).nodup_iff.2 ?_
      rw [List.map_cons, List.nodup_cons]
      refine ⟨fun h9 => ?_, h1.ids⟩
      obtain ⟨x, hx, e⟩ := List.mem_map.1 h9
      exact hn x hx e
    · rw [(insI_perm t (timers w.slots)).length_eq, List.length_cons]
      have := h1.few; omega
theorem add_timers {w : DWheel} {t : DTimer} (h : addErr w t = 0) : timers (add w t).slots = insI t (timers w.slots) := by rw [(add_can h).1]; exact (add_can h).2.timers
theorem add_now {w : DWheel} {t : DTimer} (h : addErr w t = 0) : (add w t).now = w.now := by rw [(add_can h).1]; rfl
theorem add_ok {w : DWheel} {t : DTimer} (h : addErr w t = 0) : Ok (add w t) := by rw [(add_can h).1]; exact (add_can h).2.ok
theorem add_bad {w : DWheel} {t : DTimer} (h : ¬ addErr w t = 0) : add w t = ⟨0, []⟩ := if_neg h
/-! ### Cancel -/
theorem cancel_iff {w : DWheel} {id : Int} : cancelErr w id = 0 ↔ Ok w ∧ has (timers w.slots) id = true := by
  unfold cancelErr
  rw [find_has]
  constructor
  · intro h
    split at h; · rename_i h1; exact absurd h h1
    split at h; · cases h
    rename_i h1 h2
    exact ⟨check_ok.1 (by simpa using h1), by simpa using h2⟩
  · rintro ⟨h1, h2⟩
    rw [if_neg (by simp [check_ok.2 h1]), if_neg (by simp [h2])]
theorem mem_cut {l : List DTimer} (hn : l.Nodup) {k : Nat} (hk : k < l.length) {x : DTimer} : x ∈ l.take k ++ l.drop (k + 1) ↔ x ∈ l ∧ x ≠ l[k] := by
  rw [← List.eraseIdx_eq_take_drop_succ, List.mem_eraseIdx_iff_getElem]
  constructor
  · rintro ⟨i, hi, h1, rfl⟩
    refine ⟨List.getElem_mem hi, fun e => h1 ?_⟩
    have hp := List.pairwise_iff_getElem.1 hn
    rcases Nat.lt_trichotomy i k with c | c | c
    · exact absurd e (hp i k hi hk c)
    · exact c
    · exact absurd e.symm (hp k i hk hi c)
  · rintro ⟨h1, h2⟩
    obtain ⟨i, hi, rfl⟩ := List.getElem_of_mem h1
    exact ⟨i, hi, fun e => h2 (by subst e; rfl), rfl⟩
theorem cut_sub (l : List DTimer) (k : Nat) : (l.take k ++ l.drop (k + 1)).Sublist l := by
  rw [← List.eraseIdx_eq_take_drop_succ]; exact List.eraseIdx_sublist _ _
theorem cancel_can {w : DWheel} {id : Int} (h : cancelErr w id = 0) : cancel w id = mkW w.now ((timers w.slots).filter fun t => decide (¬ t.id = id)) := by
  obtain ⟨h1, h2⟩ := cancel_iff.1 h
  rw [cancel, if_pos h]
  obtain ⟨f1, f2, f3, f4, f5⟩ := find_at (w := w) (id := id) (by rw [find_has]; exact h2)
  generalize (find w id).1 = i at *
  generalize (find w id).2.1 = k at *
  have hi48 : i.toNat < 48 := by have := h1.len; omega
  have hk : k.toNat < (w.slots.getD i.toNat []).length := by omega
  rw [getD_of hk] at f5
  have hin : ∀ {j : Nat} {x : DTimer}, j < w.slots.length → x ∈ w.slots.getD j [] → x ∈ timers w.slots := fun hj hx => mem_timers.2 ⟨_, hj, hx⟩
  refine wh_ext rfl (by show (w.slots.set _ _).length = _; rw [List.length_set, mkW_len, h1.len]) fun j hj => ?_
  have hj' : j < w.slots.length := by have : j < (w.slots.set _ _).length := hj; rwa [List.length_set] at this
  have hj48 : j < 48 := by rw [← h1.len]; exact hj'
  show (w.slots.set _ _).getD j [] = _
  rw [mkW_row hj48]
  by_cases e : j = i.toNat
  · subst e
    rw [getD_set_self hj', show (k + 1).toNat = k.toNat + 1 by omega]
    refine sd_ext ((h1.srt _ hj48).sublist (cut_sub _ _)) (sd_filter (sd_filter h1.sd _) _) fun x => ?_
    rw [mem_cut (sd_nodup (h1.srt _ hj48)) hk, List.mem_filter, List.mem_filter, decide_eq_true_eq, decide_eq_true_eq]
    constructor
    · rintro ⟨a, b⟩
      refine ⟨⟨hin hj' a, fun e2 => b ?_⟩, (h1.ent _ hj48 x a).2⟩
      exact ids_inj h1.ids (hin hj' a) (hin hj' (List.getElem_mem hk)) (e2.trans f5.symm)
    · rintro ⟨⟨a, b⟩, c⟩
      obtain ⟨j2, hj2, ht⟩ := mem_timers.1 a
      have := (h1.ent j2 (by rw [← h1.len]; exact hj2) x ht).2
      obtain rfl : j2 = i.toNat := by omega
      exact ⟨ht, fun e2 => b (by rw [e2]; exact f5)⟩
  · rw [getD_set_ne e]
    refine sd_ext (h1.srt _ hj48) (sd_filter (sd_filter h1.sd _) _) fun x => ?_
    rw [List.mem_filter, List.mem_filter, decide_eq_true_eq, decide_eq_true_eq]
    constructor
    · intro a
      refine ⟨⟨hin hj' a, fun e2 => ?_⟩, (h1.ent _ hj48 x a).2⟩
      have e3 := ids_inj h1.ids (hin hj' a) (hin (show i.toNat < w.slots.length by omega) (List.getElem_mem hk)) (e2.trans f5.symm)
      have p1 := (h1.ent _ hj48 x a).2
      have p2 := (h1.ent _ hi48 _ (List.getElem_mem hk)).2
      rw [← e3] at p2
      omega
    · rintro ⟨⟨a, b⟩, c⟩
      obtain ⟨j2, hj2, ht⟩ := mem_timers.1 a
      have := (h1.ent j2 (by rw [← h1.len]; exact hj2) x ht).2
      obtain rfl : j2 = j := by omega
      exact ht
/-! ### WheelCancel -/
theorem cancel_add {w : DWheel} {t : DTimer} (h : addErr w t = 0) : cancelErr (add w t) t.id = 0 ∧ cancel (add w t) t.id = w := by
  obtain ⟨h1, h2, h3, h4⟩ := add_iff.1 h
  have hc : cancelErr (add w t) t.id = 0 := cancel_iff.2 ⟨add_ok h, has_iff.2 ⟨t, by rw [add_timers h]; exact mem_insI.2 (.inl rfl), rfl⟩⟩
  refine ⟨hc, ?_⟩
  rw [cancel_can hc, add_timers h, add_now h]
  conv => rhs; rw [h1.canon]
  congr 1
  refine sd_ext (sd_filter (add_can h).2.sd _) h1.sd fun x => ?_
  rw [List.mem_filter, mem_insI, decide_eq_true_eq]
  constructor
  · rintro ⟨rfl | hx, hn⟩
    · exact absurd rfl hn
    · exact hx
  · intro hx
    exact ⟨.inr hx, fun e => by rw [has_iff.2 ⟨x, hx, e⟩] at h3; cases h3⟩
theorem addErr_ok {w : DWheel} (h1 : Ok w) (u : DTimer) : addErr w u = if Wh.right u w.now = false then 3 else if has (timers w.slots) u.id = true then 6 else if (timers w.slots).length = 60 then 8 else 0 := by
  unfold addErr; rw [find_has, if_neg (by simp [check_ok.2 h1])]
theorem has_ins {t : DTimer} {S : List DTimer} {id : Int} : has (insI t S) id = true ↔ t.id = id ∨ has S id = true := by
  rw [has_iff, has_iff]
  constructor
  · rintro ⟨x, hx, e⟩
    rcases mem_insI.1 hx with rfl | hx
    · exact .inl e
    · exact .inr ⟨x, hx, e⟩
  · rintro (e | ⟨x, hx, e⟩)
    · exact ⟨t, mem_insI.2 (.inl rfl), e⟩
    · exact ⟨x, mem_insI.2 (.inr hx), e⟩
theorem two_bad {w : DWheel} {t u : DTimer} (h : addErr w t = 0) (hb : ¬ addErr w u = 0 ∨ ¬ addErr (add w t) u = 0) : addErr w u = addErr (add w t) u ∨ (addErr (add w t) u = 6 ∧ t.id = u.id) ∨ addErr (add w t) u = 8 := by
  have h1 := (add_iff.1 h).1
  rw [addErr_ok (add_ok h), addErr_ok h1, add_timers h, add_now h] at hb ⊢
  by_cases c1 : Wh.right u w.now = false
  · left; rw [if_pos c1, if_pos c1]
  · rw [if_neg c1, if_neg c1] at hb ⊢
    by_cases c2 : has (timers w.slots) u.id = true
    · left; rw [if_pos c2, if_pos (has_ins.2 (.inr c2))]
    · by_cases c3 : t.id = u.id
      · right; left; exact ⟨if_pos (has_ins.2 (.inl c3)), c3⟩
      · have c4 : ¬ has (insI t (timers w.slots)) u.id = true := fun h9 => (has_ins.1 h9).elim c3 c2
        rw [if_neg c2, if_neg c4] at hb ⊢
        by_cases c5 : (insI t (timers w.slots)).length = 60
        · right; right; exact if_pos c5
        · rw [if_neg c5] at hb
          rcases hb with hb | hb
          · split at hb
            · rename_i c6
              rw [(insI_perm t (timers w.slots)).length_eq, List.length_cons] at c5
              have := (add_can h).2.few
              rw [(insI_perm t (timers w.slots)).length_eq, List.length_cons] at this
              omega
            · exact absurd rfl hb
          · exact absurd rfl hb
theorem two_good {w : DWheel} {t u : DTimer} (h : addErr w t = 0) (h2 : addErr w u = 0) (h3 : addErr (add w t) u = 0) : addErr (add w u) t = 0 ∧ add (add w t) u = add (add w u) t := by
  obtain ⟨a1, a2, a3, a4⟩ := add_iff.1 h
  obtain ⟨b1, b2, b3, b4⟩ := add_iff.1 h2
  obtain ⟨c1, c2, c3, c4⟩ := add_iff.1 h3
  rw [add_timers h] at c3 c4
  have hne : ¬ u.id = t.id := fun e => by rw [has_ins.2 (.inl e.symm)] at c3; cases c3
  have h4 : addErr (add w u) t = 0 := by
    refine add_iff.2 ⟨add_ok h2, by rw [add_now h2]; exact a2, ?_, ?_⟩
    · rw [add_timers h2]
      cases e : has (insI u (timers w.slots)) t.id with
      | false => rfl
      | true =>
        rcases has_ins.1 e with e | e
        · exact absurd e hne
        · rw [a3] at e; cases e
    · rw [add_timers h2, (insI_perm u (timers w.slots)).length_eq]
      rw [(insI_perm t (timers w.slots)).length_eq] at c4
      exact c4
  refine ⟨h4, ?_⟩
  rw [(add_can h3).1, (add_can h4).1, add_now h, add_now h2]
  congr 1
  refine sd_ext (add_can h3).2.sd (add_can h4).2.sd fun x => ?_
  rw [mem_insI, mem_insI, add_timers h, add_timers h2, mem_insI, mem_insI]
  constructor
  · rintro (h | h | h) <;> simp [h]
  · rintro (h | h | h) <;> simp [h]
end Go.Sx.Wh

/- Timing wheels: WheelSpec's lists. -/
namespace Go.Sx.Wh
def DW (l : List DTimer) : Prop := l.length ≤ 1000 ∧ ∀ t ∈ l, 0 ≤ t.due ∧ t.due ≤ 262143
theorem ofh {n : Int} {l : List DTimer} (h : 0 ≤ n ∧ n ≤ 262143) (h2 : DW l) : (0 ≤ n ∧ n ≤ 262143) ∧ l.length ≤ 1000 ∧ ∀ t ∈ l, 0 ≤ t.due ∧ t.due ≤ 262143 := ⟨h, h2⟩
theorem dw_nil : DW [] := ⟨by simp, fun _ h => by cases h⟩
theorem dw_all {w : DWheel} (h : Ok w) : DW (timers w.slots) := ⟨by have := h.few; omega, fun _ ht => (right_iff.1 (h.right ht)).2.1⟩
theorem dw_add {w : DWheel} {t : DTimer} (h : Ok w) (hr : Wh.right t w.now = true) : DW (([] ++ timers w.slots) ++ [t]) := by
  refine ⟨by have := h.few; simp; omega, fun x hx => ?_⟩
  rw [List.nil_append, List.mem_append, List.mem_singleton] at hx
  rcases hx with hx | rfl
  · exact (dw_all h).2 x hx
  · exact (right_iff.1 hr).2.1
theorem dw_flt {w : DWheel} (h : Ok w) {l : List DTimer} {p : DTimer → Bool} (hl : l = (timers w.slots).filter p) : DW l := by
  subst hl
  exact ⟨Nat.le_trans (List.length_filter_le _ _) (dw_all h).1, fun x hx => (dw_all h).2 x (List.mem_filter.1 hx).1⟩
theorem fl_yes {p : DTimer → Bool} {l out : List DTimer} {i : Nat} (h : out = (l.take i).filter p) (hi : i < l.length) (hc : p (l.getD i default) = true) : out ++ [l.getD i default] = (l.take (i + 1)).filter p := by
  rw [h, List.take_succ_eq_append_getElem hi, List.filter_append]
  rw [getD_of hi] at hc ⊢
  simp [hc]
theorem fl_no {p : DTimer → Bool} {l out : List DTimer} {i : Nat} (h : out = (l.take i).filter p) (hi : i < l.length) (hc : p (l.getD i default) = false) : out = (l.take (i + 1)).filter p := by
  rw [h, List.take_succ_eq_append_getElem hi, List.filter_append]
  rw [getD_of hi] at hc
  simp [hc]
theorem fl_len {p : DTimer → Bool} {l out : List DTimer} {i : Nat} (h : out = (l.take i).filter p) : out.length ≤ l.length := by
  rw [h]; exact Nat.le_trans (List.length_filter_le _ _) (by rw [List.length_take]; omega)
theorem fl_all {p : DTimer → Bool} {l out : List DTimer} {i : Nat} (h : out = (l.take i).filter p) (hi : l.length ≤ i) : out = l.filter p := by rw [h, List.take_of_length_le hi]
theorem du_no {a b c : Int} (h : b < a ∨ b < c) : (decide (a ≤ b) && decide (c ≤ b)) = false := by
  rw [Bool.and_eq_false_iff, decide_eq_false_iff_not, decide_eq_false_iff_not]; omega
/-! ### none -/
theorem sp_no1 {to : Int} (h : to < 0 ∨ 262143 < to) : (⟨0, []⟩ : DWheel) = new to ∧ 3 = newErr to := by
  have h2 : okTime to = false := by
    cases e : okTime to with
    | false => rfl
    | true => have := okTime_iff.1 e; omega
  exact ⟨(nw1 h2).1.symm, (nw1 h2).2.symm⟩
theorem sp_no2 {to : Int} (h : 0 ≤ to ∧ to ≤ 262143) : of to [] = new to ∧ 0 = newErr to := by
  have h2 := nw2 (okTime_iff.2 h)
  exact ⟨h2.1.symm, h2.2.symm⟩
/-! ### add -/
theorem flt_all {now : Int} {S : List DTimer} (h : ∀ t ∈ S, Wh.right t now = true) : S.filter (fun t => decide (now < t.due)) = S :=
  List.filter_eq_self.2 fun t ht => decide_eq_true (right_iff.1 (h t ht)).2.2
theorem of_sd {now : Int} {S : List DTimer} (h : Sd S) : of now S = mkW now (S.filter fun t => decide (now < t.due)) := by rw [of, isort_sd h]
theorem sp_add1 {w : DWheel} {t : DTimer} (h : Ok w) (h2 : Wh.right t w.now = false) : 3 = addErr w t ∧ (⟨0, []⟩ : DWheel) = add w t := ⟨(ad2 (check_ok.2 h) h2).2.symm, (ad2 (check_ok.2 h) h2).1.symm⟩
theorem sp_add2 {w : DWheel} {t : DTimer} (h : Ok w) (h2 : Wh.right t w.now = true) (h3 : has (timers w.slots) t.id = true) : 6 = addErr w t ∧ (⟨0, []⟩ : DWheel) = add w t := by
  have := ad3 (check_ok.2 h) h2 (by rw [find_has]; exact h3)
  exact ⟨this.2.symm, this.1.symm⟩
theorem sp_add3 {w : DWheel} {t : DTimer} (h : Ok w) (h2 : Wh.right t w.now = true) (h3 : has (timers w.slots) t.id = false) (h4 : ((timers w.slots).length : Int) = 60) : 8 = addErr w t ∧ (⟨0, []⟩ : DWheel) = add w t := by
  have := ad4 (check_ok.2 h) h2 (by rw [find_has]; exact h3) (by omega)
  exact ⟨this.2.symm, this.1.symm⟩
theorem sp_add4 {w : DWheel} {t : DTimer} (h : Ok w) (h2 : Wh.right t w.now = true) (h3 : has (timers w.slots) t.id = false) (h4 : ¬ ((timers w.slots).length : Int) = 60) : check w = addErr w t ∧ of w.now (([] ++ timers w.slots) ++ [t]) = add w t := by
  have e : addErr w t = 0 := add_iff.2 ⟨h, h2, h3, by omega⟩
  refine ⟨by rw [e, check_ok.2 h], ?_⟩
  have hn : t ∉ timers w.slots := fun h9 => by rw [has_iff.2 ⟨t, h9, rfl⟩] at h3; cases h3
  rw [(add_can e).1, of]
  have hi : isort (([] ++ timers w.slots) ++ [t]) = insI t (timers w.slots) := by
    refine sd_ext (sd_isort ?_) (add_can e).2.sd fun x => ?_
    · rw [List.nil_append, List.nodup_append]
      refine ⟨sd_nodup h.sd, by simp, fun x hx y hy => ?_⟩
      rw [List.mem_singleton] at hy; subst hy
      intro e2; subst e2; exact hn hx
    · rw [mem_isort, mem_insI, List.nil_append, List.mem_append, List.mem_singleton, or_comm]
  rw [hi, flt_all (add_can e).2.right]
/-! ### cancel -/
theorem sp_can1 {w : DWheel} {id : Int} {left : List DTimer} (h : Ok w) (hl : left = (timers w.slots).filter fun t => decide (¬ t.id = id)) (he : (left.length : Int) = (timers w.slots).length) : 5 = cancelErr w id ∧ (⟨0, []⟩ : DWheel) = cancel w id := by
  have h3 : has (timers w.slots) id = false := by
    cases e : has (timers w.slots) id with
    | false => rfl
    | true =>
      obtain ⟨t, ht, e2⟩ := has_iff.1 e
      have h9 : (timers w.slots).filter (fun t => decide (¬ t.id = id)) = timers w.slots := List.Sublist.eq_of_length List.filter_sublist (by rw [← hl]; omega)
      have := List.filter_eq_self.1 h9 t ht
      simp [e2] at this
  have := cn2 (w := w) (id := id) (check_ok.2 h) (by rw [find_has]; exact h3)
  exact ⟨this.2.symm, this.1.symm⟩
theorem sp_can2 {w : DWheel} {id : Int} {left : List DTimer} (h : Ok w) (hl : left = (timers w.slots).filter fun t => decide (¬ t.id = id)) (he : ¬ (left.length : Int) = (timers w.slots).length) : check w = cancelErr w id ∧ of w.now left = cancel w id := by
  have h3 : has (timers w.slots) id = true := by
    cases e : has (timers w.slots) id with
    | true => rfl
    | false =>
      refine absurd ?_ he
      rw [hl, List.filter_eq_self.2]
      intro t ht
      refine decide_eq_true fun e2 => ?_
      rw [has_iff.2 ⟨t, ht, e2⟩] at e; cases e
  have e := cancel_iff.2 ⟨h, h3⟩
  refine ⟨by rw [e, check_ok.2 h], ?_⟩
  rw [cancel_can e, hl, of_sd (sd_filter h.sd _), flt_all]
  exact fun t ht => h.right (List.mem_filter.1 ht).1
/-! ### advance -/
theorem sp_adv1 {w : DWheel} {to : Int} (h : Ok w) (h2 : to < 0 ∨ 262143 < to) : 3 = advErr w to ∧ (⟨0, []⟩ : DWheel) = adv w to := by
  have h3 : okTime to = false := by
    cases e : okTime to with
    | false => rfl
    | true => have := okTime_iff.1 e; omega
  have := av2 (check_ok.2 h) h3
  exact ⟨this.2.2.symm, this.1.symm⟩
theorem sp_adv2 {w : DWheel} {to : Int} (h : Ok w) (h2 : 0 ≤ to ∧ to ≤ 262143) (h3 : to < w.now) : 4 = advErr w to ∧ (⟨0, []⟩ : DWheel) = adv w to := by
  have := av3 (check_ok.2 h) (okTime_iff.2 h2) h3
  exact ⟨this.2.2.symm, this.1.symm⟩
theorem sp_adv3 {w : DWheel} {to : Int} (h : Ok w) (h2 : 0 ≤ to ∧ to ≤ 262143) (h3 : ¬ to < w.now) : check w = advErr w to ∧ of to (timers w.slots) = adv w to := by
  have e := advErr0 h (okTime_iff.2 h2) h3
  exact ⟨by rw [e, check_ok.2 h], by rw [(adv_can e).1, of_sd h.sd]⟩
theorem sp_gone {w : DWheel} {to : Int} {g : List DTimer} (hg : g = (timers w.slots).filter fun t => decide (w.now ≤ to) && decide (t.due ≤ to)) (h : advErr w to = 0) : isort g = gone w to := by
  have hn : w.now ≤ to := by have := (adv0 h).2.2; omega
  rw [(adv_can h).2, hg, isort_sd (sd_filter (adv0 h).1.sd _)]
  refine List.filter_congr fun t _ => ?_
  rw [decide_eq_true hn, Bool.true_and]
/-! ### next -/
theorem sp_nx1 {w : DWheel} (h : Ok w) (h2 : ((timers w.slots).length : Int) = 0) : 5 = nextErr w ∧ 0 = next w := by
  have := nx2 (check_ok.2 h) (by omega); exact ⟨this.2, this.1⟩
theorem sp_nx2 {w : DWheel} (h : Ok w) (h2 : ¬ ((timers w.slots).length : Int) = 0) : check w = nextErr w ∧ ((isort (timers w.slots)).getD 0 default).due = next w := by
  rcases next5 h with ⟨a, b⟩ | ⟨a, b⟩
  · exact ⟨by rw [a, check_ok.2 h], by rw [isort_sd h.sd, (next0 a).2.2]⟩
  · omega
theorem sp_bad {w : DWheel} {t : DTimer} {id to : Int} (h : ¬ check w = 0) : (check w = addErr w t ∧ (⟨0, []⟩ : DWheel) = add w t) ∧ (check w = cancelErr w id ∧ (⟨0, []⟩ : DWheel) = cancel w id) ∧ (check w = advErr w to ∧ (⟨0, []⟩ : DWheel) = adv w to) ∧ (check w = nextErr w ∧ 0 = next w) :=
  ⟨⟨(ad1 h).2.symm, (ad1 h).1.symm⟩, ⟨(cn1 h).2.symm, (cn1 h).1.symm⟩, ⟨(av1 h).2.2.symm, (av1 h).1.symm⟩, ⟨(nx1 h).2, (nx1 h).1⟩⟩
end Go.Sx.Wh
