/- Lists of numbers sorted, and cleared of doublets: the kit's contracts, laid at this program. -/
import Derived.Test.YtfncgfcehkalnaaHaPureM14
import Derived.Shelf.SortM.Plain
import Derived.Shelf.SortM.SortNone
import Derived.Shelf.SlicesG.CompactI
import Derived.Test.YtfncgfcehkalnaaProg
namespace Go.Proofs
open Go.RowKit Go.Sort Go.Shelf
def Try.sortA_ren : Go.Shelf.Ren := ⟨fun | 5 => 59 | 8 => 88 | 7 => 87 | 19 => 115 | 20 => 116 | 10 => 107 | 11 => 108 | 12 => 109 | 13 => 110 | 14 => 111 | 15 => 112 | 16 => 57 | 17 => 113 | 18 => 114 | 30 => 135 | 31 => 136 | 32 => 137 | 33 => 138 | 34 => 139 | 35 => 74 | 40 => 146 | n => n, fun | 23 => 22 | 25 => 3 | 3 => 3 | 32 => 88 | 22 => 22 | 0 => 0 | 44 => 151 | 46 => 81 | 4 => 4 | 36 => 145 | 35 => 144 | 41 => 57 | 5 => 5 | 9 => 9 | 53 => 175 | 57 => 179 | 63 => 185 | 64 => 186 | n => n, fun n => n⟩
theorem Try.sortA : SlLaysM.n5 Try.prog Try.sortA_ren where
  mixed := by kernel_rfl
  f5 := ⟨ "slices.Sort[[]int,int]", by decide, Try.func59.trans (congrArg some (by kernel_rfl))⟩
  f7 := ⟨ "slices.pdqsortOrdered[int]", by decide, Try.func87.trans (congrArg some (by kernel_rfl))⟩
  f8 := Try.func88.trans (congrArg some (by kernel_rfl))
  f10 := ⟨ "slices.insertionSortOrdered[int]", by decide, Try.func107.trans (congrArg some (by kernel_rfl))⟩
  f11 := ⟨ "slices.heapSortOrdered[int]", by decide, Try.func108.trans (congrArg some (by kernel_rfl))⟩
  f12 := ⟨ "slices.breakPatternsOrdered[int]", by decide, Try.func109.trans (congrArg some (by kernel_rfl))⟩
  f13 := ⟨ "slices.choosePivotOrdered[int]", by decide, Try.func110.trans (congrArg some (by kernel_rfl))⟩
  f14 := ⟨ "slices.reverseRangeOrdered[int]", by decide, Try.func111.trans (congrArg some (by kernel_rfl))⟩
  f15 := ⟨ "slices.partialInsertionSortOrdered[int]", by decide, Try.func112.trans (congrArg some (by kernel_rfl))⟩
  f16 := ⟨ "cmp.Less[int]", by decide, Try.func57.trans (congrArg some (by kernel_rfl))⟩
  f17 := ⟨ "slices.partitionEqualOrdered[int]", by decide, Try.func113.trans (congrArg some (by kernel_rfl))⟩
  f18 := ⟨ "slices.partitionOrdered[int]", by decide, Try.func114.trans (congrArg some (by kernel_rfl))⟩
  f19 := Try.func115.trans (congrArg some (by kernel_rfl))
  f20 := Try.func116.trans (congrArg some (by kernel_rfl))
  f30 := ⟨ "slices.siftDownOrdered[int]", by decide, Try.func135.trans (congrArg some (by kernel_rfl))⟩
  f31 := Try.func136.trans (congrArg some (by kernel_rfl))
  f32 := Try.func137.trans (congrArg some (by kernel_rfl))
  f33 := ⟨ "slices.medianAdjacentOrdered[int]", by decide, Try.func138.trans (congrArg some (by kernel_rfl))⟩
  f34 := ⟨ "slices.medianOrdered[int]", by decide, Try.func139.trans (congrArg some (by kernel_rfl))⟩
  f35 := ⟨ "cmp.isNaN[int]", by decide, Try.func74.trans (congrArg some (by kernel_rfl))⟩
  f40 := ⟨ "slices.order2Ordered[int]", by decide, Try.func146.trans (congrArg some (by kernel_rfl))⟩
  t0 := Try.underlying0
  a0 := Try.isAgg0
  z0 := Try.sizeOf0
  v0 := Try.zeroValue0
  t3 := Try.underlying3
  a3 := Try.isAgg3
  z3 := Try.sizeOf3
  v3 := Try.zeroValue3
  t4 := Try.underlying4
  a4 := Try.isAgg4
  z4 := Try.sizeOf4
  v4 := Try.zeroValue4
  t5 := Try.underlying5
  a5 := Try.isAgg5
  z5 := Try.sizeOf5
  v5 := Try.zeroValue5
  t9 := Try.underlying9
  a9 := Try.isAgg9
  z9 := Try.sizeOf9
  v9 := Try.zeroValue9
  t22 := Try.underlying22
  a22 := Try.isAgg22
  z22 := Try.sizeOf22
  v22 := Try.zeroValue22
  t23 := Try.underlying22
  a23 := Try.isAgg22
  z23 := Try.sizeOf22
  v23 := Try.zeroValue22
  t25 := Try.underlying3
  a25 := Try.isAgg3
  z25 := Try.sizeOf3
  v25 := Try.zeroValue3
  t32 := Try.underlying88
  a32 := Try.isAgg88
  z32 := Try.sizeOf88
  v32 := Try.zeroValue88
  t35 := Try.underlying144
  a35 := Try.isAgg144
  z35 := Try.sizeOf144
  v35 := Try.zeroValue144
  t36 := Try.underlying145
  a36 := Try.isAgg145
  z36 := Try.sizeOf145
  v36 := Try.zeroValue145
  t41 := Try.underlying57
  a41 := Try.isAgg57
  z41 := Try.sizeOf57
  v41 := Try.zeroValue57
  t44 := Try.underlying151
  a44 := Try.isAgg151
  z44 := Try.sizeOf151
  v44 := Try.zeroValue151
  t46 := Try.underlying81
  a46 := Try.isAgg81
  z46 := Try.sizeOf81
  v46 := Try.zeroValue81
  t53 := Try.underlying175
  a53 := Try.isAgg175
  z53 := Try.sizeOf175
  v53 := Try.zeroValue175
  t57 := Try.underlying179
  a57 := Try.isAgg179
  z57 := Try.sizeOf179
  v57 := Try.zeroValue179
  t63 := Try.underlying185
  a63 := Try.isAgg185
  z63 := Try.sizeOf185
  v63 := Try.zeroValue185
  t64 := Try.underlying186
  a64 := Try.isAgg186
  z64 := Try.sizeOf186
  v64 := Try.zeroValue186
def Try.compactA_ren : Go.Shelf.Ren := ⟨fun | 43 => 60 | n => n, fun | 22 => 22 | 23 => 3 | 3 => 3 | 4 => 4 | 0 => 0 | n => n, fun n => n⟩
theorem Try.compactA : SlLaysN.n43 Try.prog Try.compactA_ren where
  mixed := by kernel_rfl
  f43 := ⟨ "slices.Compact[[]int,int]", by decide, Try.func60.trans (congrArg some (by kernel_rfl))⟩
  t0 := Try.underlying0
  a0 := Try.isAgg0
  z0 := Try.sizeOf0
  v0 := Try.zeroValue0
  t3 := Try.underlying3
  a3 := Try.isAgg3
  z3 := Try.sizeOf3
  v3 := Try.zeroValue3
  t4 := Try.underlying4
  a4 := Try.isAgg4
  z4 := Try.sizeOf4
  v4 := Try.zeroValue4
  t22 := Try.underlying22
  a22 := Try.isAgg22
  z22 := Try.sizeOf22
  v22 := Try.zeroValue22
  t23 := Try.underlying3
  a23 := Try.isAgg3
  z23 := Try.sizeOf3
  v23 := Try.zeroValue3
  i23 := by kernel_rfl
end Go.Proofs
namespace Go.Proofs.Ytfncgfcehkalnaa
open Go.Sx Go.RowKit Go.Sort Go.Shelf
set_option maxRecDepth 100000 in
theorem sortI_ok (l : List Int) (al : Option Addr) (cl : Nat) (Sl : Nat → Prop) : FnX Try.prog 59 [.slice al l.length cl] [own tInt Sl al cl l] (fun _ => True) Unit (fun _ => .tuple #[]) (fun _ => [own tInt Sl al cl (sortL l)]) :=
  fnX_sort (fun blk off cap zs w hH hb hs => AnyM.slices_Sort_int Try.sortA blk off cap zs w hH hb hs) (fun p cap w => AnyM.slices_Sort_int_none Try.sortA p cap w)
theorem compactI_ok (l : List Int) (al : Option Addr) (cl : Nat) (Sl : Nat → Prop) : FnX Try.prog 60 [.slice al l.length cl] [own tInt Sl al cl l] (fun _ => True) ((Option Addr) × (Nat) × (Nat → Prop)) (fun p => .slice p.1 (compactL l).length p.2.1) (fun p => [own tInt p.2.2 p.1 p.2.1 (compactL l)]) :=
  fnX_compact (compactL_len l) (fun blk off cap zs w hH hs hc => AnyG.slices_Compact_int Try.compactA blk off cap zs w hH hs hc) (fun p cap w => AnyG.slices_Compact_int_empty Try.compactA p cap w)
end Go.Proofs.Ytfncgfcehkalnaa
