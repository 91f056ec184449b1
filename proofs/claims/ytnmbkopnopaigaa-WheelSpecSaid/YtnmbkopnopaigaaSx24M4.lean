/- The keys of a map, sorted: the kit's contracts over the entries here. -/
import Derived.Test.YtnmbkopnopaigaaSx12M17
import Derived.Shelf.SlIterI.Nil
import Derived.Shelf.SlIterI.Sorted
import Derived.Test.YtnmbkopnopaigaaSx31M2
namespace Go.Sx
open Go.RowKit Go.Maps Go.Proofs
section
variable {ν : Type} {P : Program} {ve : ν → Value} {B : Nat} {m : List (Int × ν)} {w : World}
def sortK (m : List (Int × ν)) : List Int := (m.map (·.1)).mergeSort (fun x y => decide (x ≤ y))
theorem sortK_len (m : List (Int × ν)) : (sortK m).length = m.length := by simp [sortK]
def anyR : Value → Option (DataW Unit × List MemPlace) := fun _ => some (.nil, [])
theorem rd_int {k : TypeId} (hk : P.underlying k = some (.int .i64)) {x : MapEntry} {z : Int} (hx : x.key = .int .i64 z) (hz : (Lit.int .i64 z).wf = true) : WideElems.rd P k anyR x = some (.int .i64 z, .nil) := by
  simp [WideElems.rd, hx, keyOf, hk, mapKey, hz, anyR]
theorem ownsMap_of {k : TypeId} (hk : P.underlying k = some (.int .i64)) (h : MapIs kInt ve B m w) (hnd : (m.map (·.1)).Nodup) (hin : ∀ p ∈ m, (Lit.int .i64 p.1).wf = true) (hl : m.length ≤ 1000000) :
    ∃ D : DataW Unit, w.ownsMap P k anyR B m.length D ∧ (intKeys D).Perm (m.map (·.1)) ∧ Maps.size D = m.length := by
  obtain ⟨es, clock, h1, h2, h3⟩ := h
  have hkeys : es.toList.map (·.key) = m.map (fun p => kInt.enc p.1) := by
    have := congrArg (List.map Prod.fst) h2
    simpa [List.map_map, Function.comp_def] using this
  have hlen : es.toList.length = m.length := by simpa using congrArg List.length hkeys
  have hat : ∀ x ∈ es.toList, ∃ z : Int, x.key = .int .i64 z ∧ (Lit.int .i64 z).wf = true := fun x hx => by
    have h4 : x.key ∈ m.map (fun p => kInt.enc p.1) := hkeys ▸ List.mem_map_of_mem hx
    obtain ⟨p, hp, e⟩ := List.mem_map.1 h4
    exact ⟨p.1, e.symm, hin p hp⟩
  refine ⟨_, ⟨es, clock, h1, ⟨?_, ⟨h3.2, h3.1, ?_⟩, ?_⟩, ?_, rfl⟩, ?_, ?_⟩
  · have : es.size = es.toList.length := by simp
    rw [this, hlen]; unfold maxLen; omega
  · rw [hkeys]
    have : m.map (fun p => kInt.enc p.1) = (m.map (·.1)).map kInt.enc := by simp
    rw [this]
    exact List.Pairwise.map _ (fun a b hne e => hne (by simpa [kInt] using e)) hnd
  · intro x hx
    obtain ⟨z, hz, hw⟩ := hat x hx
    exact ⟨_, rd_int hk hz hw⟩
  · have : es.size = es.toList.length := by simp
    rw [this, hlen]; exact Nat.le_refl _
  · show (((es.toList.map (WideElems.rg P k anyR)).foldr DataW.insert []).map fun p => intOf p.1).Perm _
    refine ((Go.WideShapes.sorted_perm _).map _).trans ?_
    rw [List.map_map]
    have : es.toList.map ((fun p => intOf p.1) ∘ WideElems.rg P k anyR) = m.map (·.1) := by
      have h5 : es.toList.map ((fun p => intOf p.1) ∘ WideElems.rg P k anyR) = (es.toList.map (·.key)).map (fun v => match v with | .int _ z => z | _ => 0) := by
        rw [List.map_map]
        refine List.map_congr_left fun x hx => ?_
        obtain ⟨z, hz, hw⟩ := hat x hx
        simp [WideElems.rg, rd_int hk hz hw, hz, intOf]
      rw [h5, hkeys, List.map_map]; rfl
    rw [this]
  · show ((es.toList.map (WideElems.rg P k anyR)).foldr DataW.insert []).length = _
    rw [length_sorted, List.length_map, hlen]
theorem slO_row {w0 : World} {e : TypeId} {v : Value} {L : List Int} {n : Nat} (hn : n = L.length) (hl : L.length ≤ 1000000) (h : w.ownsRow w0.heap.size e 1 v n (L.map encZ)) :
    ∃ (p : Option Addr × Nat) (S : Nat → Prop), v = .slice p.1 L.length p.2 ∧ (∀ b, S b → w0.heap.size ≤ b ∧ b < w.heap.size) ∧ SlO tInt S w p.1 p.2 L := by
  obtain ⟨_, ⟨rfl, h0⟩ | ⟨g, cap, cur, rfl, hb, hc, h1, h2, h3, h4⟩⟩ := h
  · exact ⟨(none, 0), fun _ => False, by rw [← hn, h0], fun b hb => hb.elim, by omega, by omega, rfl⟩
  · have hg : g < w.heap.size := by
      rcases Nat.lt_or_ge g w.heap.size with h | h
      · exact h
      · rw [Array.getElem?_eq_none h] at hc; cases hc
    refine ⟨(some ⟨g, 0, none⟩, cap), fun b => b = g, by rw [hn], fun b hb' => by subst hb'; exact ⟨hb, hg⟩, by omega, by omega, rfl, rfl, ⟨cur, e, hc, ?_⟩, ?_⟩
    · show 0 + cap * 1 ≤ cur.size
      omega
    · intro i hi j hj
      have hj0 : j = 0 := by have : j < 1 := hj; omega
      subst hj0
      have h5 := congrArg (·[i]?) h4
      simp only [Nat.mul_one, List.getElem?_take, List.getElem?_map] at h5
      rw [if_pos (by omega), List.getElem?_eq_getElem hi] at h5
      show w.cell? ⟨g, 0 + i * 1 + 0, none⟩ = _
      have h6 : cur[i]? = some (encZ L[i]) := by simpa using h5
      simp [World.cell?, hc, h6]
      rfl
theorem fnM_sorted {f g : FuncId} {kt U : TypeId} {Bm : Nat} (hk : P.underlying kt = some (.int .i64))
    (hcS : ∀ (w : World) (D : DataW Unit) (nn : Nat), Bm < w.heap.size → w.cell? ⟨Bm, 0, none⟩ = some (.map (some B)) → w.ownsMap P kt anyR B nn D → Maps.size D ≤ maxLen → Maps.size D * 8 ≤ 140737488355328 →
      Calls P f #[.func (.func g) #[] #[.pointer (some ⟨Bm, 0, none⟩)]] w fun e w' => ∃ (v : Value) (ss : List Int), e = .returned v ∧ ss.Perm (intKeys D) ∧ w'.ownsRow w.heap.size kt 1 v ss.length ((ss.mergeSort (fun x y => decide (x ≤ y))).map encZ) ∧ (v = .slice none 0 0 ↔ ss = []) ∧ Below w.heap.size w w')
    (hnd : (m.map (·.1)).Nodup) (hin : ∀ p ∈ m, (Lit.int .i64 p.1).wf = true) (hl : m.length ≤ 1000000) :
    FnM P f [.func (.func g) #[] #[.pointer (some ⟨Bm, 0, none⟩)]] (fun w => (box Bm [.map (some B)] U).A w ∧ MapIs kInt ve B m w) (Option Addr × Nat) (fun p => .slice p.1 (sortK m).length p.2) (fun p S w => SlO tInt S w p.1 p.2 (sortK m)) := by
  intro w ⟨hb, hm⟩
  obtain ⟨D, hD, hp, hs⟩ := ownsMap_of hk hm hnd hin hl
  have hlt : Bm < w.heap.size := by
    have hb' : w.heap[Bm]? = some (.cells [Value.map (some B)].toArray U (0, 0)) := hb
    rcases Nat.lt_or_ge Bm w.heap.size with h | h
    · exact h
    · rw [Array.getElem?_eq_none h] at hb'; cases hb'
  have hcell : w.cell? ⟨Bm, 0, none⟩ = some (.map (some B)) := by
    have hb' : w.heap[Bm]? = some (.cells [Value.map (some B)].toArray U (0, 0)) := hb
    simp [World.cell?, hb']
  refine (hcS w D _ hlt hcell hD (by rw [hs]; unfold maxLen; omega) (by rw [hs]; omega)).mono ?_
  rintro e w' ⟨v, ss, rfl, hss, hrow, _, hbelow⟩
  have hperm := hss.trans hp
  have e2 : ss.mergeSort (fun x y => decide (x ≤ y)) = sortK m := mergeSort_of_perm_i hperm
  rw [e2] at hrow
  have hlen : ss.length = (sortK m).length := by rw [sortK_len]; simpa using hperm.length_eq
  obtain ⟨p, S, h1, h2, h3⟩ := slO_row hlen (by rw [sortK_len]; exact hl) hrow
  exact ⟨p, S, by rw [h1], hbelow, h2, h3⟩
end
end Go.Sx

/- A variable that holds a map or nil; the clone of a map. -/
namespace Go.Sx
open Go.RowKit
section
variable {κ ν : Type} [DecidableEq κ]
variable {P : Program} {n : Nat} {w0 : World} {r : Option Nat} {ds : List Deferred} {Q : Exit → Act → World → Prop} {F F' : List (Nat × Value)} {H H' : List Ent} {ops : Array Oper}
variable {K : KTy κ} {ve : ν → Value} {m : List (κ × ν)}
/-- the entry of a map that may be nil -/
def mapO (K : KTy κ) (ve : ν → Value) (b : Option Nat) (m : List (κ × ν)) : Ent :=
  match b with
  | none => ⟨fun _ => False, fun _ => True⟩
  | some B => mapE K ve B m
theorem HeapIs.mapNil {w : World} (h : HeapIs w0 H w) (K : KTy κ) (ve : ν → Value) (m : List (κ × ν)) : HeapIs w0 (mapO K ve none m :: H) w :=
  ⟨h.same, h.size, fun e he => by
    rcases List.mem_cons.1 he with rfl | he
    · exact ⟨fun _ _ _ _ => trivial, fun b hb => hb.elim, trivial⟩
    · exact h.good e he, List.pairwise_cons.2 ⟨fun e _ b hb => hb.elim, h.apart⟩⟩
theorem c_mapNil (K : KTy κ) (ve : ν → Value) (m : List (κ × ν)) {c : Code} (h : SC r ds P n w0 Q c F (mapO K ve none m :: H)) : SC r ds P n w0 Q c F H := fun a w ha hw => h a w ha (hw.mapNil K ve m)
theorem HeapIs.newMap {w : World} (h : HeapIs w0 H w) {es : Array MapEntry} {c : Nat} (h2 : es.toList.map (fun e => (e.key, e.val)) = m.map (fun p => (K.enc p.1, ve p.2))) (h3 : Born es.toList c) : HeapIs w0 (mapE K ve w.heap.size m :: H) (w.alloc (.map es c)) :=
  h.push (.map es c) (fun w1 w2 ha hA => MapIs.agree ha hA) ⟨es, c, World.alloc_heap_new w _, h2, h3⟩
theorem fnX_clone {f : FuncId} {B : Nat} (hcS : ∀ (es : Array MapEntry) (clock : Nat) (w : World), w.heap[B]? = some (.map es clock) → Calls P f #[.map (some B)] w fun e w' => e = .returned (.map (some w.heap.size)) ∧ w' = w.alloc (.map es clock)) :
    FnX P f [.map (some B)] [] (fun w => MapIs K ve B m w) Nat (fun p => .map (some p)) (fun p => [mapE K ve p m]) := by
  intro w hw ⟨es, c, h1, h2, h3⟩
  refine (hcS es c w h1).mono ?_
  rintro e w' ⟨rfl, rfl⟩
  exact ⟨w.heap.size, rfl, (hw.newMap h2 h3).pick (H' := [outer w [], mapE K ve w.heap.size m]) [1, 0] (by decide) rfl⟩
end
end Go.Sx

/- Guarded operations in a region whose order is open: the guard's value is known. -/
namespace Go.Sx
open Go.RowKit
section
variable {P : Program} {n : Nat} {w0 : World} {ds : List Deferred} {Q : Exit → Act → World → Prop} {F : List (Nat × Value)} {H Hr : List Ent} {ops : Array Oper} {d fuel : Nat} {listed : Array Bool}
theorem h_takeG {i g : Nat} {want : Bool} {o : Oper} {v : Value} {ls : Array Bool} (hi : ops[i]? = some o) (hs : Region.noSelect ops = true) (hf : Region.free .any ops listed i = true) (hr : (Region.ready .any ops listed).contains i = true)
    (hQ : ∀ c a w, Q (.panic c) (a.put o.dst v) w → Q (.panic c) a w) (hp : Pure ds P n w0 o F Hr v) (hg : o.guard = some (g, want)) (dg : Nat) (hdg : ((ops[g]?).bind (·.dst)) = some dg) (hb : lk F dg = some (.bool want)) (hd : o.dst = some d) (hn : Nat.blt d n = true) (hsub : ∀ w, HeapIs w0 H w → HeapIs w0 Hr w) (hls : ls = listed.setIfInBounds i true)
    (k : SH ds P n w0 ops Q Hr fuel ls ((d, v) :: F) H) : SH ds P n w0 ops Q Hr (fuel + 1) listed F H := fun a w ha hw => by
  subst hls
  refine wpAnyH_take hi hs hf hr hQ (.inl ⟨by simp [Region.wanted, yielded, hg, hdg, ha.knows dg _ hb], fun w' hw' => hp a w' ha hw'⟩) (hsub w hw) ?_
  rw [hd]
  exact k _ w (ha.put hn v) hw
theorem h_takeNo {i g : Nat} {want b : Bool} {o : Oper} {ls : Array Bool} (hi : ops[i]? = some o) (hs : Region.noSelect ops = true) (hf : Region.free .any ops listed i = true) (hr : (Region.ready .any ops listed).contains i = true)
    (hQ : ∀ c a w, Q (.panic c) (a.put o.dst undef) w → Q (.panic c) a w) (hg : o.guard = some (g, want)) (dg : Nat) (hdg : ((ops[g]?).bind (·.dst)) = some dg) (hb : lk F dg = some (.bool b)) (hne : (b == want) = false) (hd : o.dst = some d) (hn : Nat.blt d n = true) (hsub : ∀ w, HeapIs w0 H w → HeapIs w0 Hr w) (hls : ls = listed.setIfInBounds i true)
    (k : SH ds P n w0 ops Q Hr fuel ls ((d, undef) :: F) H) : SH ds P n w0 ops Q Hr (fuel + 1) listed F H := fun a w ha hw => by
  subst hls
  refine wpAnyH_take hi hs hf hr hQ (.inr ⟨by simp [Region.wanted, yielded, hg, hdg, ha.knows dg _ hb, hne], rfl⟩) (hsub w hw) ?_
  rw [hd]
  exact k _ w (ha.put hn undef) hw
/-- a comparison whose outcome is known -/
theorem p_known {o : Oper} {b c : Bool} (e : b = c) (h : Pure ds P n w0 o F H (.bool b)) : Pure ds P n w0 o F H (.bool c) := e ▸ h
end
end Go.Sx

/- Slices of slices, as they come in. -/
namespace Go.Sx
open Go.RowKit Go.ChangeShapes Go.WideShapes Go.ChangeAt
section
variable {α H : Type} {P : Program} {enc : TypeId × Value → H} {w : World} {T : Ty α} {WF : α → Prop}
theorem elTy_hd {e e2 : TypeId} (hu : P.underlying e = some (.slice e2)) (hc : P.cellsOf e = 1) : ElTy P e tHdE (fun _ => True) :=
  ⟨hc, by decide, fun _ _ _ _ _ h => by
    rcases DataW.trod_slice hu h with ⟨h0, _⟩ | ⟨x, len', cap', elems, rest, n, _, hcs, _⟩
    · exact ⟨⟨none, 0, 0⟩, h0, trivial⟩
    · exact ⟨⟨some x, len', cap'⟩, hcs, trivial⟩⟩
theorem weights_all {e : TypeId} {ds : List (DataW H)} {d : DataW H} (h : d ∈ ds) : ∀ m ∈ d.weights P e, m ∈ DataW.weightsAll P e ds := by
  induction ds with
  | nil => cases h
  | cons b ds ih =>
    intro m hm
    rw [DataW.weightsAll]
    rcases List.mem_cons.1 h with rfl | h
    · exact List.mem_append_left _ hm
    · exact List.mem_append_right _ (ih h m hm)
theorem open_rdN_cs {t e e2 : TypeId} {fuel : Nat} {cs : List Value} {d : DataW H} {ps : List MemPlace} (hu : P.underlying t = some (.slice e)) (hu2 : P.underlying e = some (.slice e2)) (hc : P.cellsOf e = 1) (hT : ElTy P e2 T WF) (hby : 0 < P.bytesOf e) (hby2 : 0 < P.bytesOf e2) (hf : DataW.trod enc P w 0 (fun _ => true) true fuel t cs = some (d, ps))
    (hsz : ∀ m ∈ d.weights P t, m ≤ reachBytes) : ∃ (a : Option Addr) (c : NC) (LL : List (List α)), cs = [.slice a LL.length c.n] ∧ RdN T w a c LL ∧ ∀ L ∈ LL, ∀ z ∈ L, WF z := by
  obtain ⟨a, cap, hs, rfl, hrd, _⟩ := open_rd_cs hu (elTy_hd hu2 hc) hby hf hsz
  have each : ∀ i, i < hs.length → ∃ L : List α, (hs.getD i default).len = L.length ∧ Rd T w (hs.getD i default).a (hs.getD i default).cap L ∧ ∀ z ∈ L, WF z := fun i hi => by
    rcases DataW.trod_slice hu hf with ⟨h0, _⟩ | ⟨x, len', cap', elems, rest, n, _, hcs, hx, hb, hl, hm, hlen, hel, hsp, _⟩
    · simp only [List.cons.injEq, Value.slice.injEq, and_true] at h0
      omega
    · simp only [List.cons.injEq, Value.slice.injEq, and_true] at hcs
      obtain ⟨rfl, rfl, rfl⟩ := hcs
      simp only [Prod.mk.injEq] at hx
      obtain ⟨rfl, _⟩ := hx
      have h1 := hel i hi
      rw [List.getElem?_eq_getElem (show i < elems.length by omega), hc, Option.bind_eq_some_iff] at h1
      obtain ⟨cs, hcs, h2⟩ := h1
      obtain ⟨_, hcl, hcell⟩ := World.cells?_some hcs
      obtain ⟨z, hz⟩ : ∃ z : HdE, cs = [.slice z.a z.len z.cap] := by
        obtain ⟨z, hz, _⟩ := (elTy_hd (P := P) hu2 hc).2.2 enc w n cs _ h2
        exact ⟨z, hz⟩
      have hg := hrd.2.2
      have hspot := (hg.1 (by omega)).1
      have hrow := hg.2 i hi 0 (by decide)
      have h3 := hcell 0 (by simp)
      rw [hz] at h3
      have ha : (x.add (i * 1)).add 0 = ⟨x.block, x.off + i * tHdE.k + 0, none⟩ := by rw [add_add hspot]; rfl
      rw [ha, hrow] at h3
      have hzz : hs[i] = z := by
        have h4 : ([.slice hs[i].a hs[i].len hs[i].cap] : List Value)[0]? = ([.slice z.a z.len z.cap] : List Value)[0]? := h3
        simp only [List.getElem?_cons_zero, Option.some.injEq, Value.slice.injEq] at h4
        obtain ⟨q1, q2, q3⟩ := h4
        cases hh : hs[i]; cases z; simp only [hh] at q1 q2 q3; subst q1; subst q2; subst q3; rfl
      have hgd : hs.getD i default = z := by rw [List.getD_eq_getElem?_getD, List.getElem?_eq_getElem hi, Option.getD_some, hzz]
      rw [hz] at h2
      obtain ⟨L, e1, r1, w1⟩ := open_rd_of (T := T) (WF := WF) hu2 hT hby2 h2 (fun m hm => hsz m (by
        simp only [DataW.weights, hu]
        exact List.mem_cons_of_mem _ (List.mem_append_left _ (weights_all (List.mem_map.2 ⟨elems[i], List.getElem_mem _, rfl⟩) m hm))))
      rw [hgd]
      exact ⟨L, e1, r1, w1⟩
  obtain ⟨LL, hl, hLL⟩ := choose_list (Pz := fun i L => (hs.getD i default).len = L.length ∧ Rd T w (hs.getD i default).a (hs.getD i default).cap L ∧ ∀ z ∈ L, WF z) hs.length each
  have hgd : ∀ i (hi : i < LL.length), LL.getD i [] = LL[i] := fun i hi => by rw [List.getD_eq_getElem?_getD, List.getElem?_eq_getElem hi]; rfl
  refine ⟨a, ⟨cap, fun i => (hs.getD i default).a, fun i => (hs.getD i default).cap⟩, LL, by rw [hl], ?_, fun L hL => ?_⟩
  · have e : hs = hds ⟨cap, fun i => (hs.getD i default).a, fun i => (hs.getD i default).cap⟩ LL := by
      refine hds_ext hl.symm fun i hi => ?_
      have h1 := (hLL i (by omega)).1
      have hgi : hs.getD i default = hs[i] := by rw [List.getD_eq_getElem?_getD, List.getElem?_eq_getElem hi]; rfl
      rw [hgd i (by omega), ← h1]
      show hs[i] = ⟨(hs.getD i default).a, (hs.getD i default).len, (hs.getD i default).cap⟩
      rw [hgi]
    have h2 := hrd
    rw [e] at h2
    refine ⟨by have := hrd.1; show LL.length ≤ cap; omega, by have := hrd.2.1; omega, h2, fun i hi => ?_⟩
    rw [hgd i hi]
    exact (hLL i hi).2.1
  · obtain ⟨i, hi, rfl⟩ := List.getElem_of_mem hL
    exact (hLL i hi).2.2
end
end Go.Sx
