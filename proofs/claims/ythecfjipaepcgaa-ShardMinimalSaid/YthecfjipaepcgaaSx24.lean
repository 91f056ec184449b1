/- The keys of a map, sorted: the kit's contracts over the entries here. -/
import Derived.Test.YthecfjipaepcgaaSx23
import Derived.Shelf.SlIterI.Nil
import Derived.Shelf.SlIterI.Sorted
namespace Go.Sx
open Go.RowKit Go.Maps Go.Proofs
section
variable {ν : Type} {P : Program} {ve : ν → Value} {B : Nat} {m : List (Int × ν)} {w : World}
def sortK (m : List (Int × ν)) : List Int := (m.map (·.1)).mergeSort (fun x y => decide (x ≤ y))
theorem sortK_len (m : List (Int × ν)) : (sortK m).length = m.length := by simp [sortK]
def anyR : Value → Option (DataW Unit × List MemPlace) := fun _ => some (.nil, [])
theorem rd_int {k : TypeId} (hk : P.underlying k = some (.int .i64)) {x : MapEntry} {z : Int} (hx : x.key = .int .i64 z) (hz : (Lit.int .i64 z).wf = true) : WideElems.rd P k anyR x = some (.int .i64 z, .nil) := by
  simp [WideElems.rd, hx, keyOf, hk, mapKey, hz, anyR]
theorem ownsMap_of {k : TypeId} (hk : P.underlying k = some (.int .i64)) (h : MapIs kInt ve B m w) (hnd : (m.map (·.1)).Nodup) (hin : ∀ p ∈ m, (Lit.int .i64 p.1).wf = true) (hl : m.length ≤ 1000000) :
    ∃ D : DataW Unit, w.ownsMap P k anyR B m.length D ∧ (intKeys D).Perm (m.map (·.1)) ∧ Maps.size D = m.length := by
  obtain ⟨es, clock, h1, h2, h3⟩ := h
  have hkeys : es.toList.map (·.key) = m.map (fun p => kInt.enc p.1) := by
    have := congrArg (List.map Prod.fst) h2
    simpa [List.map_map, Function.comp_def] using this
  have hlen : es.toList.length = m.length := by simpa using congrArg List.length hkeys
  have hat : ∀ x ∈ es.toList, ∃ z : Int, x.key = .int .i64 z ∧ (Lit.int .i64 z).wf = true := fun x hx => by
    have h4 : x.key ∈ m.map (fun p => kInt.enc p.1) := hkeys ▸ List.mem_map_of_mem hx
    obtain ⟨p, hp, e⟩ := List.mem_map.1 h4
    exact ⟨p.1, e.symm, hin p hp⟩
  refine ⟨_, ⟨es, clock, h1, ⟨?_, ⟨h3.2, h3.1, ?_⟩, ?_⟩, ?_, rfl⟩, ?_, ?_⟩
  · have : es.size = es.toList.length := by simp
    rw [this, hlen]; unfold maxLen; omega
  · rw [hkeys]
    have : m.map (fun p => kInt.enc p.1) = (m.map (·.1)).map kInt.enc := by simp
    rw [this]
    exact List.Pairwise.map _ (fun a b hne e => hne (by simpa [kInt] using e)) hnd
  · intro x hx
    obtain ⟨z, hz, hw⟩ := hat x hx
    exact ⟨_, rd_int hk hz hw⟩
  · have : es.size = es.toList.length := by simp
    rw [this, hlen]; exact Nat.le_refl _
  · show (((es.toList.map (WideElems.rg P k anyR)).foldr DataW.insert []).map fun p => intOf p.1).Perm _
    refine ((Go.WideShapes.sorted_perm _).map _).trans ?_
    rw [List.map_map]
    have : es.toList.map ((fun p => intOf p.1) ∘ WideElems.rg P k anyR) = m.map (·.1) := by
      have h5 : es.toList.map ((fun p => intOf p.1) ∘ WideElems.rg P k anyR) = (es.toList.map (·.key)).map (fun v => match v with | .int _ z => z | _ => 0) := by
        rw [List.map_map]
        refine List.map_congr_left fun x hx => ?_
        obtain ⟨z, hz, hw⟩ := hat x hx
        simp [WideElems.rg, rd_int hk hz hw, hz, intOf]
      rw [h5, hkeys, List.map_map]; rfl
    rw [this]
  · show ((es.toList.map (WideElems.rg P k anyR)).foldr DataW.insert []).length = _
    rw [length_sorted, List.length_map, hlen]
theorem slO_row {w0 : World} {e : TypeId} {v : Value} {L : List Int} {n : Nat} (hn : n = L.length) (hl : L.length ≤ 1000000) (h : w.ownsRow w0.heap.size e 1 v n (L.map encZ)) :
    ∃ (p : Option Addr × Nat) (S : Nat → Prop), v = .slice p.1 L.length p.2 ∧ (∀ b, S b → w0.heap.size ≤ b ∧ b < w.heap.size) ∧ SlO tInt S w p.1 p.2 L := by
  obtain ⟨_, ⟨rfl, h0⟩ | ⟨g, cap, cur, rfl, hb, hc, h1, h2, h3, h4⟩⟩ := h
  · exact ⟨(none, 0), fun _ => False, by rw [← hn, h0], fun b hb => hb.elim, by omega, by omega, rfl⟩
  · have hg : g < w.heap.size := by
      rcases Nat.lt_or_ge g w.heap.size with h | h
      · exact h
      · rw [Array.getElem?_eq_none h] at hc; cases hc
    refine ⟨(some ⟨g, 0, none⟩, cap), fun b => b = g, by rw [hn], fun b hb' => by subst hb'; exact ⟨hb, hg⟩, by omega, by omega, rfl, rfl, ⟨cur, e, hc, ?_⟩, ?_⟩
    · show 0 + cap * 1 ≤ cur.size
      omega
    · intro i hi j hj
      have hj0 : j = 0 := by have : j < 1 := hj; omega
      subst hj0
      have h5 := congrArg (·[i]?) h4
      simp only [Nat.mul_one, List.getElem?_take, List.getElem?_map] at h5
      rw [if_pos (by omega), List.getElem?_eq_getElem hi] at h5
      show w.cell? ⟨g, 0 + i * 1 + 0, none⟩ = _
      have h6 : cur[i]? = some (encZ L[i]) := by simpa using h5
      simp [World.cell?, hc, h6]
      rfl
theorem fnM_sorted {f g : FuncId} {kt U : TypeId} {Bm : Nat} (hk : P.underlying kt = some (.int .i64))
    (hcS : ∀ (w : World) (D : DataW Unit) (nn : Nat), Bm < w.heap.size → w.cell? ⟨Bm, 0, none⟩ = some (.map (some B)) → w.ownsMap P kt anyR B nn D → Maps.size D ≤ maxLen → Maps.size D * 8 ≤ 140737488355328 →
      Calls P f #[.func (.func g) #[] #[.pointer (some ⟨Bm, 0, none⟩)]] w fun e w' => ∃ (v : Value) (ss : List Int), e = .returned v ∧ ss.Perm (intKeys D) ∧ w'.ownsRow w.heap.size kt 1 v ss.length ((ss.mergeSort (fun x y => decide (x ≤ y))).map encZ) ∧ (v = .slice none 0 0 ↔ ss = []) ∧ Below w.heap.size w w')
    (hnd : (m.map (·.1)).Nodup) (hin : ∀ p ∈ m, (Lit.int .i64 p.1).wf = true) (hl : m.length ≤ 1000000) :
    FnM P f [.func (.func g) #[] #[.pointer (some ⟨Bm, 0, none⟩)]] (fun w => (box Bm [.map (some B)] U).A w ∧ MapIs kInt ve B m w) (Option Addr × Nat) (fun p => .slice p.1 (sortK m).length p.2) (fun p S w => SlO tInt S w p.1 p.2 (sortK m)) := by
  intro w ⟨hb, hm⟩
  obtain ⟨D, hD, hp, hs⟩ := ownsMap_of hk hm hnd hin hl
  have hlt : Bm < w.heap.size := by
    have hb' : w.heap[Bm]? = some (.cells [Value.map (some B)].toArray U (0, 0)) := hb
    rcases Nat.lt_or_ge Bm w.heap.size with h | h
    · exact h
    · rw [Array.getElem?_eq_none h] at hb'; cases hb'
  have hcell : w.cell? ⟨Bm, 0, none⟩ = some (.map (some B)) := by
    have hb' : w.heap[Bm]? = some (.cells [Value.map (some B)].toArray U (0, 0)) := hb
    simp [World.cell?, hb']
  refine (hcS w D _ hlt hcell hD (by rw [hs]; unfold maxLen; omega) (by rw [hs]; omega)).mono ?_
  rintro e w' ⟨v, ss, rfl, hss, hrow, _, hbelow⟩
  have hperm := hss.trans hp
  have e2 : ss.mergeSort (fun x y => decide (x ≤ y)) = sortK m := mergeSort_of_perm_i hperm
  rw [e2] at hrow
  have hlen : ss.length = (sortK m).length := by rw [sortK_len]; simpa using hperm.length_eq
  obtain ⟨p, S, h1, h2, h3⟩ := slO_row hlen (by rw [sortK_len]; exact hl) hrow
  exact ⟨p, S, by rw [h1], hbelow, h2, h3⟩
end
end Go.Sx
