/- Slices of slices, as they come in. -/
import Derived.Test.YtnmbkopnopaigaaSx31
import Derived.Test.YtnmbkopnopaigaaSx15
namespace Go.Sx
open Go.RowKit Go.ChangeShapes Go.WideShapes Go.ChangeAt
section
variable {α H : Type} {P : Program} {enc : TypeId × Value → H} {w : World} {T : Ty α} {WF : α → Prop}
theorem elTy_hd {e e2 : TypeId} (hu : P.underlying e = some (.slice e2)) (hc : P.cellsOf e = 1) : ElTy P e tHdE (fun _ => True) :=
  ⟨hc, by decide, fun _ _ _ _ _ h => by
    rcases DataW.trod_slice hu h with ⟨h0, _⟩ | ⟨x, len', cap', elems, rest, n, _, hcs, _⟩
    · exact ⟨⟨none, 0, 0⟩, h0, trivial⟩
    · exact ⟨⟨some x, len', cap'⟩, hcs, trivial⟩⟩
theorem weights_all {e : TypeId} {ds : List (DataW H)} {d : DataW H} (h : d ∈ ds) : ∀ m ∈ d.weights P e, m ∈ DataW.weightsAll P e ds := by
  induction ds with
  | nil => cases h
  | cons b ds ih =>
    intro m hm
    rw [DataW.weightsAll]
    rcases List.mem_cons.1 h with rfl | h
    · exact List.mem_append_left _ hm
    · exact List.mem_append_right _ (ih h m hm)
theorem open_rdN_cs {t e e2 : TypeId} {fuel : Nat} {cs : List Value} {d : DataW H} {ps : List MemPlace} (hu : P.underlying t = some (.slice e)) (hu2 : P.underlying e = some (.slice e2)) (hc : P.cellsOf e = 1) (hT : ElTy P e2 T WF) (hby : 0 < P.bytesOf e) (hby2 : 0 < P.bytesOf e2) (hf : DataW.trod enc P w 0 (fun _ => true) true fuel t cs = some (d, ps))
    (hsz : ∀ m ∈ d.weights P t, m ≤ reachBytes) : ∃ (a : Option Addr) (c : NC) (LL : List (List α)), cs = [.slice a LL.length c.n] ∧ RdN T w a c LL ∧ ∀ L ∈ LL, ∀ z ∈ L, WF z := by
  obtain ⟨a, cap, hs, rfl, hrd, _⟩ := open_rd_cs hu (elTy_hd hu2 hc) hby hf hsz
  have each : ∀ i, i < hs.length → ∃ L : List α, (hs.getD i default).len = L.length ∧ Rd T w (hs.getD i default).a (hs.getD i default).cap L ∧ ∀ z ∈ L, WF z := fun i hi => by
    rcases DataW.trod_slice hu hf with ⟨h0, _⟩ | ⟨x, len', cap', elems, rest, n, _, hcs, hx, hb, hl, hm, hlen, hel, hsp, _⟩
    · simp only [List.cons.injEq, Value.slice.injEq, and_true] at h0
      omega
    · simp only [List.cons.injEq, Value.slice.injEq, and_true] at hcs
      obtain ⟨rfl, rfl, rfl⟩ := hcs
      simp only [Prod.mk.injEq] at hx
      obtain ⟨rfl, _⟩ := hx
      have h1 := hel i hi
      rw [List.getElem?_eq_getElem (show i < elems.length by omega), hc, Option.bind_eq_some_iff] at h1
      obtain ⟨cs, hcs, h2⟩ := h1
      obtain ⟨_, hcl, hcell⟩ := World.cells?_some hcs
      obtain ⟨z, hz⟩ : ∃ z : HdE, cs = [.slice z.a z.len z.cap] := by
        obtain ⟨z, hz, _⟩ := (elTy_hd (P := P) hu2 hc).2.2 enc w n cs _ h2
        exact ⟨z, hz⟩
      have hg := hrd.2.2
      have hspot := (hg.1 (by omega)).1
      have hrow := hg.2 i hi 0 (by decide)
      have h3 := hcell 0 (by simp)
      rw [hz] at h3
      have ha : (x.add (i * 1)).add 0 = ⟨x.block, x.off + i * tHdE.k + 0, none⟩ := by rw [add_add hspot]; rfl
      rw [ha, hrow] at h3
      have hzz : hs[i] = z := by
        have h4 : ([.slice hs[i].a hs[i].len hs[i].cap] : List Value)[0]? = ([.slice z.a z.len z.cap] : List Value)[0]? := h3
        simp only [List.getElem?_cons_zero, Option.some.injEq, Value.slice.injEq] at h4
        obtain ⟨q1, q2, q3⟩ := h4
        cases hh : hs[i]; cases z; simp only [hh] at q1 q2 q3; subst q1; subst q2; subst q3; rfl
      have hgd : hs.getD i default = z := by rw [List.getD_eq_getElem?_getD, List.getElem?_eq_getElem hi, Option.getD_some, hzz]
      rw [hz] at h2
      obtain ⟨L, e1, r1, w1⟩ := open_rd_of (T := T) (WF := WF) hu2 hT hby2 h2 (fun m hm => hsz m (by
        simp only [DataW.weights, hu]
        exact List.mem_cons_of_mem _ (List.mem_append_left _ (weights_all (List.mem_map.2 ⟨elems[i], List.getElem_mem _, rfl⟩) m hm))))
      rw [hgd]
      exact ⟨L, e1, r1, w1⟩
  obtain ⟨LL, hl, hLL⟩ := choose_list (Pz := fun i L => (hs.getD i default).len = L.length ∧ Rd T w (hs.getD i default).a (hs.getD i default).cap L ∧ ∀ z ∈ L, WF z) hs.length each
  have hgd : ∀ i (hi : i < LL.length), LL.getD i [] = LL[i] := fun i hi => by rw [List.getD_eq_getElem?_getD, List.getElem?_eq_getElem hi]; rfl
  refine ⟨a, ⟨cap, fun i => (hs.getD i default).a, fun i => (hs.getD i default).cap⟩, LL, by rw [hl], ?_, fun L hL => ?_⟩
  · have e : hs = hds ⟨cap, fun i => (hs.getD i default).a, fun i => (hs.getD i default).cap⟩ LL := by
      refine hds_ext hl.symm fun i hi => ?_
      have h1 := (hLL i (by omega)).1
      have hgi : hs.getD i default = hs[i] := by rw [List.getD_eq_getElem?_getD, List.getElem?_eq_getElem hi]; rfl
      rw [hgd i (by omega), ← h1]
      show hs[i] = ⟨(hs.getD i default).a, (hs.getD i default).len, (hs.getD i default).cap⟩
      rw [hgi]
    have h2 := hrd
    rw [e] at h2
    refine ⟨by have := hrd.1; show LL.length ≤ cap; omega, by have := hrd.2.1; omega, h2, fun i hi => ?_⟩
    rw [hgd i hi]
    exact (hLL i hi).2.1
  · obtain ⟨i, hi, rfl⟩ := List.getElem_of_mem hL
    exact (hLL i hi).2.2
end
end Go.Sx
