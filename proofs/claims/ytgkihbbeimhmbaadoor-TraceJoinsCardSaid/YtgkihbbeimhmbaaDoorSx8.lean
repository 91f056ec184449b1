/- From the row's reading of the arguments to what the walks ask. -/
import Derived.Test.YtgkihbbeimhmbaaDoorSx7
import Derived.ProofKit
import Derived.OpenShut
import Derived.ShutString
import Derived.ChangeOld
import Derived.SizedLaws
namespace Go.Sx
open Go.RowKit Go.ChangeShapes Go.WideShapes Go.ChangeAt

/-- What the readings of an element type's cells are. -/
def ElTy {α : Type} (P : Program) (e : TypeId) (T : Ty α) (WF : α → Prop) : Prop :=
  P.cellsOf e = T.k ∧ 0 < T.k ∧ ∀ {H : Type} (enc : TypeId × Value → H) (w : World) (fuel : Nat) (cs : List Value) (x : DataW H × List MemPlace), DataW.trod enc P w 0 (fun _ => true) true fuel e cs = some x → ∃ z, cs = T.enc z ∧ WF z

theorem choose_list {α : Type} {Pz : Nat → α → Prop} : ∀ n, (∀ i, i < n → ∃ z, Pz i z) → ∃ L : List α, L.length = n ∧ ∀ i (h : i < L.length), Pz i L[i]
  | 0, _ => ⟨[], rfl, fun i h => by simp at h⟩
  | n + 1, h => by
    obtain ⟨L, hl, hL⟩ := choose_list n (fun i hi => h i (by omega))
    obtain ⟨z, hz⟩ := h n (by omega)
    refine ⟨L ++ [z], by simp [hl], fun i hi => ?_⟩
    simp only [List.length_append, List.length_cons, List.length_nil] at hi
    by_cases e : i < L.length
    · rw [List.getElem_append_left e]; exact hL i e
    · have : i = L.length := by omega
      subst this
      rw [List.getElem_append_right (by omega)]
      simpa [hl] using hz

section
variable {α H : Type} {P : Program} {enc : TypeId × Value → H} {w : World} {T : Ty α} {WF : α → Prop}

theorem add_add {x : Addr} (hx : x.spot = none) (m j : Nat) : (x.add m).add j = ⟨x.block, x.off + m + j, none⟩ := by
  obtain ⟨b, o, s⟩ := x
  simp only at hx
  subst hx
  unfold Addr.add
  split <;> split <;> simp_all

theorem open_rd_of {t e : TypeId} {a : Option Addr} {len cap fuel : Nat} {d : DataW H} {ps : List MemPlace} (hu : P.underlying t = some (.slice e)) (hT : ElTy P e T WF) (hby : 0 < P.bytesOf e) (hf : DataW.trod enc P w 0 (fun _ => true) true fuel t [.slice a len cap] = some (d, ps))
    (hsz : ∀ m ∈ d.weights P t, m ≤ reachBytes) : ∃ L : List α, len = L.length ∧ Rd T w a cap L ∧ ∀ z ∈ L, WF z := by
  obtain ⟨hc, hk, hdec⟩ := hT
  rcases DataW.trod_slice hu hf with ⟨h0, _⟩ | ⟨x, len', cap', elems, rest, n, _, hcs, hx, hb, hl, hm, hlen, hel, hsp, _⟩
  · simp only [List.cons.injEq, Value.slice.injEq, and_true] at h0
    obtain ⟨rfl, rfl, rfl⟩ := h0
    exact ⟨[], rfl, Rd.nil T w, by simp⟩
  · simp only [List.cons.injEq, Value.slice.injEq, and_true] at hcs
    obtain ⟨rfl, rfl, rfl⟩ := hcs
    simp only [Prod.mk.injEq] at hx
    obtain ⟨rfl, _⟩ := hx
    obtain ⟨hrl, hr⟩ := hsp rfl
    have hreach : (elems.length + rest.length) * P.bytesOf e ≤ reachBytes := hsz _ (by simp [DataW.weights, hu])
    have hbd : len ≤ 140737488355328 := by
      have h1 : (elems.length + rest.length) * 1 ≤ (elems.length + rest.length) * P.bytesOf e := Nat.mul_le_mul_left _ hby
      unfold reachBytes at hreach
      omega
    rw [hc] at hel hr
    -- each element up to the capacity
    have each : ∀ i, i < cap → ∃ z, (∀ j, j < T.k → w.cell? ((x.add (i * T.k)).add j) = (T.enc z)[j]?) ∧ WF z := fun i hi => by
      have hsome : ∃ y, (w.cells? 0 (x.add (i * T.k)) T.k).bind (DataW.trod enc P w 0 (fun _ => true) true n e) = some y := by
        by_cases h : i < len
        · refine ⟨elems[i], ?_⟩; rw [hel i h, List.getElem?_eq_getElem (by omega)]
        · refine ⟨rest[i - len]'(by omega), ?_⟩
          have := hr (i - len) (by omega)
          rw [show len + (i - len) = i by omega] at this
          rw [this, List.getElem?_eq_getElem (by omega)]
      obtain ⟨y, hy⟩ := hsome
      rw [Option.bind_eq_some_iff] at hy
      obtain ⟨cs, hcs, hy⟩ := hy
      obtain ⟨z, rfl, hz⟩ := hdec enc w n cs y hy
      obtain ⟨_, _, hcell⟩ := World.cells?_some hcs
      exact ⟨z, hcell, hz⟩
    obtain ⟨L, hL, hLP⟩ := choose_list (Pz := fun i z => (∀ j, j < T.k → w.cell? ((x.add (i * T.k)).add j) = (T.enc z)[j]?) ∧ WF z) len (fun i hi => each i (by omega))
    have hspot : 0 < cap → x.spot = none := fun h0 => by
      obtain ⟨z, hz, _⟩ := each 0 h0
      have h1 := hz 0 hk
      have e1 : (x.add (0 * T.k)).add 0 = x := by simp [Addr.add]
      have h2 : 0 < (T.enc z).length := by rw [T.len]; exact hk
      rw [e1, List.getElem?_eq_getElem h2] at h1
      unfold World.cell? at h1
      split at h1
      · split at h1
        · cases h1
        · rename_i hs; simpa using hs
      · cases h1
    refine ⟨L, hL.symm, ⟨by omega, by omega, fun h0 => ?_, fun i hi j hj => ?_⟩, fun z hz => ?_⟩
    · obtain ⟨z, hz, _⟩ := each (cap - 1) (by omega)
      have h1 := hz (T.k - 1) (by omega)
      rw [add_add (hspot h0), List.getElem?_eq_getElem (by rw [T.len]; omega)] at h1
      refine ⟨hspot h0, ?_, ?_⟩
      · have h5 := World.block_lt_of_cell? w _ h1; exact h5
      · unfold World.cell? at h1
        split at h1
        · rename_i c ty fz hh
          refine ⟨c, ty, fz, hh, ?_⟩
          simp only [Option.isSome_none, Bool.false_eq_true, if_false] at h1
          have h2 := (Array.getElem?_eq_some_iff.1 h1).1
          have h3 : cap * T.k = (cap - 1) * T.k + T.k := by rw [← Nat.succ_mul]; congr 1; omega
          omega
        · cases h1
    · have h1 := (hLP i hi).1 j hj
      rw [add_add (hspot (by omega))] at h1
      exact h1
    · obtain ⟨i, hi, rfl⟩ := List.getElem_of_mem hz
      exact (hLP i hi).2

theorem open_rd {t e : TypeId} {v : Value} {d : DataW H} {ps : List MemPlace} {base : Nat} {r : Reach} (hu : P.underlying t = some (.slice e)) (hT : ElTy P e T WF) (hby : 0 < P.bytesOf e) (hv : Value.okWide P w r base t v) (h : DataW.Trod enc P w 0 (fun _ => true) true t v d ps)
    (hsz : ∀ m ∈ d.weights P t, m ≤ reachBytes) : ∃ (a : Option Addr) (cap : Nat) (L : List α), v = .slice a L.length cap ∧ Rd T w a cap L ∧ ∀ z ∈ L, WF z := by
  obtain ⟨a, len, cap, rfl⟩ := okWide_slice hu hv
  obtain ⟨fuel, hf⟩ := h
  obtain ⟨L, rfl, h1, h2⟩ := open_rd_of hu hT hby (by simpa [Value.cells] using hf) hsz
  exact ⟨a, cap, L, rfl, h1, h2⟩

/-! ### Element types -/
def In64 (z : Int) : Prop := -9223372036854775808 ≤ z ∧ z ≤ 9223372036854775807
theorem in64_of {z : Int} (h : (Lit.int .i64 z).wf = true) : In64 z := by
  have h1 : IntKind.i64.min = -9223372036854775808 := rfl
  have h2 : IntKind.i64.max = 9223372036854775807 := rfl
  simp only [Lit.wf, Bool.and_eq_true, decide_eq_true_eq] at h
  unfold In64
  omega
theorem elTy_int {e : TypeId} (hu : P.underlying e = some (.int .i64)) (hc : P.cellsOf e = 1) : ElTy P e tInt In64 :=
  ⟨hc, by decide, fun _ _ _ _ _ h => by obtain ⟨z, rfl, _, hw⟩ := DataW.trod_int hu h; exact ⟨z, rfl, in64_of hw⟩⟩

/-! ### The arguments read afterwards as before -/
theorem trodAll_below {W W' : World} (hl : laidOutB P = true) (hb : Below W.heap.size W W') : ∀ {ts : List TypeId} {vs : List Value} {ds : List (DataW H)} {ps : List MemPlace}, (∀ t ∈ ts, P.readableRec t = true ∧ t < P.types.size) →
    DataW.TrodAll enc P W 0 (fun _ => true) true ts vs ds ps → DataW.TrodAll enc P W' 0 (fun b => decide (b < W.heap.size)) true ts vs ds ps
  | [], [], [], _, _, h => h
  | t :: ts, v :: vs, d :: ds, ps, ht, h => by
    obtain ⟨p, q, h1, h2, rfl⟩ := h
    refine ⟨p, q, ?_, trodAll_below hl hb (fun t ht' => ht t (by simp [ht'])) h2, rfl⟩
    obtain ⟨g1, g2⟩ := ht t (by simp)
    exact Below.trod hl g1 g2 h1 hb (by obtain ⟨m, hm⟩ := h1; exact DataW.trod_lt m _ _ _ hm)
  | [], [], _ :: _, _, _, h => h.elim
  | [], _ :: _, _, _, _, h => by cases ‹List (DataW H)› <;> exact h.elim
  | _ :: _, [], _, _, _, h => by cases ‹List (DataW H)› <;> exact h.elim
  | _ :: _, _ :: _, [], _, _, h => h.elim
end
end Go.Sx
