/- Slices: what is read, what is owned; index, load, len, literals, append. -/
import Derived.Test.YtgkihbbeimhmbaaDoorSx3
namespace Go.Sx
open Go.RowKit

/-- An element type: how a datum lies in cells. -/
structure Ty (α : Type) where
  k : Nat
  enc : α → List Value
  len : ∀ d, (enc d).length = k

def tInt : Ty Int := ⟨1, fun z => [.int .i64 z], fun _ => rfl⟩

section
variable {α : Type}

/-- The cells of a row that begins at (b, o) are those of L. -/
def RowAt (T : Ty α) (w : World) (b o : Nat) (L : List α) : Prop :=
  ∀ i (h : i < L.length), ∀ j, j < T.k → w.cell? ⟨b, o + i * T.k + j, none⟩ = (T.enc L[i])[j]?

/-- A slice at address a, of length L.length and capacity cap, reads as L; its block is one of S. -/
def SlR (T : Ty α) (S : Nat → Prop) (w : World) (a : Option Addr) (cap : Nat) (L : List α) : Prop :=
  L.length ≤ cap ∧ L.length ≤ 140737488355328 ∧
  match a with
  | none => cap = 0
  | some x => (0 < cap → x.spot = none ∧ S x.block ∧ (∃ c ty fz, w.heap[x.block]? = some (.cells c ty fz) ∧ x.off + cap * T.k ≤ c.size)) ∧ RowAt T w x.block x.off L

/-- The same, and the block may be written. -/
def SlO (T : Ty α) (S : Nat → Prop) (w : World) (a : Option Addr) (cap : Nat) (L : List α) : Prop :=
  L.length ≤ cap ∧ L.length ≤ 140737488355328 ∧
  match a with
  | none => cap = 0
  | some x => x.spot = none ∧ S x.block ∧ (∃ c ty, w.heap[x.block]? = some (.cells c ty (0, 0)) ∧ x.off + cap * T.k ≤ c.size) ∧ RowAt T w x.block x.off L

/-- What can be read, wherever it lies. -/
def Rd (T : Ty α) (w : World) (a : Option Addr) (cap : Nat) (L : List α) : Prop := SlR T (fun b => b < w.heap.size) w a cap L

def own (T : Ty α) (S : Nat → Prop) (a : Option Addr) (cap : Nat) (L : List α) : Ent := ⟨S, fun w => SlO T S w a cap L⟩

theorem cell_agree {w w' : World} {b o : Nat} (h : w'.heap[b]? = w.heap[b]?) : w'.cell? ⟨b, o, none⟩ = w.cell? ⟨b, o, none⟩ := by simp [World.cell?, h]

theorem SlO.toR {T : Ty α} {S : Nat → Prop} {w : World} {a : Option Addr} {cap : Nat} {L : List α} (h : SlO T S w a cap L) : SlR T S w a cap L := by
  obtain ⟨h1, h2, h3⟩ := h
  refine ⟨h1, h2, ?_⟩
  cases a with
  | none => exact h3
  | some x => obtain ⟨g1, g2, ⟨c, ty, g3, g4⟩, g5⟩ := h3; exact ⟨fun _ => ⟨g1, g2, ⟨c, ty, _, g3, g4⟩⟩, g5⟩

theorem SlR.agree {T : Ty α} {S : Nat → Prop} {w w' : World} {a : Option Addr} {cap : Nat} {L : List α} (ha : Agree S w w') (h : SlR T S w a cap L) : SlR T S w' a cap L := by
  obtain ⟨h1, h2, h3⟩ := h
  refine ⟨h1, h2, ?_⟩
  cases a with
  | none => exact h3
  | some x =>
    obtain ⟨g, g5⟩ := h3
    refine ⟨fun h0 => ?_, fun i hi j hj => ?_⟩
    · obtain ⟨g1, g2, ⟨c, ty, fz, g3, g4⟩⟩ := g h0
      exact ⟨g1, g2, ⟨c, ty, fz, (ha _ g2).trans g3, g4⟩⟩
    · obtain ⟨_, g2, _⟩ := g (by omega)
      exact (cell_agree (ha _ g2)).trans (g5 i hi j hj)

theorem SlO.agree {T : Ty α} {S : Nat → Prop} {w w' : World} {a : Option Addr} {cap : Nat} {L : List α} (ha : Agree S w w') (h : SlO T S w a cap L) : SlO T S w' a cap L := by
  obtain ⟨h1, h2, h3⟩ := h
  refine ⟨h1, h2, ?_⟩
  cases a with
  | none => exact h3
  | some x =>
    obtain ⟨g1, g2, ⟨c, ty, g3, g4⟩, g5⟩ := h3
    have hb := ha _ g2
    exact ⟨g1, g2, ⟨c, ty, hb.trans g3, g4⟩, fun i hi j hj => (cell_agree hb).trans (g5 i hi j hj)⟩

theorem SlR.mono {T : Ty α} {S S' : Nat → Prop} {w : World} {a : Option Addr} {cap : Nat} {L : List α} (hS : ∀ b, S b → S' b) (h : SlR T S w a cap L) : SlR T S' w a cap L := by
  obtain ⟨h1, h2, h3⟩ := h
  refine ⟨h1, h2, ?_⟩
  cases a with
  | none => exact h3
  | some x => obtain ⟨g, g3⟩ := h3; exact ⟨fun h0 => ⟨(g h0).1, hS _ (g h0).2.1, (g h0).2.2⟩, g3⟩

theorem SlO.mono {T : Ty α} {S S' : Nat → Prop} {w : World} {a : Option Addr} {cap : Nat} {L : List α} (hS : ∀ b, S b → S' b) (h : SlO T S w a cap L) : SlO T S' w a cap L := by
  obtain ⟨h1, h2, h3⟩ := h
  refine ⟨h1, h2, ?_⟩
  cases a with
  | none => exact h3
  | some x => obtain ⟨g1, g2, g3⟩ := h3; exact ⟨g1, hS _ g2, g3⟩

theorem SlR.nonnil {T : Ty α} {S : Nat → Prop} {w : World} {a : Option Addr} {cap : Nat} {L : List α} (h : SlR T S w a cap L) (hl : 0 < L.length) : ∃ x, a = some x ∧ x.spot = none := by
  obtain ⟨h1, h2, h3⟩ := h
  cases a with
  | none => simp at h3; omega
  | some x => exact ⟨x, rfl, (h3.1 (by omega)).1⟩

theorem SlO.nil (T : Ty α) (w : World) : SlO T (fun _ => False) w none 0 ([] : List α) := ⟨by simp, by simp, rfl⟩
theorem SlR.nil (T : Ty α) (S : Nat → Prop) (w : World) : SlR T S w none 0 ([] : List α) := ⟨by simp, by simp, rfl⟩
theorem Rd.nil (T : Ty α) (w : World) : Rd T w none 0 ([] : List α) := SlR.nil T _ w

theorem Rd.below {T : Ty α} {w w' : World} {a : Option Addr} {cap : Nat} {L : List α} (h : Rd T w a cap L) (hb : ∀ b, b < w.heap.size → w'.heap[b]? = w.heap[b]?) (hs : w.heap.size ≤ w'.heap.size) : Rd T w' a cap L :=
  (h.agree hb).mono fun b hb => Nat.lt_of_lt_of_le hb hs

section
variable {P : Program} {n : Nat} {w0 : World} {r : Option Nat} {ds : List Deferred} {Q : Exit → Act → World → Prop} {F F' : List (Nat × Value)} {H H' : List Ent} {ops : Array Oper}
variable {ty : TypeId} {pos : String} {after : Array Edge} {guard : Option (Nat × Bool)} {dst : Option Tmp} {rest : List Oper} {d : Nat} {x y : Operand}
variable {T : Ty α} {a : Option Addr} {cap : Nat} {L : List α} {S : Nat → Prop}

/-- Out of an owned entry; out of what was there at the beginning. -/
theorem rd_own {i : Nat} (hi : H[i]? = some (own T S a cap L)) : ∀ w, HeapIs w0 H w → Rd T w a cap L := fun _ hw =>
  (SlO.toR (hw.at hi).here).mono (hw.at hi).bound
theorem rd_base {i : Nat} (hi : H[i]? = some (base w0)) (h : Rd T w0 a cap L) : ∀ w, HeapIs w0 H w → Rd T w a cap L := fun _ hw =>
  h.below (hw.at hi).here hw.size
theorem rd_nil : ∀ w, HeapIs w0 H w → Rd T w none 0 ([] : List α) := fun w _ => Rd.nil T w
theorem rd_ent {i : Nat} {A : World → Prop} (hi : H[i]? = some ⟨S, A⟩) (h : ∀ w, A w → SlR T S w a cap L) : ∀ w, HeapIs w0 H w → Rd T w a cap L := fun w hw =>
  (h w (hw.at hi).here).mono (hw.at hi).bound

/-! ### Reading -/
def ea (a : Option Addr) (m : Nat) : Addr := (a.getD default).add m

theorem ea_some {x : Addr} (hs : x.spot = none) (m : Nat) : ea (some x) m = ⟨x.block, x.off + m, none⟩ := by
  obtain ⟨b, o, s⟩ := x
  simp only at hs
  subst hs
  simp only [ea, Option.getD_some, Addr.add]
  split
  · rename_i e; subst e; rfl
  · rfl

theorem p_len_slice {len : Nat} {t e : TypeId} {ats : Array TypeId} (hx : ev F x = some (.slice a len cap)) (ha' : ats[0]? = some t) (hu : P.underlying t = some (.slice e)) :
    Pure ds P n w0 ⟨dst, .call { callee := .builtin .len, args := #[x], argTypes := ats }, ty, pos, after, guard⟩ F H (.int .i64 (len : Int)) := fun b w hb _ => by
  simp [execOp, resolve, invoke, builtin, Builtin.len_, hb.eval hx, ha', run_underlying hu, goInt]

theorem p_len_string {s : ByteArray} {t : TypeId} {ats : Array TypeId} (hx : ev F x = some (.string s)) (ha' : ats[0]? = some t) (hu : P.underlying t = some .string) :
    Pure ds P n w0 ⟨dst, .call { callee := .builtin .len, args := #[x], argTypes := ats }, ty, pos, after, guard⟩ F H (.int .i64 (s.size : Int)) := fun b w hb _ => by
  simp [execOp, resolve, invoke, builtin, Builtin.len_, hb.eval hx, ha', run_underlying hu, goInt]

theorem run_sizeOf {t : TypeId} {m : Nat} (h : sizeIs P t = some m) (w : World) : (sizeOf t).run P w = .ok m w := by
  unfold sizeIs at h
  simp only [Option.map_eq_some_iff] at h
  obtain ⟨i, hi, h1⟩ := h
  simp [sizeOf, run_typeInfo hi, h1]

theorem p_indexAddr {t e : TypeId} {k : IntKind} {i : Int} (hx : ev F x = some (.slice a L.length cap)) (hy : ev F y = some (.int k i)) (hr : ∀ w, HeapIs w0 H w → Rd T w a cap L) (hu : P.underlying t = some (.slice e)) (hs : sizeIs P e = some T.k)
    (h0 : 0 ≤ i) (h1 : i < (L.length : Int)) : Pure ds P n w0 ⟨dst, .indexAddr t x y, ty, pos, after, guard⟩ F H (.pointer (some (ea a (i.toNat * T.k)))) := fun b w hb hw => by
  obtain ⟨z, rfl, hz⟩ := (hr w hw).nonnil (by omega)
  simp [execOp, hb.eval hx, hb.eval hy, Instr.indexAt, asIntOf, run_underlying hu, run_sizeOf hs, h0, h1, ea]

theorem Rd.cell {w : World} {i j : Nat} (h : Rd T w a cap L) (hi : i < L.length) (hj : j < T.k) : w.cell? (Addr.add (ea a (i * T.k)) j) = (T.enc L[i])[j]? := by
  obtain ⟨z, rfl, hz⟩ := SlR.nonnil h (by omega)
  rw [ea_some hz]
  have e : Addr.add ⟨z.block, z.off + i * T.k, none⟩ j = ⟨z.block, z.off + i * T.k + j, none⟩ := by unfold Addr.add; split <;> simp_all
  rw [e]
  exact h.2.2.2 i hi j hj

theorem p_loadE1 {t : TypeId} {i : Nat} {v : Value} (hx : ev F x = some (.pointer (some (ea a (i * T.k))))) (hr : ∀ w, HeapIs w0 H w → Rd T w a cap L) (hi : i < L.length) (ht : shp P t = some none) (hk : T.enc L[i] = [v]) :
    Pure ds P n w0 ⟨dst, .load t x, ty, pos, after, guard⟩ F H v := fun b w hb hw => by
  have h1 : T.k = 1 := by have := T.len L[i]; rw [hk] at this; simpa using this.symm
  have hc := (hr w hw).cell hi (j := 0) (by omega)
  rw [hk] at hc
  have hc' : w.cell? (ea a (i * T.k)) = some v := by simpa [Addr.add] using hc
  simp [execOp, hb.eval hx, Instr.loadAt, Instr.sureAddr, run_loadVar_one ht hc']

theorem p_loadEn {t : TypeId} {i : Nat} {vs : List Value} (hx : ev F x = some (.pointer (some (ea a (i * T.k))))) (hr : ∀ w, HeapIs w0 H w → Rd T w a cap L) (hi : i < L.length) (ht : shp P t = some (some T.k)) (hk : T.enc L[i] = vs) :
    Pure ds P n w0 ⟨dst, .load t x, ty, pos, after, guard⟩ F H (.agg vs.toArray) := fun b w hb hw => by
  subst hk
  have hc := fun j hj => (hr w hw).cell hi (j := j) hj
  simp [execOp, hb.eval hx, Instr.loadAt, Instr.sureAddr, run_loadVar_agg ht (T.len _) hc]

/-! ### A literal of values -/
theorem zipIdx_foldl_set (l : List Value) : ∀ (s off : Nat) (cells : Array Value), (l.zipIdx s).foldl (fun cs (p : Value × Nat) => cs.setIfInBounds (off + p.2) p.1) cells = ((l.zipIdx s).foldl (fun cs (p : Value × Nat) => cs.set (off + p.2) p.1) cells.toList).toArray := by
  induction l with
  | nil => intros; simp
  | cons c l ih => intro s off cells; simp only [List.zipIdx_cons, List.foldl_cons]; rw [ih]; simp

theorem foldl_set_mid (l : List Value) : ∀ (s off : Nat) (pre mid post : List Value), pre.length = off + s → mid.length = l.length → (l.zipIdx s).foldl (fun cs (p : Value × Nat) => cs.set (off + p.2) p.1) (pre ++ mid ++ post) = pre ++ l ++ post := by
  induction l with
  | nil => intro s off pre mid post _ hm; simp at hm; subst hm; simp
  | cons c l ih =>
    intro s off pre mid post hp hm
    match mid, hm with
    | m :: mid, hm =>
      simp only [List.zipIdx_cons, List.foldl_cons]
      have e : (pre ++ m :: mid ++ post).set (off + s) c = (pre ++ [c]) ++ mid ++ post := by
        rw [← hp]; simp
      rw [e, ih (s + 1) off (pre ++ [c]) mid post (by simp; omega) (by simpa using hm)]
      simp

theorem fill_row (size : Nat) : ∀ (vs : List Value) (m : Nat) (done : List Value) (tail : List Value), (∀ v ∈ vs, v.cells.size = size) → done.length = m * size → tail.length = vs.length * size →
    Instr.fill (fun i => some (i * size, size)) (done ++ tail).toArray ((List.range' m vs.length).zip vs) = some (done ++ vs.flatMap (·.cells.toList)).toArray
  | [], m, done, tail, _, _, ht => by
    have : tail = [] := List.length_eq_zero_iff.1 (by simpa using ht)
    subst this; simp [Instr.fill]
  | v :: vs, m, done, tail, hv, hd, ht => by
    have h1 := hv v (by simp)
    simp only [List.length_cons, List.range'_succ, List.zip_cons_cons, Instr.fill]
    have hlen : (done ++ tail).length = m * size + (vs.length + 1) * size := by rw [List.length_append, hd, ht, List.length_cons]
    have hle : m * size + v.cells.size ≤ (done ++ tail).length := by rw [hlen, h1, Nat.add_mul]; omega
    rw [if_neg (by simp [h1]; simp [h1] at hle; omega)]
    have htail : tail = tail.take size ++ tail.drop size := (List.take_append_drop _ _).symm
    have hts : (tail.take size).length = size := by rw [List.length_take, ht]; simp [Nat.add_mul]
    have key : v.cells.zipIdx.foldl (fun cs (p : Value × Nat) => cs.setIfInBounds (m * size + p.2) p.1) (done ++ tail).toArray = ((done ++ v.cells.toList) ++ tail.drop size).toArray := by
      rw [← Array.foldl_toList, Array.toList_zipIdx, zipIdx_foldl_set]
      rw [show (done ++ tail).toArray.toList = done ++ tail.take size ++ tail.drop size by simp [List.append_assoc]]
      rw [foldl_set_mid v.cells.toList 0 (m * size) done (tail.take size) (tail.drop size) (by simpa using hd) (by rw [hts]; simpa using h1.symm)]
    rw [key, fill_row size vs (m + 1) (done ++ v.cells.toList) (tail.drop size) (fun u hu => hv u (by simp [hu])) (by simp [hd, h1, Nat.add_mul]) (by rw [List.length_drop, ht]; simp [Nat.add_mul])]
    simp [List.append_assoc]

theorem flat_len {k : Nat} : ∀ (L : List α) (f : α → List Value), (∀ d, (f d).length = k) → (L.flatMap f).length = L.length * k
  | [], _, _ => by simp
  | x :: L, f, h => by simp [flat_len L f h, h x, Nat.add_mul]; omega

theorem flat_get {k : Nat} (f : α → List Value) (h : ∀ d, (f d).length = k) : ∀ (L : List α) (i j : Nat) (hi : i < L.length), j < k → (L.flatMap f)[i * k + j]? = (f L[i])[j]?
  | x :: L, 0, j, _, hj => by simp [List.getElem?_append, h x, hj]
  | x :: L, i + 1, j, hi, hj => by
    have := flat_get f h L i j (by simpa using hi) hj
    simp only [List.flatMap_cons, List.getElem_cons_succ]
    rw [List.getElem?_append_right (by rw [h x, Nat.add_mul]; omega), h x, ← this]
    congr 1
    rw [Nat.add_mul]; omega

theorem HeapIs.push {w : World} (h : HeapIs w0 H w) (o : Obj) {A : World → Prop} (hst : ∀ w1 w2, Agree (fun b => b = w.heap.size) w1 w2 → A w1 → A w2) (hA : A { w with heap := w.heap.push o }) : HeapIs w0 (⟨fun b => b = w.heap.size, A⟩ :: H) { w with heap := w.heap.push o } := by
  refine HeapIs.belowNew (w' := { w with heap := w.heap.push o }) h ⟨rfl, rfl, rfl, by simp, fun k hk => ?_⟩ (fun b hb => by subst hb; simp) hst hA
  show (w.heap.push _)[k]? = _
  rw [Array.getElem?_push, if_neg (by omega)]

/-- A slice over a block that is new. -/
theorem SlO.fresh {w : World} {B cp : Nat} {cs : List Value} {e : TypeId} (hw : w.heap[B]? = some (.cells cs.toArray e (0, 0))) (tail : List Value) (hcs : cs = L.flatMap T.enc ++ tail) (hc : L.length ≤ cp) (hcl : cp * T.k ≤ cs.length) (hl : L.length ≤ 140737488355328) :
    SlO T (fun b => b = B) w (some ⟨B, 0, none⟩) cp L := by
  refine ⟨hc, hl, rfl, rfl, ⟨_, _, hw, by simpa using hcl⟩, fun i hi j hj => ?_⟩
  have : w.cell? ⟨B, 0 + i * T.k + j, none⟩ = cs[i * T.k + j]? := by simp [World.cell?, hw]
  rw [this, hcs]
  have hfl := flat_len L T.enc T.len
  have hlt : i * T.k + j < (L.flatMap T.enc).length := by
    rw [hfl]
    calc i * T.k + j < i * T.k + T.k := by omega
      _ = (i + 1) * T.k := by rw [Nat.add_mul]; omega
      _ ≤ L.length * T.k := Nat.mul_le_mul_right _ hi
  rw [List.getElem?_append_left hlt, flat_get T.enc T.len L i j hi hj]

def parts : List (Nat × Operand) → Nat → Bool
  | [], _ => true
  | (i, _) :: l, m => Nat.beq i m && parts l (m + 1)

theorem parts_map (f : Operand → Value) : ∀ (l : List (Nat × Operand)) (m : Nat), parts l m = true → l.map (fun p => (p.1, f p.2)) = (List.range' m l.length).zip (l.map (f ∘ (·.2)))
  | [], _, _ => rfl
  | (i, x) :: l, m, h => by
    simp only [parts, Bool.and_eq_true] at h
    have e := Nat.eq_of_beq_eq_true h.1
    subst e
    simp only [List.length_cons, List.range'_succ, List.map_cons, List.zip_cons_cons, parts_map f l _ h.2]
    rfl

/-- '[]T{x0, x1, ..}' (also the one that append's further arguments make). -/
theorem o_buildSlice {t e : TypeId} {ps : List (Nat × Operand)} {m : Nat} {z : List Value} {vs : List Value} (hps : parts ps 0 = true) (hm : ps.length = m) (hv : evs F (ps.map (·.2)) = some vs) (hL : vs.map (·.cells.toList) = L.map T.enc)
    (hu : P.underlying t = some (.slice e)) (hs : sizeIs P e = some T.k) (hk : 0 < T.k) (hz : zeroOf P e = some z) (hzl : z.length = T.k) (hsmall : m * T.k ≤ 16777216) (hn : Nat.blt d n = true)
    (h : ∀ S a, SO r ds P n w0 ops Q rest ((d, .slice a L.length L.length) :: F) (own T S a L.length L :: H)) : SO r ds P n w0 ops Q (⟨some d, .buildSlice t m ps.toArray, ty, pos, after, none⟩ :: rest) F H := fun b w hb hw =>
  wpL_plain rfl (fun _ h => by cases h) fun K hK => by
    subst hm
    have hlen : vs.length = ps.length := by rw [← List.length_map (f := (·.2)) (as := ps), ← hb.evals hv]; simp
    have hLl : L.length = ps.length := by rw [← hlen, ← List.length_map (f := T.enc) (as := L), ← hL]; simp
    have hcells : ∀ v ∈ vs, v.cells.size = T.k := fun v hv' => by
      have : v.cells.toList ∈ vs.map (·.cells.toList) := List.mem_map_of_mem hv'
      rw [hL] at this
      obtain ⟨x, _, hx⟩ := List.mem_map.1 this
      have := T.len x
      rw [hx] at this
      simpa using this
    have hflat : vs.flatMap (·.cells.toList) = L.flatMap T.enc := by
      rw [List.flatMap_def, List.flatMap_def, hL]
    unfold zeroOf at hz
    simp only [Option.map_eq_some_iff, Option.bind_eq_some_iff] at hz
    obtain ⟨zv, ⟨i, hi, hzv⟩, rfl⟩ := hz
    have hfill := fill_row T.k vs 0 [] ((List.range (ps.length * T.k)).map fun q => zv.cells[q % zv.cells.size]!) hcells (by simp) (by simp [hlen])
    simp only [List.nil_append] at hfill
    have hparts : (ps.toArray.map fun (p : Nat × Operand) => (p.1, b.eval p.2)).toList = (List.range' 0 vs.length).zip vs := by
      have e2 := hb.evals hv
      have e3 := parts_map b.eval ps 0 hps
      rw [List.map_map] at e2
      simp only [List.map_toArray]
      rw [hlen, e3]
      exact congrArg _ e2
    have hrun : (execOp b.eval ⟨some d, .buildSlice t ps.length ps.toArray, ty, pos, after, none⟩).run P w = .ok (.value (.slice (some ⟨w.heap.size, 0, none⟩) ps.length ps.length)) { w with heap := w.heap.push (.cells (L.flatMap T.enc).toArray e) } := by
      have hfill' : Instr.fill (fun i => some (i * T.k, T.k)) ((Array.range (ps.length * T.k)).map (fun q => zv.cells[q % zv.cells.size]!)) ((List.range' 0 vs.length).zip vs) = some (L.flatMap T.enc).toArray := by
        rw [← hflat, ← hfill]
        congr 1
        apply Array.ext'
        simp
      have hzv' : (zeroValue e).run P w = .ok zv w := by simp [zeroValue, run_typeInfo hi, hzv]
      have hb2 : (Instr.buildSlice t ps.length (ps.toArray.map fun (p : Nat × Operand) => (p.1, b.eval p.2))).run P w = .ok (.slice (some ⟨w.heap.size, 0, none⟩) ps.length ps.length) { w with heap := w.heap.push (.cells (L.flatMap T.enc).toArray e) } := by
        unfold Instr.buildSlice
        by_cases h0 : ps.length = 0
        · have hp0 : ps = [] := List.length_eq_zero_iff.1 h0
          have hv0 : vs = [] := List.length_eq_zero_iff.1 (by rw [hlen, h0])
          have hL0 : L = [] := List.length_eq_zero_iff.1 (by rw [hLl, h0])
          subst hp0; subst hv0; subst hL0
          have hz0 : ([] : List (Nat × Operand)).length * T.k = 0 := by simp
          simp only [run_bind, run_underlying hu, run_sizeOf hs, hz0, if_neg (show ¬ 0 > 2 ^ 24 by simp), if_true, run_pure]
          simp [Instr.fill, newRow, newObj, Sem.run]
          rw [show (Array.map (fun _ => (default : Value)) (Array.range 0)) = #[] from Array.ext' (by simp)]
        · have hne : ps.length * T.k ≠ 0 := by
            intro h; rcases Nat.mul_eq_zero.1 h with h | h <;> omega
          simp only [run_bind, run_underlying hu, run_sizeOf hs, if_neg (show ¬ ps.length * T.k > 2 ^ 24 by simp; omega), if_neg hne, hzv', run_pure, hparts, hfill', newRow, newObj, Sem.run]
      simp only [execOp, run_bind, run_pure] at hb2 ⊢
      rw [hb2]
    unfold Oper.wp
    rw [hrun]
    refine hK _ _ ?_
    rw [← hLl]
    refine h (fun c => c = w.heap.size) (some ⟨w.heap.size, 0, none⟩) _ _ (hb.put hn _) (hw.push _ (fun w1 w2 ha hA => SlO.agree ha hA) ?_)
    refine SlO.fresh (e := e) (cs := L.flatMap T.enc) ?_ [] (by simp) (Nat.le_refl _) (by rw [flat_len L T.enc T.len]; exact Nat.le_refl _) ?_
    · simp
    · rw [hLl]
      have := Nat.le_mul_of_pos_right ps.length hk
      omega

/-! ### append -/
theorem run_storeCells {b o : Nat} : ∀ (vs : List Value) (i : Nat) (w : World) (c : Array Value) (e : TypeId), w.heap[b]? = some (.cells c e (0, 0)) → (∀ v ∈ vs, one1 v = true) → o + i + vs.length ≤ c.size →
    ∃ w' c', (storeCells ⟨b, o, none⟩ vs i).run P w = .ok () w' ∧ w'.heap[b]? = some (.cells c' e (0, 0)) ∧ c'.size = c.size ∧ (∀ j, c'[j]? = if o + i ≤ j ∧ j < o + i + vs.length then vs[j - (o + i)]? else c[j]?) ∧ Same w w' ∧ w'.heap.size = w.heap.size ∧ ∀ k, k ≠ b → w'.heap[k]? = w.heap[k]?
  | [], i, w, c, e, hw, _, _ => ⟨w, c, rfl, hw, rfl, fun j => by simp; intro h1 h2; omega, ⟨rfl, rfl, rfl⟩, rfl, fun _ _ => rfl⟩
  | v :: vs, i, w, c, e, hw, hv, hl => by
    have had : Addr.add ⟨b, o, none⟩ i = ⟨b, o + i, none⟩ := by unfold Addr.add; split <;> simp_all
    simp only [List.length_cons] at hl
    have hlt : o + i < c.size := by omega
    have hc : w.cell? ⟨b, o + i, none⟩ = some c[o + i] := by simp [World.cell?, hw, hlt]
    have hf : w.frozen? ⟨b, o + i, none⟩ = false := by simp [World.frozen?, hw]
    have hw1 : (w.setCell ⟨b, o + i, none⟩ v).heap[b]? = some (.cells (c.setIfInBounds (o + i) v) e (0, 0)) := by simp [World.setCell, Array.getElem?_modify, hw]
    obtain ⟨w', c', h1, h2, h3, h4, h5, h6, h7⟩ := run_storeCells (b := b) (o := o) vs (i + 1) (w.setCell ⟨b, o + i, none⟩ v) (c.setIfInBounds (o + i) v) e hw1 (fun u hu => hv u (by simp [hu])) (by simp; omega)
    refine ⟨w', c', ?_, h2, by rw [h3]; simp, fun j => ?_, ⟨h5.os, h5.tape, h5.output⟩, by rw [h6]; simp [World.setCell], fun k hk => ?_⟩
    · unfold storeCells; rw [run_bind, had, run_store (hv v (by simp)) hc hf]; exact h1
    · rw [h4 j, List.length_cons]
      by_cases e2 : j = o + i
      · subst e2
        rw [if_neg (show ¬ (o + (i + 1) ≤ o + i ∧ o + i < o + (i + 1) + vs.length) by omega), if_pos (show o + i ≤ o + i ∧ o + i < o + i + (vs.length + 1) by omega)]
        simp [hlt]
      · by_cases e1 : o + (i + 1) ≤ j ∧ j < o + (i + 1) + vs.length
        · rw [if_pos e1, if_pos (show o + i ≤ j ∧ j < o + i + (vs.length + 1) by omega), show j - (o + i) = (j - (o + (i + 1))) + 1 by omega]; simp
        · rw [if_neg e1, if_neg (show ¬ (o + i ≤ j ∧ j < o + i + (vs.length + 1)) by omega), Array.getElem?_setIfInBounds_ne (by omega)]
    · rw [h7 k hk]; exact Below.heap_setCell _ _ _ _ hk

theorem run_firstCells {w : World} (h : Rd T w a cap L) : (Builtin.firstCells T.k L.length (.slice a L.length cap)).run P w = .ok (L.flatMap T.enc).toArray w := by
  cases a with
  | none =>
    have := h.2.2
    have h1 := h.1
    simp only at this
    have hL : L = [] := List.length_eq_zero_iff.1 (by omega)
    subst hL; simp [Builtin.firstCells]
  | some x =>
    obtain ⟨hlc, _, hg, hrow⟩ := h
    by_cases h00 : L.length = 0
    · have hL : L = [] := List.length_eq_zero_iff.1 h00
      subst hL
      simp [Builtin.firstCells, loadCells, loadCellsFrom]
    have hs := (hg (by omega)).1
    obtain ⟨bb, o, s⟩ := x
    simp only at hs hrow
    subst hs
    have := run_loadCellsFrom (P := P) (w := w) (a := ⟨bb, o, none⟩) (L.length * T.k) 0 #[] (L.flatMap T.enc) (flat_len L T.enc T.len) (fun q hq => by
      have hk : 0 < T.k := by rcases Nat.eq_zero_or_pos T.k with h0 | h0; · rw [h0] at hq; simp at hq
                              · exact h0
      have hd := Nat.div_add_mod q T.k
      have hm := Nat.mod_lt q hk
      have hi : q / T.k < L.length := by rw [Nat.div_lt_iff_lt_mul hk]; exact hq
      have had : Addr.add ⟨bb, o, none⟩ (0 + q) = ⟨bb, o + q, none⟩ := by unfold Addr.add; split <;> simp_all
      have e1 : q = q / T.k * T.k + q % T.k := by rw [Nat.mul_comm]; omega
      rw [had]
      have h1 := hrow (q / T.k) hi (q % T.k) hm
      have h2 := flat_get T.enc T.len L (q / T.k) (q % T.k) hi hm
      rw [← e1] at h2
      rw [h2, ← h1]
      congr 2
      omega)
    simp only [Builtin.firstCells, loadCells]
    rw [this]
    simp

theorem nextcap_le {need old : Nat} (h : old < need) : Builtin.nextslicecap need old ≤ need + need / 4 + 1200 := by
  unfold Builtin.nextslicecap
  split
  · omega
  · split
    · omega
    · have g : ∀ (r c : Nat), c < need → Builtin.growBy need r c ≤ need + need / 4 + 200 := by
        intro r
        induction r with
        | zero => intro c hc; simp [Builtin.growBy]; omega
        | succ r ih =>
          intro c hc
          simp only [Builtin.growBy]
          split
          · omega
          · rcases Nat.lt_or_ge (c + (c + 768) / 4) need with h1 | h1
            · exact ih _ h1
            · cases r with
              | zero => simp only [Builtin.growBy]; omega
              | succ r => simp only [Builtin.growBy]; rw [if_pos h1]; omega
      have := g 4 old h
      omega

/-- What is asked of an element type: cells, bytes, its zero value's cells. -/
def elemIs (P : Program) (e : TypeId) (k bytes : Nat) : Prop := ∃ i z, P.info? e = some i ∧ i.zero = some z ∧ i.size = k ∧ i.bytes = bytes ∧ z.cells.size = k

def elemQ (P : Program) (e : TypeId) : Option (Nat × Nat × Nat) := (P.info? e).bind fun i => i.zero.map fun z => (i.size, i.bytes, z.cells.size)
theorem elemIs_of {e : TypeId} {k b : Nat} (h : elemQ P e = some (k, b, k)) : elemIs P e k b := by
  unfold elemQ at h
  simp only [Option.bind_eq_some_iff, Option.map_eq_some_iff, Prod.mk.injEq] at h
  obtain ⟨i, hi, z, hz, h1, h2, h3⟩ := h
  exact ⟨i, z, hi, hz, h1, h2, h3⟩

theorem run_append {t tx e : TypeId} {d' : TypeDesc} {bytes : Nat} {w : World} {b : Option Addr} {cb : Nat} {M : List α} (hu : P.underlying t = some (.slice e)) (hux : P.underlying tx = some d') (hd : ∀ k, d' ≠ .int k) (he : elemIs P e T.k bytes) (hone : ∀ v ∈ M.flatMap T.enc, one1 v = true)
    (h : SlO T S w a cap L) (hS : ∀ c, S c → c < w.heap.size) (hM : Rd T w b cb M) (hk : 0 < T.k) (hsmall0 : L.length + M.length ≤ 140737488355328 ∧ (L.length + M.length + (L.length + M.length) / 4 + 1200) * (bytes + 1) ≤ 281474976710656) (type : TypeId) :
    ∃ w' a' cap' S', (Builtin.append_ #[t, tx] type #[.slice a L.length cap, .slice b M.length cb]).run P w = .ok (.slice a' (L ++ M).length cap') w' ∧ Same w w' ∧ w.heap.size ≤ w'.heap.size ∧
      (∀ c, S' c → S c ∨ (w.heap.size ≤ c ∧ c < w'.heap.size)) ∧ (∀ c, c < w.heap.size → ¬ S c → w'.heap[c]? = w.heap[c]?) ∧ SlO T S' w' a' cap' (L ++ M) := by
  obtain ⟨hsmall1, hsmall⟩ := hsmall0
  obtain ⟨i, z, hi, hz, hsz, hby, hzc⟩ := he
  have hsize : sizeIs P e = some T.k := by simp [sizeIs, hi, hsz]
  have hzeros : (match d' with | .int _ => true | _ => false) = false := by cases d' <;> first | rfl | exact absurd rfl (hd _)
  have hnew := fun (w1 : World) (h1 : Rd T w1 b cb M) => run_firstCells (P := P) h1
  have hmz : ∀ w1, (match d' with | .int _ => (pure true : Sem Bool) | _ => pure false).run P w1 = .ok false w1 := by intro w1; cases d' <;> first | rfl | exact absurd rfl (hd _)
  by_cases hroom : L.length + M.length ≤ cap
  · -- in place
    cases a with
    | none =>
      have hc0 : cap = 0 := h.2.2
      have hL : L = [] := List.length_eq_zero_iff.1 (by omega)
      have hM0 : M = [] := List.length_eq_zero_iff.1 (by omega)
      subst hL; subst hM0; subst hc0
      refine ⟨w, none, 0, S, ?_, ⟨rfl, rfl, rfl⟩, Nat.le_refl _, fun c hc => .inl hc, fun _ _ _ => rfl, by simpa using h⟩
      have h1 := hnew w hM
      simp at h1
      simp [Builtin.append_, run_underlying hu, run_underlying hux, run_sizeOf hsize, Builtin.lenOf, h1]
    | some x =>
      obtain ⟨g0, g1, gs, gS, ⟨c, ty', gc, gl⟩, grow⟩ := h
      obtain ⟨bb, o, s⟩ := x
      simp only at gs gS gc gl grow
      subst gs
      have gl' : o + cap * T.k ≤ c.size := gl
      have hfl := flat_len M T.enc T.len
      have had : Addr.add ⟨bb, o, none⟩ (L.length * T.k) = ⟨bb, o + L.length * T.k, none⟩ := by unfold Addr.add; split <;> simp_all
      have hle : (L.length + M.length) * T.k ≤ cap * T.k := Nat.mul_le_mul_right _ hroom
      rw [Nat.add_mul] at hle
      obtain ⟨w', c', h1, h2, h3, h4, h5, h6, h7⟩ := run_storeCells (P := P) (b := bb) (o := o + L.length * T.k) (M.flatMap T.enc) 0 w c ty' gc hone (by rw [hfl]; omega)
      refine ⟨w', some ⟨bb, o, none⟩, cap, S, ?_, h5, by omega, fun c hc => .inl hc, fun k _ hk => h7 k (fun e => hk (e ▸ gS)), ?_⟩
      · have hn := hnew w hM
        simp [Builtin.append_, run_underlying hu, run_underlying hux, run_sizeOf hsize, Builtin.lenOf, hn, hroom, had, h1]
      · have hb2 : (L.length + M.length + (L.length + M.length) / 4 + 1200) * 1 ≤ (L.length + M.length + (L.length + M.length) / 4 + 1200) * (bytes + 1) := Nat.mul_le_mul_left _ (by omega)
        refine ⟨by simpa using hroom, by simp; omega, rfl, gS, ⟨c', ty', h2, by show o + cap * T.k ≤ c'.size; omega⟩, fun i hi j hj => ?_⟩
        have hcell : w'.cell? ⟨bb, o + i * T.k + j, none⟩ = c'[o + i * T.k + j]? := by simp [World.cell?, h2]
        rw [hcell, h4]
        simp only [Nat.add_zero, hfl]
        by_cases hiL : i < L.length
        · have : i * T.k + j < L.length * T.k := by
            calc i * T.k + j < i * T.k + T.k := by omega
              _ = (i + 1) * T.k := by rw [Nat.add_mul]; omega
              _ ≤ L.length * T.k := Nat.mul_le_mul_right _ hiL
          rw [if_neg (by omega), List.getElem_append_left hiL]
          have := grow i hiL j hj
          simpa [World.cell?, gc] using this
        · simp only [List.length_append] at hi
          have hiM : i - L.length < M.length := by omega
          have e1 : i * T.k = L.length * T.k + (i - L.length) * T.k := by rw [← Nat.add_mul]; congr 1; omega
          have e2 : (i - L.length) * T.k + j < M.length * T.k := by
            calc (i - L.length) * T.k + j < (i - L.length) * T.k + T.k := by omega
              _ = (i - L.length + 1) * T.k := by rw [Nat.add_mul]; omega
              _ ≤ M.length * T.k := Nat.mul_le_mul_right _ hiM
          rw [if_pos (by omega), List.getElem_append_right (by omega), show o + i * T.k + j - (o + L.length * T.k) = (i - L.length) * T.k + j by omega]
          exact flat_get T.enc T.len M (i - L.length) j hiM hj
  · -- a new row
    have hlt : cap < L.length + M.length := by omega
    have hcap := nextcap_le hlt
    have hbig : ¬ (Builtin.nextslicecap (L.length + M.length) cap * i.bytes > 2 ^ 48) := by
      rw [hby]
      have h1 : Builtin.nextslicecap (L.length + M.length) cap * bytes ≤ (L.length + M.length + (L.length + M.length) / 4 + 1200) * (bytes + 1) := Nat.mul_le_mul hcap (by omega)
      have : (2 : Nat) ^ 48 = 281474976710656 := by decide
      omega
    have hb2 : (L.length + M.length + (L.length + M.length) / 4 + 1200) * 1 ≤ (L.length + M.length + (L.length + M.length) / 4 + 1200) * (bytes + 1) := Nat.mul_le_mul_left _ (by omega)
    let q : Question := .appendCap (L.length + M.length) cap e
    let nc := q.cut (w.tape w.drawn q)
    have hnc : L.length + M.length ≤ nc := by show _ ≤ _ + _; omega
    have hRL : Rd T w a cap L := (SlO.toR h).mono hS
    let w1 : World := { w with drawn := w.drawn + 1 }
    have f1 : (Builtin.firstCells T.k L.length (.slice a L.length cap)).run P w1 = .ok (L.flatMap T.enc).toArray w1 := run_firstCells (P := P) (SlR.agree (fun _ _ => rfl) hRL)
    have f2 : (Builtin.firstCells T.k M.length (.slice b M.length cb)).run P w1 = .ok (M.flatMap T.enc).toArray w1 := run_firstCells (P := P) (SlR.agree (fun _ _ => rfl) hM)
    let cells := (L.flatMap T.enc).toArray ++ (M.flatMap T.enc).toArray ++ Builtin.zeroCells z.cells (nc - (L.length + M.length))
    have hroomq : ∀ (m : Nat) (w2 : World), (askRoom m).run P w2 = .ok () w2 := by intro m w2; unfold askRoom; split <;> rfl
    have hzv : (zeroValue e).run P w1 = .ok z w1 := by simp [zeroValue, run_typeInfo hi, hz]
    refine ⟨{ w1 with heap := w1.heap.push (.cells cells e) }, some ⟨w.heap.size, 0, none⟩, nc, fun c => c = w.heap.size, ?_, ⟨rfl, rfl, rfl⟩, by simp [w1], fun c hc => .inr (by subst hc; simp [w1]), fun k hk _ => ?_, ?_⟩
    · have hch : (choose (.appendCap (L.length + M.length) cap e)).run P w = .ok nc w1 := rfl
      have hnr : ¬ (L.length + M.length ≤ cap) := hroom
      have h63 : ¬ (((L.length + M.length : Nat) : Int) > IntKind.i64.max ∧ (false = true ∨ i.bytes = 0)) := by
        rintro ⟨h1, _⟩
        have : IntKind.i64.max = 9223372036854775807 := rfl
        omega
      unfold Builtin.append_
      simp only [List.getElem?_toArray, List.getElem?_cons_zero, List.getElem?_cons_succ, run_bind, run_underlying hu, run_underlying hux, run_sizeOf hsize, run_pure, Builtin.lenOf]
      have hni : ∀ (X Y : Sem Value), (match d' with | .int _ => X | _ => Y) = Y := by intro X Y; cases d' <;> first | rfl | exact absurd rfl (hd _)
      simp only [Bool.false_eq_true, if_false, run_bind, run_pure, if_neg hnr, run_typeInfo hi, false_or, Bool.not_false, if_true]
      rw [if_neg (by rintro ⟨h1, _⟩; have : IntKind.i64.max = 9223372036854775807 := rfl; omega)]
      simp only [run_bind, run_typeInfo hi, if_neg hbig, run_pure]
      simp only [run_bind, run_pure, hch, hroomq, f1, f2, hzv, newRow, newObj, Sem.run]
      rw [List.length_append]
    · show (w.heap.push _)[k]? = _
      rw [Array.getElem?_push, if_neg (by omega)]
    · refine SlO.fresh (e := e) (cs := cells.toList) (by simp [w1]) (Builtin.zeroCells z.cells (nc - (L.length + M.length))).toList ?_ (by simpa using hnc) ?_ (by simp; omega)
      · simp [cells]
      · simp only [cells, Array.toList_append, List.length_append, Array.length_toList, flat_len L T.enc T.len, flat_len M T.enc T.len, Builtin.zeroCells, Array.size_map, Array.size_range, hzc]
        rw [← Nat.add_mul, ← Nat.add_mul]
        exact Nat.mul_le_mul_right _ (by omega)
end
end
end Go.Sx
