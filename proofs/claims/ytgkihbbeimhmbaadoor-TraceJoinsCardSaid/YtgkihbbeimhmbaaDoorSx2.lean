/- Boxes (a block of cells of the call's own), arithmetic, fields, loads and stores. -/
import Derived.Test.YtgkihbbeimhmbaaDoorSx1
namespace Go.Sx
open Go.RowKit

/-! ### What is asked of the program's types -/
def zeroOf (P : Program) (t : TypeId) : Option (List Value) := ((P.info? t).bind (·.zero)).map (·.cells.toList)
def sizeIs (P : Program) (t : TypeId) : Option Nat := (P.info? t).map (·.size)
def one1 : Value → Bool
  | .agg _ | .tuple _ => false
  | _ => true
/-- 'some none': a value of one cell that is no aggregate; 'some (some n)': an aggregate of n cells. -/
def shp (P : Program) (t : TypeId) : Option (Option Nat) :=
  match P.underlying t, P.info? t with
  | some (.struct _), some i => some (some i.size)
  | some (.array _ _), some i => some (some i.size)
  | some _, some _ => some none
  | _, _ => none
def fieldOff (P : Program) (s : TypeId) (f : Nat) : Option Nat :=
  match P.underlying s with
  | some (.struct fs) => match fs[f]? with
    | some g => match P.info? g.type with
      | some i => if i.size = 0 then none else some g.offset
      | none => none
    | none => none
  | _ => none

section
variable {P : Program}

theorem run_underlying {t : TypeId} {d : TypeDesc} (h : P.underlying t = some d) (w : World) : (Go.underlying t).run P w = .ok d w := by
  simp [Go.underlying, program, Bind.bind, Sem.bind, Sem.run, h, Pure.pure]

theorem run_typeInfo {t : TypeId} {i : TypeInfo} (h : P.info? t = some i) (w : World) : (typeInfo t).run P w = .ok i w := by
  simp [typeInfo, program, Bind.bind, Sem.bind, Sem.run, h, Pure.pure]

theorem run_bind {α β : Type} (x : Sem α) (f : α → Sem β) (w : World) : (x >>= f).run P w = (match x.run P w with | .ok a w' => (f a).run P w' | .halt h w' => .halt h w') := by
  have := Sem.run_bind' P x f w
  show (x.bind f).run P w = _
  rw [this]
  cases x.run P w <;> rfl

theorem run_pure {α : Type} (a : α) (w : World) : (pure a : Sem α).run P w = .ok a w := rfl

theorem shp_cases {t : TypeId} {r : Option Nat} (h : shp P t = some r) : ∃ d i, P.underlying t = some d ∧ P.info? t = some i ∧ r = (match d with | .struct _ | .array _ _ => some i.size | _ => none) := by
  unfold shp at h
  cases hu : P.underlying t with
  | none => rw [hu] at h; simp at h
  | some d =>
    cases hi : P.info? t with
    | none => rw [hu, hi] at h; cases d <;> simp at h
    | some i =>
      rw [hu, hi] at h
      refine ⟨d, i, rfl, rfl, ?_⟩
      cases d <;> (simp only [Option.some.injEq] at h; exact h.symm)

theorem shp_some {t : TypeId} {n : Nat} (h : shp P t = some (some n)) : ∃ d i, P.underlying t = some d ∧ P.info? t = some i ∧ i.size = n ∧ ((∃ fs, d = .struct fs) ∨ ∃ l e, d = .array l e) := by
  obtain ⟨d, i, h1, h2, h3⟩ := shp_cases h
  cases d <;> simp only [Option.some.injEq, reduceCtorEq] at h3
  · exact ⟨_, i, h1, h2, h3.symm, by first | exact .inl ⟨_, rfl⟩ | exact .inr ⟨_, _, rfl⟩⟩
  · exact ⟨_, i, h1, h2, h3.symm, by first | exact .inl ⟨_, rfl⟩ | exact .inr ⟨_, _, rfl⟩⟩

theorem shp_none {t : TypeId} (h : shp P t = some none) : ∃ d i, P.underlying t = some d ∧ P.info? t = some i ∧ (∀ fs, d ≠ .struct fs) ∧ ∀ l e, d ≠ .array l e := by
  obtain ⟨d, i, h1, h2, h3⟩ := shp_cases h
  cases d <;> simp only [reduceCtorEq] at h3
  all_goals exact ⟨_, i, h1, h2, by simp, by simp⟩

theorem run_isAgg_true {t : TypeId} {n : Nat} (h : shp P t = some (some n)) (w : World) : (isAgg t).run P w = .ok true w := by
  obtain ⟨d, i, h1, h2, h3, h4⟩ := shp_some h
  unfold isAgg
  rw [run_bind, run_underlying h1]
  rcases h4 with ⟨fs, rfl⟩ | ⟨l, e, rfl⟩ <;> rfl

theorem run_isAgg_false {t : TypeId} (h : shp P t = some none) (w : World) : (isAgg t).run P w = .ok false w := by
  obtain ⟨d, i, h1, h2, h3, h4⟩ := shp_none h
  unfold isAgg
  rw [run_bind, run_underlying h1]
  cases d <;> first | rfl | exact absurd rfl (h3 _) | exact absurd rfl (h4 _ _)

theorem run_load {a : Addr} {v : Value} {w : World} (h : w.cell? a = some v) : (load a).run P w = .ok v w := by
  simp [load, Sem.run, h]

theorem run_loadCellsFrom {w : World} {a : Addr} : ∀ (n i : Nat) (acc : Array Value) (cs : List Value), cs.length = n → (∀ j, j < n → w.cell? (a.add (i + j)) = cs[j]?) → (loadCellsFrom a i n acc).run P w = .ok (acc ++ cs.toArray) w
  | 0, i, acc, cs, hl, _ => by
    have : cs = [] := List.length_eq_zero_iff.1 hl
    subst this; simp [loadCellsFrom]
  | n + 1, i, acc, cs, hl, h => by
    match cs, hl with
    | c :: cs, hl =>
      have h0 := h 0 (by omega)
      simp at h0
      unfold loadCellsFrom
      rw [run_bind, run_load h0]
      simp only []
      rw [run_loadCellsFrom n (i + 1) _ cs (by simpa using hl) (fun j hj => by have := h (j + 1) (by omega); rw [show i + 1 + j = i + (j + 1) by omega]; simpa using this)]
      simp

theorem run_loadVar_agg {t : TypeId} {n : Nat} {a : Addr} {w : World} {cs : List Value} (h : shp P t = some (some n)) (hl : cs.length = n) (hc : ∀ j, j < n → w.cell? (a.add j) = cs[j]?) : (loadVar t a).run P w = .ok (.agg cs.toArray) w := by
  obtain ⟨d, i, h1, h2, h3, h4⟩ := shp_some h
  have hl' := run_loadCellsFrom (P := P) n 0 #[] cs hl (fun j hj => by simpa using hc j hj)
  simp [loadVar, sizeOf, loadCells, run_isAgg_true h, run_typeInfo h2, h3, hl']

theorem run_loadVar_one {t : TypeId} {a : Addr} {w : World} {v : Value} (h : shp P t = some none) (hc : w.cell? a = some v) : (loadVar t a).run P w = .ok v w := by
  unfold loadVar
  rw [run_bind, run_isAgg_false h]
  exact run_load hc

theorem run_store {a : Addr} {v u : Value} {w : World} (hv : one1 v = true) (h : w.cell? a = some u) (hf : w.frozen? a = false) : (store a v).run P w = .ok () (w.setCell a v) := by
  unfold store
  cases v <;> simp [one1] at hv <;> simp [Sem.run, h, hf]
end

/-! ### Boxes -/
def box (B : Nat) (cs : List Value) (T : TypeId) : Ent := ⟨fun b => b = B, fun w => w.heap[B]? = some (.cells cs.toArray T (0, 0))⟩

theorem HeapIs.alloc {w0 : World} {H : List Ent} {w : World} (h : HeapIs w0 H w) (cs : List Value) (T : TypeId) : HeapIs w0 (box w.heap.size cs T :: H) { w with heap := w.heap.push (.cells cs.toArray T) } := by
  have hag : ∀ e ∈ H, Agree e.S w { w with heap := w.heap.push (.cells cs.toArray T) } := fun e he b hb => by
    have := (h.good e he).bound b hb
    show (w.heap.push _)[b]? = _
    rw [Array.getElem?_push, if_neg (by omega)]
  refine ⟨⟨h.same.os, h.same.tape, h.same.output⟩, by have := h.size; simp; omega, ?_, ?_⟩
  · intro e he
    rcases List.mem_cons.1 he with rfl | he
    · exact ⟨fun w1 w2 ha hA => by have := ha w.heap.size rfl; simp only [box] at *; rw [this]; exact hA, fun b hb => by simp only [box] at hb; subst hb; simp, by simp only [box]; exact Array.getElem?_push_size⟩
    · have g := h.good e he
      exact ⟨g.stable, fun b hb => by have := g.bound b hb; simp; omega, g.stable _ _ (hag e he) g.here⟩
  · refine List.pairwise_cons.2 ⟨fun e he b hb hb' => ?_, h.apart⟩
    simp only [box] at hb
    have := (h.good e he).bound b hb'
    omega

/-- An entry of the heap, by its place. -/
theorem HeapIs.at {w0 : World} {H : List Ent} {w : World} (h : HeapIs w0 H w) {i : Nat} {e : Ent} (hi : H[i]? = some e) : e.Good w := h.good e (List.mem_of_getElem? hi)

theorem box_cell {w : World} {B : Nat} {cs : List Value} {T : TypeId} (h : (box B cs T).A w) (j : Nat) : w.cell? ⟨B, j, none⟩ = cs[j]? := by
  have h' : w.heap[B]? = some (.cells cs.toArray T (0, 0)) := h
  simp [World.cell?, h']

theorem box_cell_add {w : World} {B j0 : Nat} {cs : List Value} {T : TypeId} (h : (box B cs T).A w) (j : Nat) : w.cell? (Addr.add ⟨B, j0, none⟩ j) = cs[j0 + j]? := by
  unfold Addr.add
  split
  · rename_i e; subst e; exact box_cell h _
  · exact box_cell h _

theorem box_frozen {w : World} {B : Nat} {cs : List Value} {T : TypeId} (h : (box B cs T).A w) (j : Nat) : w.frozen? ⟨B, j, none⟩ = false := by
  have h' : w.heap[B]? = some (.cells cs.toArray T (0, 0)) := h
  simp [World.frozen?, h']

/-- What lies at an entry is changed; nothing else is. -/
theorem HeapIs.change {w0 : World} {H : List Ent} {w w' : World} (h : HeapIs w0 H w) {i : Nat} {e e' : Ent} (hi : H[i]? = some e) (hsame : Same w w') (hsize : w.heap.size ≤ w'.heap.size)
    (hS : ∀ b, e'.S b → e.S b ∨ (w.heap.size ≤ b ∧ b < w'.heap.size)) (hag : ∀ b, b < w.heap.size → ¬ e.S b → w'.heap[b]? = w.heap[b]?) (hst : ∀ w1 w2, Agree e'.S w1 w2 → e'.A w1 → e'.A w2) (hA : e'.A w') : HeapIs w0 (H.set i e') w' := by
  have hmem := List.mem_of_getElem? hi
  obtain ⟨hlt, hget⟩ := List.getElem?_eq_some_iff.1 hi
  have hap := List.pairwise_iff_getElem.1 h.apart
  have dis : ∀ j (hj : j < H.length), j ≠ i → Disj e.S (H[j]).S := fun j hj hne b hb hb' => by
    rcases Nat.lt_or_gt_of_ne hne with hl | hl
    · exact hap j i hj hlt hl b hb' (by rw [hget]; exact hb)
    · exact hap i j hlt hj hl b (by rw [hget]; exact hb) hb'
  refine ⟨⟨hsame.os.trans h.same.os, hsame.tape.trans h.same.tape, hsame.output.trans h.same.output⟩, Nat.le_trans h.size hsize, ?_, ?_⟩
  · intro f hf
    obtain ⟨j, hj, rfl⟩ := List.mem_iff_getElem.1 hf
    rw [List.getElem_set]
    have hj' : j < H.length := by simpa using hj
    split
    · exact ⟨hst, fun b hb => by rcases hS b hb with hb | hb
                                 · have := (h.good e hmem).bound b hb; omega
                                 · exact hb.2, hA⟩
    · rename_i hne
      have g := h.good H[j] (List.getElem_mem hj')
      refine ⟨g.stable, fun b hb => by have := g.bound b hb; omega, g.stable w w' (fun b hb => hag b (g.bound b hb) fun he => dis j hj' (fun e => hne e.symm) b he hb) g.here⟩
  · refine List.pairwise_iff_getElem.2 fun j k hj hk hjk b hb hb' => ?_
    rw [List.getElem_set] at hb hb'
    have hj' : j < H.length := by simpa using hj
    have hk' : k < H.length := by simpa using hk
    have far : ∀ m (hm : m < H.length), m ≠ i → e'.S b → (H[m]).S b → False := fun m hm hne h1 h2 => by
      rcases hS b h1 with h1 | h1
      · exact dis m hm hne b h1 h2
      · have := (h.good H[m] (List.getElem_mem hm)).bound b h2; omega
    split at hb <;> split at hb'
    · omega
    · rename_i e1 e2; exact far k hk' (fun e => e2 e.symm) hb hb'
    · rename_i e1 e2; exact far j hj' (fun e => e1 e.symm) hb' hb
    · exact hap j k hj' hk' hjk b hb hb'

theorem HeapIs.store {w0 : World} {H : List Ent} {w : World} (h : HeapIs w0 H w) {i B j : Nat} {cs : List Value} {T : TypeId} (hi : H[i]? = some (box B cs T)) (v : Value) :
    HeapIs w0 (H.set i (box B (cs.set j v) T)) (w.setCell ⟨B, j, none⟩ v) := by
  have g := (h.at hi).here
  have g' : w.heap[B]? = some (.cells cs.toArray T (0, 0)) := g
  refine h.change hi ⟨rfl, rfl, rfl⟩ (by simp [World.setCell]) (fun b hb => .inl hb) (fun b _ hb => Below.heap_setCell _ _ _ _ hb) (fun w1 w2 ha hA => by have := ha B rfl; simp only [box] at *; rw [this]; exact hA) ?_
  show (w.setCell _ v).heap[B]? = _
  simp [World.setCell, Array.getElem?_modify, g']

theorem HeapIs.drop {w0 : World} {H H' : List Ent} {w : World} (h : HeapIs w0 H w) (hs : H'.Sublist H) : HeapIs w0 H' w :=
  ⟨h.same, h.size, fun e he => h.good e (hs.subset he), h.apart.sublist hs⟩

section
variable {P : Program} {n : Nat} {w0 : World} {r : Option Nat} {ds : List Deferred} {Q : Exit → Act → World → Prop} {F F' : List (Nat × Value)} {H H' : List Ent} {ops : Array Oper}
variable {ty : TypeId} {pos : String} {after : Array Edge} {guard : Option (Nat × Bool)} {dst : Option Tmp} {rest : List Oper} {d : Nat}

theorem c_drop {c : Code} (hs : H'.Sublist H) (h : SC r ds P n w0 Q c F H') : SC r ds P n w0 Q c F H := fun a w ha hw => h a w ha (hw.drop hs)
theorem o_drop {l : List Oper} (hs : H'.Sublist H) (h : SO r ds P n w0 ops Q l F H') : SO r ds P n w0 ops Q l F H := fun a w ha hw => h a w ha (hw.drop hs)
theorem q_drop {e : Exit} (hs : H'.Sublist H) (h : SQ ds n w0 Q e F H') : SQ ds n w0 Q e F H := fun a w ha hw => h a w ha (hw.drop hs)

theorem o_alloc {T : TypeId} {z : List Value} (hz : zeroOf P T = some z) (hn : Nat.blt d n = true) (h : ∀ B, SO r ds P n w0 ops Q rest ((d, .pointer (some ⟨B, 0, none⟩)) :: F) (box B z T :: H)) :
    SO r ds P n w0 ops Q (⟨some d, .alloc T, ty, pos, after, none⟩ :: rest) F H := fun a w ha hw =>
  wpL_plain rfl (fun _ h => by cases h) fun K hK => by
    unfold zeroOf at hz
    simp only [Option.map_eq_some_iff, Option.bind_eq_some_iff] at hz
    obtain ⟨v, ⟨i, hi, hv⟩, rfl⟩ := hz
    have hrun : (execOp a.eval ⟨some d, .alloc T, ty, pos, after, none⟩).run P w = .ok (.value (.pointer (some ⟨w.heap.size, 0, none⟩))) { w with heap := w.heap.push (.cells v.cells T) } := by
      simp [execOp, Instr.alloc, zeroValue, newVar, newRow, newObj, run_typeInfo hi, hv, Sem.run]
    unfold Oper.wp
    rw [hrun]
    exact hK _ _ (h w.heap.size _ _ (ha.put hn _) (by simpa using hw.alloc v.cells.toList T))

theorem o_box {T : TypeId} {x : Operand} {v : Value} (hx : ev F x = some v) (hn : Nat.blt d n = true) (h : ∀ B, SO r ds P n w0 ops Q rest ((d, .pointer (some ⟨B, 0, none⟩)) :: F) (box B v.cells.toList T :: H)) :
    SO r ds P n w0 ops Q (⟨some d, .box T x, ty, pos, after, none⟩ :: rest) F H := fun a w ha hw =>
  wpL_plain rfl (fun _ h => by cases h) fun K hK => by
    have hrun : (execOp a.eval ⟨some d, .box T x, ty, pos, after, none⟩).run P w = .ok (.value (.pointer (some ⟨w.heap.size, 0, none⟩))) { w with heap := w.heap.push (.cells v.cells T) } := by
      simp [execOp, Instr.box, newVar, newRow, newObj, Sem.run, ha.eval hx]
    unfold Oper.wp
    rw [hrun]
    exact hK _ _ (h w.heap.size _ _ (ha.put hn _) (by simpa using hw.alloc v.cells.toList T))

theorem run_fieldAt {s : TypeId} {f off : Nat} (hf : fieldOff P s f = some off) (a : Addr) (w : World) : (Instr.fieldAt s (.pointer (some a)) f).run P w = .ok (.pointer (some (a.add off))) w := by
  unfold fieldOff at hf
  split at hf
  · rename_i fs hu
    split at hf
    · rename_i g hg
      split at hf
      · rename_i i hi
        split at hf
        · cases hf
        · rename_i hne
          simp only [Option.some.injEq] at hf
          subst hf
          simp [Instr.fieldAt, run_underlying hu, hg, Instr.sureAddr, fieldPlace, sizeOf, run_typeInfo hi, hne]
      · cases hf
    · cases hf
  · cases hf

theorem p_fieldAddr {s : TypeId} {x : Operand} {f off B j j' : Nat} (hx : ev F x = some (.pointer (some ⟨B, j, none⟩))) (hf : fieldOff P s f = some off) (hj : j' = j + off) : Pure ds P n w0 ⟨dst, .fieldAddr s x f, ty, pos, after, guard⟩ F H (.pointer (some ⟨B, j', none⟩)) := fun a w ha _ => by
  subst hj
  have e : Addr.add ⟨B, j, none⟩ off = ⟨B, j + off, none⟩ := by unfold Addr.add; split <;> simp_all
  simp [execOp, ha.eval hx, run_fieldAt hf, e]

theorem p_load {t : TypeId} {x : Operand} {i B j : Nat} {cs : List Value} {T : TypeId} {v : Value} (hx : ev F x = some (.pointer (some ⟨B, j, none⟩))) (hi : H[i]? = some (box B cs T)) (ht : shp P t = some none) (hv : cs[j]? = some v) :
    Pure ds P n w0 ⟨dst, .load t x, ty, pos, after, guard⟩ F H v := fun a w ha hw => by
  have hc := box_cell (hw.at hi).here j
  rw [hv] at hc
  simp [execOp, ha.eval hx, Instr.loadAt, Instr.sureAddr, run_loadVar_one ht hc]

theorem p_load_agg {t : TypeId} {x : Operand} {i B j m : Nat} {cs vs : List Value} {T : TypeId} (hx : ev F x = some (.pointer (some ⟨B, j, none⟩))) (hi : H[i]? = some (box B cs T)) (ht : shp P t = some (some m)) (hv : (cs.drop j).take m = vs) (hl : vs.length = m) :
    Pure ds P n w0 ⟨dst, .load t x, ty, pos, after, guard⟩ F H (.agg vs.toArray) := fun a w ha hw => by
  have hc : ∀ q, q < m → w.cell? (Addr.add ⟨B, j, none⟩ q) = vs[q]? := fun q hq => by
    rw [box_cell_add (hw.at hi).here, ← hv]
    simp [hq]
  simp [execOp, ha.eval hx, Instr.loadAt, Instr.sureAddr, run_loadVar_agg ht hl hc]

theorem run_storeVar_one {t : TypeId} {a : Addr} {v u : Value} {w : World} (hs : sizeIs P t = some 1) (hv : one1 v = true) (hc : w.cell? a = some u) (hf : w.frozen? a = false) : (storeVar t a v).run P w = .ok () (w.setCell a v) := by
  unfold sizeIs at hs
  simp only [Option.map_eq_some_iff] at hs
  obtain ⟨i, hi, h1⟩ := hs
  have hcs : v.cells = #[v] := by cases v <;> first | rfl | (simp [one1] at hv)
  simp [storeVar, sizeOf, run_typeInfo hi, hcs, h1, storeCells, Addr.add, run_store hv hc hf]

theorem o_store {t : TypeId} {x y : Operand} {i B j : Nat} {cs cs' : List Value} {T : TypeId} {v : Value} (hx : ev F x = some (.pointer (some ⟨B, j, none⟩))) (hy : ev F y = some v) (hi : H[i]? = some (box B cs T)) (ht : sizeIs P t = some 1) (hv : one1 v = true)
    (hj : Nat.blt j cs.length = true) (hc : cs' = cs.set j v) (h : SO r ds P n w0 ops Q rest F (H.set i (box B cs' T))) : SO r ds P n w0 ops Q (⟨none, .store t x y, ty, pos, after, none⟩ :: rest) F H := fun a w ha hw =>
  wpL_plain rfl (fun _ h => by cases h) fun K hK => by
    subst hc
    have hj' : j < cs.length := by simpa [Nat.blt_eq] using hj
    have hc := box_cell (hw.at hi).here j
    rw [List.getElem?_eq_getElem hj'] at hc
    have hrun : (execOp a.eval ⟨none, .store t x y, ty, pos, after, none⟩).run P w = .ok .skip (w.setCell ⟨B, j, none⟩ v) := by
      simp [execOp, ha.eval hx, ha.eval hy, Instr.storeAt, Instr.sureAddr, run_storeVar_one ht hv hc (box_frozen (hw.at hi).here j)]
    unfold Oper.wp
    rw [hrun]
    exact hK _ _ (h _ _ ha (hw.store hi v))
end
end Go.Sx
