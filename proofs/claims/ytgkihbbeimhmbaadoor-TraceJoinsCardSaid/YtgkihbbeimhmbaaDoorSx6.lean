/- Maps that the call makes: association lists, in the order of insertion. -/
import Derived.Test.YtgkihbbeimhmbaaDoorSx5
namespace Go.Sx
open Go.RowKit

namespace AL
variable {κ ν : Type} [DecidableEq κ]
def get : List (κ × ν) → κ → Option ν
  | [], _ => none
  | (a, v) :: m, k => if k = a then some v else get m k
def set : List (κ × ν) → κ → ν → List (κ × ν)
  | [], k, x => [(k, x)]
  | (a, v) :: m, k, x => if k = a then (k, x) :: m else (a, v) :: set m k x
def del : List (κ × ν) → κ → List (κ × ν)
  | [], _ => []
  | (a, v) :: m, k => if k = a then m else (a, v) :: del m k

theorem get_set (m : List (κ × ν)) (k j : κ) (x : ν) : get (set m k x) j = if j = k then some x else get m j := by
  induction m with
  | nil => simp [set, get]
  | cons p m ih =>
    obtain ⟨a, v⟩ := p
    simp only [set]
    split
    · rename_i e; subst e; simp only [get]; split <;> simp_all
    · simp only [get, ih]; split <;> split <;> simp_all
end AL

/-- A key type of maps. -/
structure KTy (κ : Type) [DecidableEq κ] where
  enc : κ → Value
  kd : TypeDesc
  same : ∀ a b, Instr.sameNow kd (enc a) (enc b) = some (decide (a = b))
  bits : ∀ a, Instr.sameBits 10000 (enc a) (enc a) = true
  plain : (∃ k, kd = .int k) ∨ kd = .string

def kInt : KTy Int := ⟨fun z => .int .i64 z, .int .i64, fun a b => by simp [Instr.sameNow]; rfl, fun a => by simp [Instr.sameBits], .inl ⟨_, rfl⟩⟩

section
variable {κ ν : Type} [DecidableEq κ]

/-- when the entries were laid in: each at a time of its own, none after now -/
def Born (es : List MapEntry) (clock : Nat) : Prop := (es.map (·.born)).Nodup ∧ ∀ e ∈ es, e.born < clock
theorem Born.nil (c : Nat) : Born [] c := ⟨List.nodup_nil, fun e he => by cases he⟩
theorem Born.push {es : List MapEntry} {c : Nat} (h : Born es c) (k v : Value) : Born (es ++ [{ key := k, val := v, born := c }]) (c + 1) := by
  refine ⟨?_, fun e he => ?_⟩
  · rw [List.map_append, List.nodup_append]
    refine ⟨h.1, by simp, fun x hx y hy e => ?_⟩
    obtain ⟨z, hz, rfl⟩ := List.mem_map.1 hx
    have := h.2 z hz
    simp at hy; omega
  · rcases List.mem_append.1 he with he | he
    · have := h.2 e he; omega
    · simp at he; subst he; simp
theorem Born.modify {es : List MapEntry} {c : Nat} (h : Born es c) (q : Nat) (k v : Value) : Born (es.modify q fun e => { e with key := k, val := v }) c := by
  have h1 : (es.modify q fun e => { e with key := k, val := v }).map (·.born) = es.map (·.born) := by
    apply List.ext_getElem?
    intro j
    simp only [List.getElem?_map, List.getElem?_modify]
    split <;> simp
    cases es[j]? <;> rfl
  refine ⟨by rw [h1]; exact h.1, fun e he => ?_⟩
  have h2 : e.born ∈ (es.modify q fun e => { e with key := k, val := v }).map (·.born) := List.mem_map.2 ⟨e, he, rfl⟩
  rw [h1] at h2
  obtain ⟨z, hz, e2⟩ := List.mem_map.1 h2
  rw [← e2]; exact h.2 z hz
theorem Born.sub {es fs : List MapEntry} {c : Nat} (h : Born es c) (hs : fs.Sublist es) : Born fs c := ⟨(hs.map _).nodup h.1, fun e he => h.2 e (hs.subset he)⟩
def MapIs (K : KTy κ) (ve : ν → Value) (B : Nat) (m : List (κ × ν)) (w : World) : Prop :=
  ∃ es clock, w.heap[B]? = some (.map es clock) ∧ es.toList.map (fun e => (e.key, e.val)) = m.map (fun p => (K.enc p.1, ve p.2)) ∧ Born es.toList clock
def mapE (K : KTy κ) (ve : ν → Value) (B : Nat) (m : List (κ × ν)) : Ent := ⟨fun b => b = B, MapIs K ve B m⟩

theorem MapIs.agree {K : KTy κ} {ve : ν → Value} {B : Nat} {m : List (κ × ν)} {w1 w2 : World} (ha : Agree (fun b => b = B) w1 w2) (h : MapIs K ve B m w1) : MapIs K ve B m w2 := by
  obtain ⟨es, c, h1, h2⟩ := h
  exact ⟨es, c, (ha B rfl).trans h1, h2⟩

/-- Where a key stands. -/
def AL.idx : List (κ × ν) → κ → Nat → Option (Nat × ν)
  | [], _, _ => none
  | (a, v) :: m, k, i => if k = a then some (i, v) else AL.idx m k (i + 1)

theorem AL.get_idx (m : List (κ × ν)) (k : κ) (i : Nat) : AL.get m k = (AL.idx m k i).map (·.2) := by
  induction m generalizing i with
  | nil => rfl
  | cons p m ih =>
    obtain ⟨a, v⟩ := p
    simp only [AL.get, AL.idx]
    split
    · rfl
    · exact ih (i + 1)

theorem findNow_eq (K : KTy κ) (ve : ν → Value) (k : κ) : ∀ (es : List MapEntry) (m : List (κ × ν)) (i : Nat), es.map (fun e => (e.key, e.val)) = m.map (fun p => (K.enc p.1, ve p.2)) →
    Instr.findNow K.kd (K.enc k) es i = some ((AL.idx m k i).map fun p => (p.1, ve p.2))
  | [], [], _, _ => rfl
  | e :: es, (a, v) :: m, i, h => by
    simp only [List.map_cons, List.cons.injEq, Prod.mk.injEq] at h
    obtain ⟨⟨h1, h2⟩, h3⟩ := h
    simp only [Instr.findNow, h1, K.same]
    by_cases e1 : k = a
    · simp [e1, AL.idx, h2]
    · simp [e1, AL.idx]
      exact findNow_eq K ve k es m (i + 1) h3

variable {P : Program} {n : Nat} {w0 : World} {r : Option Nat} {ds : List Deferred} {Q : Exit → Act → World → Prop} {F F' : List (Nat × Value)} {H H' : List Ent} {ops : Array Oper}
variable {ty : TypeId} {pos : String} {after : Array Edge} {guard : Option (Nat × Bool)} {dst : Option Tmp} {rest : List Oper} {d : Nat} {x y : Operand}
variable {K : KTy κ} {ve : ν → Value} {m : List (κ × ν)}

theorem run_checkKey {e : Bool} {t : TypeId} {v : Value} {w : World} (hu : P.underlying t = some K.kd) : (Instr.checkKey e 10000 t v).run P w = .ok () w := by
  unfold Instr.checkKey
  rw [run_bind, run_underlying hu]
  rcases K.plain with ⟨k, hk⟩ | hk <;> rw [hk] <;> rfl

theorem run_findKey {t : TypeId} {k : κ} {es : List MapEntry} {w : World} (hu : P.underlying t = some K.kd) (h : es.map (fun e => (e.key, e.val)) = m.map (fun p => (K.enc p.1, ve p.2))) :
    (Instr.findKey t (K.enc k) es).run P w = .ok ((AL.idx m k 0).map fun p => (p.1, ve p.2)) w := by
  unfold Instr.findKey
  rw [run_bind, run_underlying hu]
  simp only [findNow_eq K ve k es m 0 h]
  rfl

/-- The zero value of a type. -/
def zeroV (P : Program) (t : TypeId) : Option Value := (P.info? t).bind (·.zero)
theorem run_zeroValue {t : TypeId} {z : Value} (h : zeroV P t = some z) (w : World) : (zeroValue t).run P w = .ok z w := by
  unfold zeroV at h
  simp only [Option.bind_eq_some_iff] at h
  obtain ⟨i, hi, hz⟩ := h
  simp [zeroValue, run_bind, run_typeInfo hi, hz]

theorem run_getMap {B : Nat} {es : Array MapEntry} {c : Nat} {w : World} (h : w.heap[B]? = some (.map es c)) : (getObj B).run P w = .ok (.map es c) w := by
  simp [getObj, Sem.run, h]

theorem p_lookup2 {t kt vt : TypeId} {i B : Nat} {k : κ} {dflt : ν} (hx : ev F x = some (.map (some B))) (hy : ev F y = some (K.enc k)) (hi : H[i]? = some (mapE K ve B m)) (hu : P.underlying t = some (.map kt vt)) (hk : P.underlying kt = some K.kd) (hz : zeroV P vt = some (ve dflt)) :
    Pure ds P n w0 ⟨dst, .lookup t x y true, ty, pos, after, guard⟩ F H (.tuple #[ve ((AL.get m k).getD dflt), .bool (AL.get m k).isSome]) := fun a w ha hw => by
  obtain ⟨es, c, h1, h2, _⟩ := (hw.at hi).here
  have hf := run_findKey (P := P) (K := K) (ve := ve) (m := m) (k := k) (es := es.toList) (w := w) hk h2
  rw [AL.get_idx m k 0]
  cases hidx : AL.idx m k 0 with
  | none => rw [hidx] at hf; simp [execOp, ha.eval hx, ha.eval hy, Instr.lookup, run_bind, run_underlying hu, run_getMap h1, run_checkKey hk, hf, run_zeroValue hz]
  | some p => rw [hidx] at hf; simp [execOp, ha.eval hx, ha.eval hy, Instr.lookup, run_bind, run_underlying hu, run_getMap h1, run_checkKey hk, hf]

theorem p_lookup1 {t kt vt : TypeId} {i B : Nat} {k : κ} {dflt : ν} (hx : ev F x = some (.map (some B))) (hy : ev F y = some (K.enc k)) (hi : H[i]? = some (mapE K ve B m)) (hu : P.underlying t = some (.map kt vt)) (hk : P.underlying kt = some K.kd) (hz : zeroV P vt = some (ve dflt)) :
    Pure ds P n w0 ⟨dst, .lookup t x y false, ty, pos, after, guard⟩ F H (ve ((AL.get m k).getD dflt)) := fun a w ha hw => by
  obtain ⟨es, c, h1, h2, _⟩ := (hw.at hi).here
  have hf := run_findKey (P := P) (K := K) (ve := ve) (m := m) (k := k) (es := es.toList) (w := w) hk h2
  rw [AL.get_idx m k 0]
  cases hidx : AL.idx m k 0 with
  | none => rw [hidx] at hf; simp [execOp, ha.eval hx, ha.eval hy, Instr.lookup, run_bind, run_underlying hu, run_getMap h1, run_checkKey hk, hf, run_zeroValue hz]
  | some p => rw [hidx] at hf; simp [execOp, ha.eval hx, ha.eval hy, Instr.lookup, run_bind, run_underlying hu, run_getMap h1, run_checkKey hk, hf]

theorem p_len_map {t kt vt : TypeId} {ats : Array TypeId} {i B : Nat} (hx : ev F x = some (.map (some B))) (hi : H[i]? = some (mapE K ve B m)) (ha' : ats[0]? = some t) (hu : P.underlying t = some (.map kt vt)) :
    Pure ds P n w0 ⟨dst, .call { callee := .builtin .len, args := #[x], argTypes := ats }, ty, pos, after, guard⟩ F H (.int .i64 (m.length : Int)) := fun a w ha hw => by
  obtain ⟨es, c, h1, h2, _⟩ := (hw.at hi).here
  have hl : es.size = m.length := by have := congrArg List.length h2; simpa using this
  simp [execOp, resolve, invoke, builtin, Builtin.len_, ha.eval hx, ha', run_bind, run_underlying hu, run_getMap h1, goInt, hl]

theorem o_makeMap {t : TypeId} (K : KTy κ) (ve : ν → Value) (hn : Nat.blt d n = true) (h : ∀ B, SO r ds P n w0 ops Q rest ((d, .map (some B)) :: F) (mapE K ve B [] :: H)) : SO r ds P n w0 ops Q (⟨some d, .makeMap t none, ty, pos, after, none⟩ :: rest) F H := fun a w ha hw =>
  wpL_plain rfl (fun _ h => by cases h) fun KK hK => by
    have hrun : (execOp a.eval ⟨some d, .makeMap t none, ty, pos, after, none⟩).run P w = .ok (.value (.map (some w.heap.size))) { w with heap := w.heap.push (.map #[] 0) } := by
      simp [execOp, Instr.makeMap, newObj, run_bind, Sem.run, run_pure]
    unfold Oper.wp
    rw [hrun]
    exact hK _ _ (h w.heap.size _ _ (ha.put hn _) (hw.push _ (fun _ _ ha hA => MapIs.agree ha hA) ⟨#[], 0, by simp, rfl, Born.nil 0⟩))

theorem modify_map (K : KTy κ) (ve : ν → Value) (k : κ) (v : ν) : ∀ (es : List MapEntry) (m : List (κ × ν)) (j : Nat), es.map (fun e => (e.key, e.val)) = m.map (fun p => (K.enc p.1, ve p.2)) → ∀ i u, AL.idx m k j = some (i, u) → j ≤ i ∧
    (es.modify (i - j) fun e => { e with key := K.enc k, val := ve v }).map (fun e => (e.key, e.val)) = (AL.set m k v).map (fun p => (K.enc p.1, ve p.2)) ∧ (es[i - j]?).map (·.key) = some (K.enc k)
  | [], [], _, _, _, _, h => by simp [AL.idx] at h
  | e :: es, (a, x) :: m, j, h, i, u, hi => by
    simp only [List.map_cons, List.cons.injEq, Prod.mk.injEq] at h
    obtain ⟨⟨h1, h2⟩, h3⟩ := h
    simp only [AL.idx] at hi
    split at hi
    · rename_i e1
      simp only [Option.some.injEq, Prod.mk.injEq] at hi
      obtain ⟨rfl, rfl⟩ := hi
      subst e1
      simp [AL.set, h3, h1]
    · rename_i e1
      obtain ⟨g1, g2, g3⟩ := modify_map K ve k v es m (j + 1) h3 i u hi
      refine ⟨by omega, ?_, ?_⟩
      · rw [show i - j = (i - (j + 1)) + 1 by omega]; simp [AL.set, e1, h1, h2, g2]
      · rw [show i - j = (i - (j + 1)) + 1 by omega]; simpa using g3

theorem set_none (K : KTy κ) (ve : ν → Value) (k : κ) (v : ν) : ∀ (m : List (κ × ν)) (j : Nat), AL.idx m k j = none → AL.set m k v = m ++ [(k, v)]
  | [], _, _ => rfl
  | (a, x) :: m, j, h => by
    simp only [AL.idx] at h
    split at h
    · cases h
    · rename_i e; simp [AL.set, e, set_none K ve k v m (j + 1) h]

theorem o_mapUpdate {t kt vt : TypeId} {z : Operand} {i B : Nat} {k : κ} {v : ν} (hx : ev F x = some (.map (some B))) (hy : ev F y = some (K.enc k)) (hz : ev F z = some (ve v)) (hi : H[i]? = some (mapE K ve B m)) (hu : P.underlying t = some (.map kt vt)) (hk : P.underlying kt = some K.kd)
    (h : SO r ds P n w0 ops Q rest F (H.set i (mapE K ve B (AL.set m k v)))) : SO r ds P n w0 ops Q (⟨none, .mapUpdate t x y z, ty, pos, after, none⟩ :: rest) F H := fun a w ha hw =>
  wpL_plain rfl (fun _ h => by cases h) fun KK hK => by
    obtain ⟨es, c, h1, h2, hbn⟩ := (hw.at hi).here
    have hf := run_findKey (P := P) (K := K) (ve := ve) (m := m) (k := k) (es := es.toList) (w := w) hk h2
    have key : ∀ es' c', es'.toList.map (fun e => (e.key, e.val)) = (AL.set m k v).map (fun p => (K.enc p.1, ve p.2)) ∧ Born es'.toList c' → HeapIs w0 (H.set i (mapE K ve B (AL.set m k v))) { w with heap := w.heap.setIfInBounds B (.map es' c') } := fun es' c' he => by
      refine hw.change hi ⟨rfl, rfl, rfl⟩ (by simp) (fun b hb => .inl hb) (fun b _ hb => ?_) (fun _ _ ha hA => MapIs.agree ha hA) ⟨es', c', ?_, he⟩
      · show (w.heap.setIfInBounds B _)[b]? = _
        exact Array.getElem?_setIfInBounds_ne (fun e => hb e.symm)
      · have hlt : B < w.heap.size := (hw.at hi).bound B rfl
        show (w.heap.setIfInBounds B _)[B]? = _
        simp [hlt]
    have hset : ∀ o, (setObj B o).run P w = .ok () { w with heap := w.heap.setIfInBounds B o } := fun o => by simp [setObj, Sem.run, h1]
    have hrun : ∃ es' c', (execOp a.eval ⟨none, .mapUpdate t x y z, ty, pos, after, none⟩).run P w = .ok .skip { w with heap := w.heap.setIfInBounds B (.map es' c') } ∧ es'.toList.map (fun e => (e.key, e.val)) = (AL.set m k v).map (fun p => (K.enc p.1, ve p.2)) ∧ Born es'.toList c' := by
      cases hidx : AL.idx m k 0 with
      | none =>
        rw [hidx] at hf
        refine ⟨es.push { key := K.enc k, val := ve v, born := c }, c + 1, ?_, by rw [set_none K ve k v m 0 hidx]; simp [h2], by simpa using hbn.push (K.enc k) (ve v)⟩
        simp [execOp, ha.eval hx, ha.eval hy, ha.eval hz, Instr.mapUpdate, run_bind, run_underlying hu, run_getMap h1, run_checkKey hk, hf, hset, run_pure]
      | some p =>
        rw [hidx] at hf
        obtain ⟨q, u⟩ := p
        obtain ⟨_, g2, g3⟩ := modify_map K ve k v es.toList m 0 h2 q u hidx
        refine ⟨es.modify q fun e => { e with key := K.enc k, val := ve v }, c, ?_, by simpa using g2, by simpa using hbn.modify q (K.enc k) (ve v)⟩
        have g3' : (Option.map (fun e => e.key) es[q]?).getD (K.enc k) = K.enc k := by
          have : (es[q]?).map (·.key) = some (K.enc k) := by simpa using g3
          rw [this]; rfl
        have hstay : (Instr.keyThatStays (K.enc k) (K.enc k)).run P w = .ok (K.enc k) w := by simp [Instr.keyThatStays, K.bits]
        simp [execOp, ha.eval hx, ha.eval hy, ha.eval hz, Instr.mapUpdate, run_bind, run_underlying hu, run_getMap h1, run_checkKey hk, hf, hset, run_pure, g3', hstay]
    obtain ⟨es', c', h3, h4⟩ := hrun
    unfold Oper.wp
    rw [h3]
    exact hK _ _ (h _ _ ha (key es' c' h4))
end
end Go.Sx
