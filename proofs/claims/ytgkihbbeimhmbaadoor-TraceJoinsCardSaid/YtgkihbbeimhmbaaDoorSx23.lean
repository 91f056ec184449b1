/- Maps that are handed in, keys that are dropped, and a range over a map, in whatever order. -/
import Derived.Test.YtgkihbbeimhmbaaDoorSx22
import Derived.Maps.RangeRun
namespace Go.Sx
open Go.RowKit
namespace AL
variable {κ ν : Type} [DecidableEq κ]
theorem get_none {m : List (κ × ν)} {k : κ} (h : k ∉ m.map (·.1)) : get m k = none := by
  induction m with
  | nil => rfl
  | cons p m ih =>
    obtain ⟨a, v⟩ := p
    simp only [List.map_cons, List.mem_cons, not_or] at h
    simp only [get, if_neg h.1, ih h.2]
theorem get_mem {m : List (κ × ν)} (hn : (m.map (·.1)).Nodup) {k : κ} {v : ν} : get m k = some v ↔ (k, v) ∈ m := by
  induction m with
  | nil => simp [get]
  | cons p m ih =>
    obtain ⟨a, u⟩ := p
    rw [List.map_cons, List.nodup_cons] at hn
    simp only [get, List.mem_cons, Prod.mk.injEq]
    split
    · rename_i e; subst e
      constructor
      · intro h; left; exact ⟨rfl, (Option.some.inj h).symm⟩
      · rintro (⟨_, h⟩ | h)
        · rw [h]
        · exact absurd (List.mem_map.2 ⟨_, h, rfl⟩) hn.1
    · rename_i e
      rw [ih hn.2]
      constructor
      · exact .inr
      · rintro (⟨h, _⟩ | h)
        · exact absurd h e
        · exact h
theorem get_isSome {m : List (κ × ν)} {k : κ} : (get m k).isSome = true ↔ k ∈ m.map (·.1) := by
  induction m with
  | nil => simp [get]
  | cons p m ih =>
    obtain ⟨a, v⟩ := p
    simp only [get, List.map_cons, List.mem_cons]
    split
    · simp [*]
    · rw [ih]; simp [*]
theorem set_keys (m : List (κ × ν)) (k : κ) (x : ν) : (set m k x).map (·.1) = if k ∈ m.map (·.1) then m.map (·.1) else m.map (·.1) ++ [k] := by
  induction m with
  | nil => simp [set]
  | cons p m ih =>
    obtain ⟨a, v⟩ := p
    simp only [set]
    split
    · rename_i e; subst e; simp
    · rename_i e
      simp only [List.map_cons, ih, List.mem_cons]
      split <;> simp [*]
theorem del_keys (m : List (κ × ν)) (k : κ) : (del m k).map (·.1) = (m.map (·.1)).erase k := by
  induction m with
  | nil => rfl
  | cons p m ih =>
    obtain ⟨a, v⟩ := p
    simp only [del]
    split
    · rename_i e; subst e; simp
    · rename_i e
      rw [List.map_cons, List.map_cons, List.erase_cons, if_neg (by simpa using fun h => e h.symm), ih]
theorem get_del {m : List (κ × ν)} (hn : (m.map (·.1)).Nodup) (k j : κ) : get (del m k) j = if j = k then none else get m j := by
  induction m with
  | nil => simp [del, get]
  | cons p m ih =>
    obtain ⟨a, v⟩ := p
    rw [List.map_cons, List.nodup_cons] at hn
    simp only [del]
    split
    · rename_i e; subst e
      split
      · rename_i e2; subst e2; exact get_none hn.1
      · rename_i e2; simp [get, e2]
    · rename_i e
      simp only [get, ih hn.2]
      split
      · rename_i e2; subst e2; rw [if_neg (fun h => e h.symm)]
      · rfl
end AL
section
variable {κ ν : Type} [DecidableEq κ]
variable {P : Program} {n : Nat} {w0 : World} {r : Option Nat} {ds : List Deferred} {Q : Exit → Act → World → Prop} {F F' : List (Nat × Value)} {H H' : List Ent} {ops : Array Oper}
variable {ty : TypeId} {pos : String} {after : Array Edge} {guard : Option (Nat × Bool)} {dst : Option Tmp} {rest : List Oper} {d : Nat} {x y : Operand}
variable {K : KTy κ} {ve : ν → Value} {m : List (κ × ν)}
theorem erase_map (K : KTy κ) (ve : ν → Value) (k : κ) : ∀ (es : List MapEntry) (m : List (κ × ν)) (j : Nat), es.map (fun e => (e.key, e.val)) = m.map (fun p => (K.enc p.1, ve p.2)) → ∀ i u, AL.idx m k j = some (i, u) → j ≤ i ∧
    (es.eraseIdx (i - j)).map (fun e => (e.key, e.val)) = (AL.del m k).map (fun p => (K.enc p.1, ve p.2)) ∧ i - j < es.length
  | [], [], _, _, _, _, h => by simp [AL.idx] at h
  | e :: es, (a, x) :: m, j, h, i, u, hi => by
    simp only [List.map_cons, List.cons.injEq, Prod.mk.injEq] at h
    obtain ⟨⟨h1, h2⟩, h3⟩ := h
    simp only [AL.idx] at hi
    split at hi
    · rename_i e1
      simp only [Option.some.injEq, Prod.mk.injEq] at hi
      obtain ⟨rfl, rfl⟩ := hi
      subst e1
      simp [AL.del, h3]
    · rename_i e1
      obtain ⟨g1, g2, g3⟩ := erase_map K ve k es m (j + 1) h3 i u hi
      refine ⟨by omega, ?_, ?_⟩
      · rw [show i - j = (i - (j + 1)) + 1 by omega]; simp [AL.del, e1, h1, h2, g2]
      · simp only [List.length_cons]; omega
theorem del_none (k : κ) : ∀ (m : List (κ × ν)) (j : Nat), AL.idx m k j = none → AL.del m k = m
  | [], _, _ => rfl
  | (a, x) :: m, j, h => by
    simp only [AL.idx] at h
    split at h
    · cases h
    · rename_i e; simp [AL.del, e, del_none k m (j + 1) h]
theorem o_delete {t kt vt : TypeId} {ats : Array TypeId} {i B : Nat} {k : κ} (hx : ev F x = some (.map (some B))) (hy : ev F y = some (K.enc k)) (hi : H[i]? = some (mapE K ve B m)) (hat : ats[0]? = some t) (hu : P.underlying t = some (.map kt vt)) (hk : P.underlying kt = some K.kd)
    (h : SO r ds P n w0 ops Q rest F (H.set i (mapE K ve B (AL.del m k)))) : SO r ds P n w0 ops Q (⟨none, .call { callee := .builtin .delete, args := #[x, y], argTypes := ats }, ty, pos, after, none⟩ :: rest) F H := fun a w ha hw =>
  wpL_plain rfl (fun _ h => by cases h) fun KK hK => by
    obtain ⟨es, c, h1, h2, hbn⟩ := (hw.at hi).here
    have hf := run_findKey (P := P) (K := K) (ve := ve) (m := m) (k := k) (es := es.toList) (w := w) hk h2
    have key : ∀ es' c', es'.toList.map (fun e => (e.key, e.val)) = (AL.del m k).map (fun p => (K.enc p.1, ve p.2)) ∧ Born es'.toList c' → HeapIs w0 (H.set i (mapE K ve B (AL.del m k))) { w with heap := w.heap.setIfInBounds B (.map es' c') } := fun es' c' he => by
      refine hw.change hi ⟨rfl, rfl, rfl⟩ (by simp) (fun b hb => .inl hb) (fun b _ hb => ?_) (fun _ _ ha hA => MapIs.agree ha hA) ⟨es', c', ?_, he⟩
      · show (w.heap.setIfInBounds B _)[b]? = _
        exact Array.getElem?_setIfInBounds_ne (fun e => hb e.symm)
      · have hlt : B < w.heap.size := (hw.at hi).bound B rfl
        show (w.heap.setIfInBounds B _)[B]? = _
        simp [hlt]
    have hset : ∀ o, (setObj B o).run P w = .ok () { w with heap := w.heap.setIfInBounds B o } := fun o => by simp [setObj, Sem.run, h1]
    have hrun : ∃ es' c', (Builtin.delete_ ats ty #[.map (some B), K.enc k]).run P w = .ok (.tuple #[]) { w with heap := w.heap.setIfInBounds B (.map es' c') } ∧ es'.toList.map (fun e => (e.key, e.val)) = (AL.del m k).map (fun p => (K.enc p.1, ve p.2)) ∧ Born es'.toList c' := by
      cases hidx : AL.idx m k 0 with
      | none =>
        rw [hidx] at hf
        refine ⟨es, c, ?_, by rw [del_none k m 0 hidx]; exact h2, hbn⟩
        simp [Builtin.delete_, hat, run_bind, run_underlying hu, run_getMap h1, run_checkKey hk, hf, hset, run_pure]
      | some p =>
        rw [hidx] at hf
        obtain ⟨q, u⟩ := p
        obtain ⟨_, g2, g3⟩ := erase_map K ve k es.toList m 0 h2 q u hidx
        refine ⟨es.eraseIdxIfInBounds q, c, ?_, by simpa using g2, ?_⟩
        · simp [Builtin.delete_, hat, run_bind, run_underlying hu, run_getMap h1, run_checkKey hk, hf, hset, run_pure]
        · refine hbn.sub ?_
          rw [Array.toList_eraseIdxIfInBounds]
          exact List.eraseIdx_sublist _ _
    obtain ⟨es', c', h3, h4⟩ := hrun
    have h5 : (execOp a.eval ⟨none, .call { callee := .builtin .delete, args := #[x, y], argTypes := ats }, ty, pos, after, none⟩).run P w = .ok (.value (.tuple #[])) { w with heap := w.heap.setIfInBounds B (.map es' c') } := by
      simp [execOp, resolve, invoke, builtin, ha.eval hx, ha.eval hy, h3]
    unfold Oper.wp
    rw [h5]
    exact hK _ _ (h _ _ ha (key es' c' h4))
/-! ### Maps of the caller -/
theorem map_below {B : Nat} {w w' : World} (hb : Below w.heap.size w w') (h : MapIs K ve B m w) : MapIs K ve B m w' := by
  obtain ⟨es, c, h1, h2⟩ := h
  have hlt : B < w.heap.size := by
    rcases Nat.lt_or_ge B w.heap.size with h | h
    · exact h
    · rw [Array.getElem?_eq_none h] at h1; cases h1
  exact ⟨es, c, (hb.block B hlt).trans h1, h2⟩
theorem rmap_base {i B : Nat} (hi : H[i]? = some (base w0)) (h : MapIs K ve B m w0) : ∀ w, HeapIs w0 H w → MapIs K ve B m w := fun _ hw => map_below (hw.toBelow hi) h
theorem rmap_own {i B : Nat} (hi : H[i]? = some (mapE K ve B m)) : ∀ w, HeapIs w0 H w → MapIs K ve B m w := fun _ hw => (hw.at hi).here
theorem blk_base {i B : Nat} {o : Obj} (hi : H[i]? = some (base w0)) (h : w0.heap[B]? = some o) : ∀ w, HeapIs w0 H w → w.heap[B]? = some o := fun w hw => by
  have hlt : B < w0.heap.size := by
    rcases Nat.lt_or_ge B w0.heap.size with h2 | h2
    · exact h2
    · rw [Array.getElem?_eq_none h2] at h; cases h
  exact ((hw.toBelow hi).block B hlt).trans h
theorem p_lookup2R {t kt vt : TypeId} {B : Nat} {k : κ} {dflt : ν} (hx : ev F x = some (.map (some B))) (hy : ev F y = some (K.enc k)) (hr : ∀ w, HeapIs w0 H w → MapIs K ve B m w) (hu : P.underlying t = some (.map kt vt)) (hk : P.underlying kt = some K.kd) (hz : zeroV P vt = some (ve dflt)) :
    Pure ds P n w0 ⟨dst, .lookup t x y true, ty, pos, after, guard⟩ F H (.tuple #[ve ((AL.get m k).getD dflt), .bool (AL.get m k).isSome]) := fun a w ha hw => by
  obtain ⟨es, c, h1, h2, _⟩ := hr w hw
  have hf := run_findKey (P := P) (K := K) (ve := ve) (m := m) (k := k) (es := es.toList) (w := w) hk h2
  rw [AL.get_idx m k 0]
  cases hidx : AL.idx m k 0 with
  | none => rw [hidx] at hf; simp [execOp, ha.eval hx, ha.eval hy, Instr.lookup, run_bind, run_underlying hu, run_getMap h1, run_checkKey hk, hf, run_zeroValue hz]
  | some p => rw [hidx] at hf; simp [execOp, ha.eval hx, ha.eval hy, Instr.lookup, run_bind, run_underlying hu, run_getMap h1, run_checkKey hk, hf]
theorem p_lookup1R {t kt vt : TypeId} {B : Nat} {k : κ} {dflt : ν} (hx : ev F x = some (.map (some B))) (hy : ev F y = some (K.enc k)) (hr : ∀ w, HeapIs w0 H w → MapIs K ve B m w) (hu : P.underlying t = some (.map kt vt)) (hk : P.underlying kt = some K.kd) (hz : zeroV P vt = some (ve dflt)) :
    Pure ds P n w0 ⟨dst, .lookup t x y false, ty, pos, after, guard⟩ F H (ve ((AL.get m k).getD dflt)) := fun a w ha hw => by
  obtain ⟨es, c, h1, h2, _⟩ := hr w hw
  have hf := run_findKey (P := P) (K := K) (ve := ve) (m := m) (k := k) (es := es.toList) (w := w) hk h2
  rw [AL.get_idx m k 0]
  cases hidx : AL.idx m k 0 with
  | none => rw [hidx] at hf; simp [execOp, ha.eval hx, ha.eval hy, Instr.lookup, run_bind, run_underlying hu, run_getMap h1, run_checkKey hk, hf, run_zeroValue hz]
  | some p => rw [hidx] at hf; simp [execOp, ha.eval hx, ha.eval hy, Instr.lookup, run_bind, run_underlying hu, run_getMap h1, run_checkKey hk, hf]
theorem p_len_mapR {t kt vt : TypeId} {ats : Array TypeId} {B : Nat} (hx : ev F x = some (.map (some B))) (hr : ∀ w, HeapIs w0 H w → MapIs K ve B m w) (ha' : ats[0]? = some t) (hu : P.underlying t = some (.map kt vt)) :
    Pure ds P n w0 ⟨dst, .call { callee := .builtin .len, args := #[x], argTypes := ats }, ty, pos, after, guard⟩ F H (.int .i64 (m.length : Int)) := fun a w ha hw => by
  obtain ⟨es, c, h1, h2, _⟩ := hr w hw
  have hl : es.size = m.length := by have := congrArg List.length h2; simpa using this
  simp [execOp, resolve, invoke, builtin, Builtin.len_, ha.eval hx, ha', run_bind, run_underlying hu, run_getMap h1, goInt, hl]
/-! ### The iterator -/
/-- What the iterator in block B, over the map in block Bm, has yet to hand out; cur: what it handed out last. -/
structure ItSt (K : KTy κ) (ve : ν → Value) (es : Array MapEntry) (c since c0 : Nat) (seen : Array Nat) (left : List (κ × ν)) (cur : Option (κ × ν)) : Prop where
  old : ∀ e ∈ es.toList, e.born < since
  le : since ≤ c0
  lec : since ≤ c
  rest : (leftOf es seen).toList.map (fun e => (e.key, e.val)) = left.map (fun p => (K.enc p.1, ve p.2))
  last : ∀ p, cur = some p → ∃ (e : MapEntry) (s0 : Array Nat), e ∈ es.toList ∧ seen = s0.push e.born ∧ c0 = c ∧ e.key = K.enc p.1 ∧ e.val = ve p.2
def iterE (K : KTy κ) (ve : ν → Value) (B Bm : Nat) (es : Array MapEntry) (c : Nat) (left : List (κ × ν)) (cur : Option (κ × ν)) : Ent :=
  ⟨fun b => b = B, fun w => ∃ since seen c0, w.heap[B]? = some (.mapIter (some Bm) since seen c0) ∧ ItSt K ve es c since c0 seen left cur⟩
theorem iterE_st {B Bm : Nat} {es : Array MapEntry} {c : Nat} {left : List (κ × ν)} {cur : Option (κ × ν)} : ∀ w1 w2, Agree (fun b => b = B) w1 w2 → (iterE K ve B Bm es c left cur).A w1 → (iterE K ve B Bm es c left cur).A w2 := fun w1 w2 ha ⟨since, seen, c0, h1, h2⟩ => ⟨since, seen, c0, (ha B rfl).trans h1, h2⟩
theorem o_range {t kt vt : TypeId} {Bm : Nat} {es : Array MapEntry} {c : Nat} (hx : ev F x = some (.map (some Bm))) (hb : ∀ w, HeapIs w0 H w → w.heap[Bm]? = some (.map es c)) (hm : es.toList.map (fun e => (e.key, e.val)) = m.map (fun p => (K.enc p.1, ve p.2))) (hn : Born es.toList c) (hu : P.underlying t = some (.map kt vt)) (hd : Nat.blt d n = true)
    (h : ∀ B, SO r ds P n w0 ops Q rest ((d, .pointer (some ⟨B, 0, none⟩)) :: F) (iterE K ve B Bm es c m none :: H)) : SO r ds P n w0 ops Q (⟨some d, .range t x, ty, pos, after, none⟩ :: rest) F H := fun a w ha hw =>
  wpL_plain rfl (fun _ h => by cases h) fun KK hK => by
    have hrun : (execOp a.eval ⟨some d, .range t x, ty, pos, after, none⟩).run P w = .ok (.value (.pointer (some ⟨w.heap.size, 0, none⟩))) (w.alloc (.mapIter (some Bm) c #[] c)) := by
      simp [execOp, ha.eval hx, run_range_map w t kt vt Bm es c hu (hb w hw)]
    unfold Oper.wp
    rw [hrun]
    refine hK _ _ (h w.heap.size _ _ (ha.put hd _) (hw.push _ iterE_st ⟨c, #[], c, by simp, ?_⟩))
    refine ⟨hn.2, Nat.le_refl _, Nat.le_refl _, ?_, fun p hp => by cases hp⟩
    have : leftOf es #[] = es := by unfold leftOf; simp
    rw [this]; exact hm
theorem left_push {es : Array MapEntry} {seen : Array Nat} {left : List (κ × ν)} (hn : (es.toList.map (·.born)).Nodup) (hl : (leftOf es seen).toList.map (fun e => (e.key, e.val)) = left.map (fun p => (K.enc p.1, ve p.2))) {e : MapEntry} (he : e ∈ (leftOf es seen).toList) :
    ∃ p A C, left = A ++ p :: C ∧ e.key = K.enc p.1 ∧ e.val = ve p.2 ∧ (leftOf es (seen.push e.born)).toList.map (fun e => (e.key, e.val)) = (A ++ C).map (fun p => (K.enc p.1, ve p.2)) := by
  have h0 : (leftOf es (seen.push e.born)).toList = (leftOf es seen).toList.filter (fun x => !(x.born == e.born)) := by
    unfold leftOf
    simp only [Array.toList_filter, List.filter_filter]
    congr 1; funext x
    simp only [Array.contains_push, Bool.not_or]
    rw [Bool.and_comm]
  have hsub : ((leftOf es seen).toList.map (·.born)).Nodup := by
    unfold leftOf; rw [Array.toList_filter]
    exact (List.filter_sublist.map _).nodup hn
  rw [h0]
  generalize (leftOf es seen).toList = L at *
  obtain ⟨i, hi, rfl⟩ := List.getElem_of_mem he
  have hlen : L.length = left.length := by have := congrArg List.length hl; simpa using this
  have hi' : i < left.length := by omega
  have hsplit : L = L.take i ++ L[i] :: L.drop (i + 1) := by rw [← List.drop_eq_getElem_cons hi, List.take_append_drop]
  have hfil : L.filter (fun x => !(x.born == L[i].born)) = L.take i ++ L.drop (i + 1) := by
    have hp := List.pairwise_iff_getElem.1 hsub
    have hsp : L.filter (fun x => !(x.born == L[i].born)) = (L.take i).filter (fun x => !(x.born == L[i].born)) ++ (L[i] :: L.drop (i + 1)).filter (fun x => !(x.born == L[i].born)) := by
      rw [← List.filter_append, ← hsplit]
    rw [hsp, List.filter_cons]
    simp only [beq_self_eq_true, Bool.not_true, Bool.false_eq_true, if_false]
    congr 1
    · rw [List.filter_eq_self]; intro y hy
      obtain ⟨j, hj, rfl⟩ := List.getElem_of_mem hy
      rw [List.length_take] at hj
      rw [List.getElem_take]
      have := hp j i (by simp; omega) (by simpa using hi) (by omega)
      simpa using this
    · rw [List.filter_eq_self]; intro y hy
      obtain ⟨j, hj, rfl⟩ := List.getElem_of_mem hy
      rw [List.length_drop] at hj
      rw [List.getElem_drop]
      have := hp i (i + 1 + j) (by simpa using hi) (by simp; omega) (by omega)
      simp only [List.getElem_map] at this
      simpa using fun h => this h.symm
  have hkv : ((L[i]).key, (L[i]).val) = (K.enc (left[i]).1, ve (left[i]).2) := by
    have h1 : (L.map (fun e => (e.key, e.val)))[i]? = (left.map (fun p => (K.enc p.1, ve p.2)))[i]? := by rw [hl]
    simpa [List.getElem?_map, List.getElem?_eq_getElem hi, List.getElem?_eq_getElem hi'] using h1
  refine ⟨left[i], left.take i, left.drop (i + 1), by rw [← List.drop_eq_getElem_cons hi', List.take_append_drop], (Prod.mk.inj hkv).1, (Prod.mk.inj hkv).2, ?_⟩
  rw [hfil, List.map_append, List.map_append, List.map_take, List.map_drop, hl, List.map_take, List.map_drop]
theorem o_next {i B Bm : Nat} {es : Array MapEntry} {c : Nat} {left : List (κ × ν)} {cur : Option (κ × ν)} (hx : ev F x = some (.pointer (some ⟨B, 0, none⟩))) (hi : H[i]? = some (iterE K ve B Bm es c left cur)) (hb : ∀ w, HeapIs w0 H w → w.heap[Bm]? = some (.map es c)) (hn : Born es.toList c) (hd : Nat.blt d n = true)
    (h1 : left = [] → SO r ds P n w0 ops Q rest ((d, .tuple #[.bool false]) :: F) H)
    (h2 : ∀ p A C, left = A ++ p :: C → SO r ds P n w0 ops Q rest ((d, .tuple #[.bool true, K.enc p.1, ve p.2]) :: F) (H.set i (iterE K ve B Bm es c (A ++ C) (some p)))) :
    SO r ds P n w0 ops Q (⟨some d, .next x false, ty, pos, after, none⟩ :: rest) F H := fun a w ha hw =>
  wpL_plain rfl (fun _ h => by cases h) fun KK hK => by
    obtain ⟨since, seen, c0, g1, g2⟩ := (hw.at hi).here
    rcases run_next_at (P := P) w ty B Bm since c0 seen es c g1 (hb w hw) g2.old g2.le with ⟨q1, q2⟩ | ⟨e, he, w1, hw1, q2⟩
    · have hrun : (execOp a.eval ⟨some d, .next x false, ty, pos, after, none⟩).run P w = .ok (.value (.tuple #[.bool false])) w := by
        simp [execOp, ha.eval hx, q2]
      have hl : left = [] := by
        have h3 := congrArg List.length g2.rest
        simp only [List.length_map, Array.length_toList, q1] at h3
        exact List.length_eq_zero_iff.1 h3.symm
      unfold Oper.wp
      rw [hrun]
      exact hK _ _ (h1 hl _ _ (ha.put hd _) hw)
    · have hrun : (execOp a.eval ⟨some d, .next x false, ty, pos, after, none⟩).run P w = .ok (.value (.tuple #[.bool true, e.key, e.val])) (ChangeMaps.setBlock w1 B (.mapIter (some Bm) since (seen.push e.born) c)) := by
        simp [execOp, ha.eval hx, q2]
      obtain ⟨p, A, C, e1, e2, e3, e4⟩ := left_push (K := K) (ve := ve) hn.1 g2.rest he
      unfold Oper.wp
      rw [hrun, e2, e3]
      have hw' : HeapIs w0 H w1 := by rcases hw1 with rfl | rfl; exact hw; exact hw.drew _
      refine hK _ _ (h2 p A C e1 _ _ (ha.put hd _) ?_)
      have hlt : B < w1.heap.size := (hw'.at hi).bound B rfl
      refine hw'.change hi ⟨rfl, rfl, rfl⟩ (by simp [ChangeMaps.setBlock]) (fun b hb => .inl hb) (fun b _ hb => ?_) iterE_st ⟨since, seen.push e.born, c, ?_, g2.old, g2.lec, g2.lec, e4, fun p' hp' => ?_⟩
      · show (w1.heap.setIfInBounds B _)[b]? = _
        exact Array.getElem?_setIfInBounds_ne (fun e => hb e.symm)
      · show (w1.heap.setIfInBounds B _)[B]? = _
        simp [hlt]
      · obtain rfl := Option.some.inj hp'
        exact ⟨e, seen, by unfold leftOf at he; rw [Array.toList_filter] at he; exact (List.mem_filter.1 he).1, rfl, rfl, e2, e3⟩
theorem p_entry {i B Bm : Nat} {es : Array MapEntry} {c : Nat} {left : List (κ × ν)} {p : κ × ν} (hx : ev F x = some (.pointer (some ⟨B, 0, none⟩))) (hi : H[i]? = some (iterE K ve B Bm es c left (some p))) (hb : ∀ w, HeapIs w0 H w → w.heap[Bm]? = some (.map es c)) (hn : Born es.toList c) :
    Pure ds P n w0 ⟨dst, .entry x, ty, pos, after, guard⟩ F H (.tuple #[K.enc p.1, ve p.2]) := fun a w ha hw => by
  obtain ⟨since, seen, c0, g1, g2⟩ := (hw.at hi).here
  obtain ⟨e, s0, he, hs, hc, hk, hv⟩ := g2.last p rfl
  subst hs; subst hc
  rw [← hk, ← hv]
  simp [execOp, ha.eval hx, run_entry_at (P := P) w B Bm since s0 es c0 e g1 (hb w hw) he hn.1]
end
theorem it_fin {φ : Nat → Ent → Prop} {k N : Nat} {e : Ent} (h : φ k e) (hk : k = N) : φ N e := hk ▸ h
end Go.Sx
