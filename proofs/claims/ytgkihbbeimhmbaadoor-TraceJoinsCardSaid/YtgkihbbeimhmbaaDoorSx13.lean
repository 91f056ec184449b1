/- Calls that change what they are handed; append within a slice, and clear behind it. -/
import Derived.Test.YtgkihbbeimhmbaaDoorSx12
namespace Go.Sx
open Go.RowKit

/-- What was there when the call began, but for what it was handed to change. -/
def outer (w0 : World) (pre : List Ent) : Ent := ⟨fun b => b < w0.heap.size ∧ ¬ ∃ e ∈ pre, e.S b, fun w => ∀ b, b < w0.heap.size → (¬ ∃ e ∈ pre, e.S b) → w.heap[b]? = w0.heap[b]?⟩
/-- The call is handed the entries of pre and gives back those of post. -/
def FnX (P : Program) (f : FuncId) (args : List Value) (pre : List Ent) (Pr : World → Prop) (π : Type) (val : π → Value) (post : π → List Ent) : Prop :=
  ∀ w, HeapIs w (outer w pre :: pre) w → Pr w → Calls P f args.toArray w (fun e w' => ∃ p, e = .returned (val p) ∧ HeapIs w (outer w pre :: post p) w')
def EndX (w0 : World) (pre : List Ent) (π : Type) (val : π → Value) (post : π → List Ent) : Ending → World → Prop := fun e w' => ∃ p, e = .returned (val p) ∧ HeapIs w0 (outer w0 pre :: post p) w'

section
variable {α : Type} {P : Program} {n : Nat} {w0 : World} {r : Option Nat} {ds : List Deferred} {Q : Exit → Act → World → Prop} {F F' : List (Nat × Value)} {H H' : List Ent} {ops : Array Oper}
variable {ty : TypeId} {pos : String} {after : Array Edge} {guard : Option (Nat × Bool)} {dst : Option Tmp} {rest : List Oper} {d : Nat} {x y : Operand}
variable {T : Ty α} {tY : TypeId} {a : Option Addr} {cap : Nat} {L : List α} {S : Nat → Prop}

theorem HeapIs.inner {w : World} {pre R : List Ent} (hw : HeapIs w0 (pre ++ R) w) : HeapIs w (outer w pre :: pre) w := by
  refine ⟨⟨rfl, rfl, rfl⟩, Nat.le_refl _, fun e he => ?_, List.pairwise_cons.2 ⟨fun e he b hb hb' => hb.2 ⟨e, he, hb'⟩, hw.apart.sublist (List.sublist_append_left _ _)⟩⟩
  rcases List.mem_cons.1 he with rfl | he
  · exact ⟨fun w1 w2 ha hA b h1 h2 => (ha b ⟨h1, h2⟩).trans (hA b h1 h2), fun b hb => hb.1, fun b _ _ => rfl⟩
  · exact hw.good e (by simp [he])
theorem HeapIs.back {w w' : World} {pre post R : List Ent} (hw : HeapIs w0 (pre ++ R) w) (h : HeapIs w (outer w pre :: post) w') : HeapIs w0 (post ++ R) w' := by
  have ho := h.good (outer w pre) (by simp)
  have hp := List.pairwise_cons.1 h.apart
  have hpr := List.pairwise_append.1 hw.apart
  have far : ∀ e ∈ R, ∀ b, e.S b → b < w.heap.size ∧ ¬ ∃ e ∈ pre, e.S b := fun e he b hb =>
    ⟨(hw.good e (by simp [he])).bound b hb, fun ⟨f, hf, hfb⟩ => hpr.2.2 f hf e he b hfb hb⟩
  refine ⟨⟨h.same.os.trans hw.same.os, h.same.tape.trans hw.same.tape, h.same.output.trans hw.same.output⟩, Nat.le_trans hw.size h.size, fun e he => ?_, List.pairwise_append.2 ⟨hp.2, hpr.2.1, fun f hf e he b hb hb' => hp.1 f hf b (far e he b hb') hb⟩⟩
  rcases List.mem_append.1 he with he | he
  · exact h.good e (by simp [he])
  · have g := hw.good e (by simp [he])
    exact ⟨g.stable, fun b hb => Nat.lt_of_lt_of_le (g.bound b hb) h.size, g.stable w w' (fun b hb => ho.here b (far e he b hb).1 (far e he b hb).2) g.here⟩

theorem o_callX {f : FuncId} {args : Array Operand} {ats : Array TypeId} {vs : List Value} {pre R : List Ent} {Pr : World → Prop} {π : Type} {val : π → Value} {post : π → List Ent} (hv : evs F args.toList = some vs) (hf : FnX P f vs pre Pr π val post) (hP : HasFn P f) (hH : H = pre ++ R) (hpr : ∀ w, HeapIs w0 H w → Pr w) (hn : Nat.blt d n = true)
    (h : ∀ p, SO r ds P n w0 ops Q rest ((d, val p) :: F) (post p ++ R)) :
    SO r ds P n w0 ops Q (⟨some d, .call { callee := .value (.func f), args := args, argTypes := ats }, ty, pos, after, none⟩ :: rest) F H := fun a w ha hw =>
  wpL_plain rfl (fun _ h => by cases h) fun K hK => by
    obtain ⟨fn, c, h1, h2, h3⟩ := hP
    have hpw := hpr w hw
    subst hH
    unfold Oper.wp
    rw [run_call ha hv h1 h2 h3]
    simp only [Oper.upon]
    refine (hf w hw.inner hpw).mono ?_
    rintro e w' ⟨p, rfl, hh⟩
    exact hK _ _ (h p _ _ (ha.put hn _) (hw.back hh))
/-- the same where the result is not kept -/
theorem o_callX' {f : FuncId} {args : Array Operand} {ats : Array TypeId} {vs : List Value} {pre R : List Ent} {Pr : World → Prop} {π : Type} {val : π → Value} {post : π → List Ent} (hv : evs F args.toList = some vs) (hf : FnX P f vs pre Pr π val post) (hP : HasFn P f) (hH : H = pre ++ R) (hpr : ∀ w, HeapIs w0 H w → Pr w)
    (h : ∀ p, SO r ds P n w0 ops Q rest F (post p ++ R)) :
    SO r ds P n w0 ops Q (⟨none, .call { callee := .value (.func f), args := args, argTypes := ats }, ty, pos, after, none⟩ :: rest) F H := fun a w ha hw =>
  wpL_plain rfl (fun _ h => by cases h) fun K hK => by
    obtain ⟨fn, c, h1, h2, h3⟩ := hP
    have hpw := hpr w hw
    subst hH
    unfold Oper.wp
    rw [run_call ha hv h1 h2 h3]
    simp only [Oper.upon]
    refine (hf w hw.inner hpw).mono ?_
    rintro e w' ⟨p, rfl, hh⟩
    exact hK _ _ (h p _ _ ha (hw.back hh))
theorem q_endX {fn : Func} {v : Value} {pre : List Ent} {π : Type} {val : π → Value} {post : π → List Ent} (p : π) (hr : ResT [] P n w0 F H fn v) (hv : v = val p) (hH : ∀ w, HeapIs w0 H w → HeapIs w0 (outer w0 pre :: post p) w) : SQ [] n w0 (bodyPost P fn (EndX w0 pre π val post)) .ret F H := fun a w ha hw =>
  bodyPost_ret (hr a w ha hw) (by simp [ha.defers]) ⟨p, by rw [hv], hH w hw⟩
theorem fnX {f : FuncId} {fn : Func} {c : Code} {args : List Value} {pre : List Ent} {Pr : World → Prop} {π : Type} {val : π → Value} {post : π → List Ent} {nt : Nat} {F0 : List (Nat × Value)} (hf : P.funcs[f]? = some fn) (hb : fn.body = some c) (hn : fn.ntmps = nt) (hle : Nat.ble args.length nt = true) (hF : F0 = (List.range args.length).zip args)
    (h : ∀ w0, Pr w0 → SC none [] P nt w0 (bodyPost P fn (EndX w0 pre π val post)) c F0 (outer w0 pre :: pre)) : FnX P f args pre Pr π val post := fun w hw hp => by
  refine calls_of_wp hf hb ?_
  have e : args.toArray.size = args.length := by simp
  have hle' : args.length ≤ nt := Nat.le_of_ble_eq_true hle
  have ho := ok_begin args (nt - args.length)
  rw [show args.length + (nt - args.length) = nt by omega, ← hF] at ho
  rw [hn, e]
  exact h w hp _ w ho hw
theorem rd_outer {i : Nat} {pre : List Ent} (hi : H[i]? = some (outer w0 pre)) (h : SlR T (outer w0 pre).S w0 a cap L) : ∀ w, HeapIs w0 H w → Rd T w a cap L := fun w hw => by
  have g := hw.at hi
  exact (SlR.agree (w := w0) (w' := w) (fun b hb => g.here b hb.1 hb.2) h).mono fun b hb => Nat.lt_of_lt_of_le hb.1 hw.size

/-! ### append within a slice -/
theorem run_appendIn {t tx e : TypeId} {d' : TypeDesc} {bytes : Nat} {w : World} {b : Option Addr} {cb m : Nat} {M : List α} (hu : P.underlying t = some (.slice e)) (hux : P.underlying tx = some d') (hd : ∀ k, d' ≠ .int k) (he : elemIs P e T.k bytes) (hone : ∀ v ∈ M.flatMap T.enc, one1 v = true)
    (h : SlO T S w a cap L) (hM : Rd T w b cb M) (hroom : L.length + M.length ≤ cap) (hsmall : L.length + M.length ≤ 140737488355328) (type : TypeId) :
    ∃ w', (Builtin.append_ #[t, tx] type #[.slice a L.length cap, .slice b M.length cb]).run P w = .ok (.slice a (L ++ M).length cap) w' ∧ Same w w' ∧ w'.heap.size = w.heap.size ∧
      (∀ c, c < w.heap.size → ¬ S c → w'.heap[c]? = w.heap[c]?) ∧ SlO T S w' a cap (L ++ M) := by
  obtain ⟨i, z, hi, hz, hsz, hby, hzc⟩ := he
  have hsize : sizeIs P e = some T.k := by simp [sizeIs, hi, hsz]
  have hnew := fun (w1 : World) (h1 : Rd T w1 b cb M) => run_firstCells (P := P) h1
  cases a with
  | none =>
    have hc0 : cap = 0 := h.2.2
    have hL : L = [] := List.length_eq_zero_iff.1 (by omega)
    have hM0 : M = [] := List.length_eq_zero_iff.1 (by omega)
    subst hL; subst hM0; subst hc0
    refine ⟨w, ?_, ⟨rfl, rfl, rfl⟩, rfl, fun _ _ _ => rfl, by simpa using h⟩
    have h1 := hnew w hM
    simp at h1
    simp [Builtin.append_, run_underlying hu, run_underlying hux, run_sizeOf hsize, Builtin.lenOf, h1]
  | some x =>
    obtain ⟨g0, g1, gs, gS, ⟨c, ty', gc, gl⟩, grow⟩ := h
    obtain ⟨bb, o, s⟩ := x
    simp only at gs gS gc gl grow
    subst gs
    have gl' : o + cap * T.k ≤ c.size := gl
    have hfl := flat_len M T.enc T.len
    have had : Addr.add ⟨bb, o, none⟩ (L.length * T.k) = ⟨bb, o + L.length * T.k, none⟩ := by unfold Addr.add; split <;> simp_all
    have hle : (L.length + M.length) * T.k ≤ cap * T.k := Nat.mul_le_mul_right _ hroom
    rw [Nat.add_mul] at hle
    obtain ⟨w', c', h1, h2, h3, h4, h5, h6, h7⟩ := run_storeCells (P := P) (b := bb) (o := o + L.length * T.k) (M.flatMap T.enc) 0 w c ty' gc hone (by rw [hfl]; omega)
    refine ⟨w', ?_, h5, by omega, fun k _ hk => h7 k (fun e => hk (e ▸ gS)), ?_⟩
    · have hn := hnew w hM
      simp [Builtin.append_, run_underlying hu, run_underlying hux, run_sizeOf hsize, Builtin.lenOf, hn, hroom, had, h1]
    · refine ⟨by simpa using hroom, by simp; omega, rfl, gS, ⟨c', ty', h2, by show o + cap * T.k ≤ c'.size; omega⟩, fun i hi j hj => ?_⟩
      have hcell : w'.cell? ⟨bb, o + i * T.k + j, none⟩ = c'[o + i * T.k + j]? := by simp [World.cell?, h2]
      rw [hcell, h4]
      simp only [Nat.add_zero, hfl]
      by_cases hiL : i < L.length
      · have : i * T.k + j < L.length * T.k := by
          calc i * T.k + j < i * T.k + T.k := by omega
            _ = (i + 1) * T.k := by rw [Nat.add_mul]; omega
            _ ≤ L.length * T.k := Nat.mul_le_mul_right _ hiL
        rw [if_neg (by omega), List.getElem_append_left hiL]
        have := grow i hiL j hj
        simpa [World.cell?, gc] using this
      · simp only [List.length_append] at hi
        have hiM : i - L.length < M.length := by omega
        have e1 : i * T.k = L.length * T.k + (i - L.length) * T.k := by rw [← Nat.add_mul]; congr 1; omega
        have e2 : (i - L.length) * T.k + j < M.length * T.k := by
          calc (i - L.length) * T.k + j < (i - L.length) * T.k + T.k := by omega
            _ = (i - L.length + 1) * T.k := by rw [Nat.add_mul]; omega
            _ ≤ M.length * T.k := Nat.mul_le_mul_right _ hiM
        rw [if_pos (by omega), List.getElem_append_right (by omega), show o + i * T.k + j - (o + L.length * T.k) = (i - L.length) * T.k + j by omega]
        exact flat_get T.enc T.len M (i - L.length) j hiM hj
/-- append(s[:m], x...) into s's own room -/
theorem o_appendIn {t tx e : TypeId} {d' : TypeDesc} {bytes i m : Nat} {b : Option Addr} {cb : Nat} {M : List α} (hx : ev F x = some (.slice a (L.take m).length cap)) (hy : ev F y = some (.slice b M.length cb)) (hi : H[i]? = some (own T S a cap L)) (hm : m ≤ L.length) (hM : ∀ w, HeapIs w0 H w → Rd T w b cb M)
    (hu : P.underlying t = some (.slice e)) (hux : P.underlying tx = some d') (hd : ∀ k, d' ≠ .int k) (he : elemIs P e T.k bytes) (hone : ∀ z : α, ∀ v ∈ T.enc z, one1 v = true) (hroom : m + M.length ≤ L.length) (hn : Nat.blt d n = true)
    (h : SO r ds P n w0 ops Q rest ((d, .slice a (L.take m ++ M).length cap) :: F) (H.set i (own T S a cap (L.take m ++ M)))) :
    SO r ds P n w0 ops Q (⟨some d, .call { callee := .builtin .append, args := #[x, y], argTypes := #[t, tx] }, ty, pos, after, none⟩ :: rest) F H := fun c w hc hw =>
  wpL_plain rfl (fun _ h => by cases h) fun K hK => by
    have g : SlO T S w a cap L := (hw.at hi).here
    have hle := g.1
    obtain ⟨w', h1, h2, h3, h4, h5⟩ := run_appendIn (P := P) (m := m) hu hux hd he (fun v hv => by obtain ⟨z, _, hz⟩ := List.mem_flatMap.1 hv; exact hone z v hz) (g.shrink hm (by omega) (Nat.le_refl _)) (hM w hw) (by simp; omega) (by have := g.2.1; simp; omega) ty
    have hrun : (execOp c.eval ⟨some d, .call { callee := .builtin .append, args := #[x, y], argTypes := #[t, tx] }, ty, pos, after, none⟩).run P w = .ok (.value (.slice a (L.take m ++ M).length cap)) w' := by
      simp only [execOp, resolve, run_bind, run_pure, invoke, builtin, List.map_toArray, List.map_cons, List.map_nil, hc.eval hx, hc.eval hy]
      rw [h1]
    unfold Oper.wp
    rw [hrun]
    exact hK _ _ (h _ _ (hc.put hn _) (hw.change hi h2 (by omega) (fun b hb => .inl hb) h4 (fun w1 w2 ha hA => SlO.agree (T := T) (S := S) (a := a) (cap := cap) (L := L.take m ++ M) ha hA) h5))
/-- clear(s[len(s):old]): nothing that is read is changed -/
theorem o_clearTail {t e : TypeId} {i m k : Nat} {zs : List Value} {ats : Array TypeId} (hx : ev F x = some (.slice (sa a cap L.length T.k) m k)) (hi : H[i]? = some (own T S a cap L)) (hat : ats[0]? = some t) (hu : P.underlying t = some (.slice e)) (hz : zeroOf P e = some zs) (hzl : zs.length = T.k) (hz1 : zs.all one1 = true) (hm : L.length + m ≤ cap)
    (h : SO r ds P n w0 ops Q rest F H) : SO r ds P n w0 ops Q (⟨none, .call { callee := .builtin .clear, args := #[x], argTypes := ats }, ty, pos, after, none⟩ :: rest) F H := fun c w hc hw =>
  wpL_plain rfl (fun _ h => by cases h) fun K hK => by
    have g : SlO T S w a cap L := (hw.at hi).here
    have key : ∃ w', (Builtin.clear_ ats ty #[.slice (sa a cap L.length T.k) m k]).run P w = .ok (.tuple #[]) w' ∧ HeapIs w0 H w' := by
      by_cases h0 : m = 0
      · subst h0
        refine ⟨w, ?_, hw⟩
        cases hsa : sa a cap L.length T.k <;> simp [Builtin.clear_, hat, run_underlying hu]
      · cases a with
        | none => have : cap = 0 := g.2.2; omega
        | some x =>
          obtain ⟨g0, g1, gs, gS, ⟨c', ty', gc, gl⟩, grow⟩ := g
          obtain ⟨bb, o, s⟩ := x
          simp only at gs gS gc gl grow
          subst gs
          have had : Addr.add ⟨bb, o, none⟩ (L.length * T.k) = ⟨bb, o + L.length * T.k, none⟩ := by unfold Addr.add; split <;> simp_all
          have hsa : sa (some ⟨bb, o, none⟩) cap L.length T.k = some ⟨bb, o + L.length * T.k, none⟩ := by
            unfold sa; rw [if_neg (by omega), Option.map_some, had]
          have hle : (L.length + m) * T.k ≤ cap * T.k := Nat.mul_le_mul_right _ hm
          rw [Nat.add_mul] at hle
          obtain ⟨ti, hti, hz2⟩ := Option.map_eq_some_iff.1 hz
          obtain ⟨ti', hti', hz3⟩ := Option.bind_eq_some_iff.1 hti
          have hzr : (zeroValue e).run P w = .ok ti w := by simp [zeroValue, run_typeInfo hti', hz3]
          have hzs : ti.cells.size = T.k := by rw [← hzl, ← hz2]; simp
          have hzcl : (Builtin.zeroCells ti.cells m).toList.length = m * T.k := by simp [Builtin.zeroCells, hzs]
          have hall : ∀ v ∈ (Builtin.zeroCells ti.cells m).toList, one1 v = true := fun v hv => by
            simp only [Builtin.zeroCells, Array.toList_map, List.mem_map, Array.mem_toList_iff, Array.mem_range] at hv
            obtain ⟨q, hq, rfl⟩ := hv
            have hk : 0 < T.k := by
              rcases Nat.eq_zero_or_pos T.k with h | h
              · rw [hzs, h] at hq; simp at hq
              · exact h
            have hlt : q % ti.cells.size < ti.cells.size := Nat.mod_lt _ (by omega)
            rw [getElem!_pos ti.cells _ hlt]
            refine List.all_eq_true.1 hz1 _ ?_
            rw [← hz2]; simp
          obtain ⟨w', c2, h1, h2, h3, h4, h5, h6, h7⟩ := run_storeCells (P := P) (b := bb) (o := o + L.length * T.k) (Builtin.zeroCells ti.cells m).toList 0 w c' ty' gc hall (by rw [hzcl]; have gl2 : o + cap * T.k ≤ c'.size := gl; omega)
          refine ⟨w', ?_, ?_⟩
          · rw [hsa]
            obtain ⟨m', rfl⟩ : ∃ m', m = m' + 1 := ⟨m - 1, by omega⟩
            simp [Builtin.clear_, hat, run_underlying hu, hzr, h1]
          · have hset : H.set i (own T S (some ⟨bb, o, none⟩) cap L) = H := by
              obtain ⟨hlt, he⟩ := List.getElem?_eq_some_iff.1 hi
              rw [← he]; simp
            rw [← hset]
            refine hw.change hi h5 (by omega) (fun b hb => .inl hb) (fun q _ hq => h7 q (fun e => hq (e ▸ gS))) (fun w1 w2 ha hA => SlO.agree (T := T) (S := S) (a := some ⟨bb, o, none⟩) (cap := cap) (L := L) ha hA) ?_
            refine ⟨g0, g1, rfl, gS, ⟨c2, ty', h2, by show o + cap * T.k ≤ c2.size; rw [h3]; exact gl⟩, fun q hq j hj => ?_⟩
            have hcell : w'.cell? ⟨bb, o + q * T.k + j, none⟩ = c2[o + q * T.k + j]? := by simp [World.cell?, h2]
            have : q * T.k + j < L.length * T.k := by
              calc q * T.k + j < q * T.k + T.k := by omega
                _ = (q + 1) * T.k := by rw [Nat.add_mul]; omega
                _ ≤ L.length * T.k := Nat.mul_le_mul_right _ hq
            rw [hcell, h4, if_neg (by omega)]
            have := grow q hq j hj
            simpa [World.cell?, gc] using this
    obtain ⟨w', h1, h2⟩ := key
    have hrun : (execOp c.eval ⟨none, .call { callee := .builtin .clear, args := #[x], argTypes := ats }, ty, pos, after, none⟩).run P w = .ok (.value (.tuple #[])) w' := by
      simp only [execOp, resolve, run_bind, run_pure, invoke, builtin, List.map_toArray, List.map_cons, List.map_nil, hc.eval hx]
      rw [h1]
    unfold Oper.wp
    rw [hrun]
    exact hK _ _ (h _ _ hc h2)
end
end Go.Sx
