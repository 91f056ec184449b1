/- More rules: copy, append of zeros, cap, whether two slices overlap (what slices.Insert asks). -/
import Derived.Test.YtfncgfcehkalnaaGreatSx1M16
import Derived.Lib.Overlaps
import Derived.Laws.Externs
import Derived.OrdersIn
import Derived.JoinedCond
import Derived.Deep.CondSized
import Derived.Maps.RangeRun
namespace Go.Sx
open Go.RowKit
section
variable {α : Type} {P : Program} {n : Nat} {w0 : World} {r : Option Nat} {ds : List Deferred} {Q : Exit → Act → World → Prop} {F F' : List (Nat × Value)} {H H' : List Ent} {ops : Array Oper}
variable {ty : TypeId} {pos : String} {after : Array Edge} {guard : Option (Nat × Bool)} {dst : Option Tmp} {rest : List Oper} {d : Nat} {x y : Operand}
variable {T : Ty α} {a : Option Addr} {cap : Nat} {L : List α} {S : Nat → Prop}
theorem p_slice0 {t e : TypeId} {len hi k : Nat} {hv : Int} (hx : ev F x = some (.slice a len cap)) (hy : ev F y = some (.int .i64 hv)) (hu : P.underlying t = some (.slice e)) (hs : sizeIs P e = some k) (h1 : hv = (hi : Int)) (h2 : hi ≤ cap) :
    Pure ds P n w0 ⟨dst, .slice t x none (some y) none, ty, pos, after, guard⟩ F H (.slice a hi cap) := fun b' w' hb' hw' => by
  subst h1
  have := p_slice (P := P) (n := n) (w0 := w0) (ds := ds) (H := H) (dst := dst) (ty := ty) (pos := pos) (after := after) (guard := guard) (l := 0) (hi := hi) (m := cap) (lv := none) (hv := some (.int .i64 (hi : Int))) (mv := none) (lo := none) (h_ := some y) (mx := none) (k' := hi) hx rfl (by simp [hy]) rfl hu hs (.inl ⟨rfl, rfl⟩) (.inr ⟨.i64, rfl⟩) (.inl ⟨rfl, rfl⟩) (fun h => by cases h) (Nat.zero_le _) h2 (Nat.le_refl _) (by simp)
  rw [sa_zero] at this
  exact this b' w' hb' hw'
theorem p_sliceLE {t e : TypeId} {k : IntKind} {l : Int} {j m : Nat} (hx : ev F x = some (.slice a m cap)) (hy : ev F y = some (.int k l)) (hj : H[j]? = some (ownE T S a cap m)) (hu : P.underlying t = some (.slice e)) (hs : sizeIs P e = some T.k) (h0 : 0 ≤ l) (h1 : l ≤ (m : Int)) :
    Pure ds P n w0 ⟨dst, .slice t x (some y) none none, ty, pos, after, guard⟩ F H (.slice (sa a cap l.toNat T.k) (m - l.toNat) (cap - l.toNat)) := fun b' w' hb' hw' => by
  obtain ⟨L', h2, h3⟩ := (hw'.at hj).here
  have hc : m ≤ cap := by have := h3.1; omega
  have hh : l = (l.toNat : Int) := by omega
  exact p_slice (P := P) (n := n) (w0 := w0) (ds := ds) (H := H) (l := l.toNat) (hi := m) (m := cap) (lv := some (.int k l)) (hv := none) (mv := none) hx (by simp [hy]) rfl rfl hu hs (.inr ⟨k, by rw [← hh]⟩) (.inl ⟨rfl, rfl⟩) (.inl ⟨rfl, rfl⟩) (fun _ => rfl) (by omega) hc (Nat.le_refl _) rfl b' w' hb' hw'
theorem p_indexAddrS {t e : TypeId} {k : IntKind} {i : Int} {j m : Nat} {L' : List α} (hx : ev F x = some (.slice a m cap)) (hy : ev F y = some (.int k i)) (hj : H[j]? = some (own T S a cap L')) (hm : L'.length = m) (hu : P.underlying t = some (.slice e)) (hs : sizeIs P e = some T.k)
    (h0 : 0 ≤ i) (h1 : i < (m : Int)) : Pure ds P n w0 ⟨dst, .indexAddr t x y, ty, pos, after, guard⟩ F H (.pointer (some (ea a (i.toNat * T.k)))) := fun b w hb hw => by
  have h3 : SlO T S w a cap L' := (hw.at hj).here
  obtain ⟨z, rfl, hz⟩ := (SlO.toR h3).nonnil (by omega)
  simp [execOp, hb.eval hx, hb.eval hy, Instr.indexAt, asIntOf, run_underlying hu, run_sizeOf hs, h0, h1, ea]
theorem p_cap_slice {t e : TypeId} {len : Nat} {ats : Array TypeId} (hx : ev F x = some (.slice a len cap)) (hat : ats[0]? = some t) (hu : P.underlying t = some (.slice e)) : Pure ds P n w0 ⟨dst, .call { callee := .builtin .cap, args := #[x], argTypes := ats }, ty, pos, after, guard⟩ F H (.int .i64 (cap : Int)) := fun b w hb _ => by
  simp [execOp, resolve, invoke, builtin, Builtin.cap_, hb.eval hx, hat, run_underlying hu, goInt]
theorem HeapIs.putAt {w : World} {i lo : Nat} {M : List α} (h : HeapIs w0 H w) (hi : H[i]? = some (own T S a cap L)) (hc0 : 0 < cap) (hlo : lo ≤ L.length) (hcap : lo + M.length ≤ cap) (hsm : lo + M.length ≤ 140737488355328) (hone : ∀ v ∈ M.flatMap T.enc, one1 v = true) :
    ∃ x w', a = some x ∧ (storeCells (x.add (lo * T.k)) (M.flatMap T.enc) 0).run P w = .ok () w' ∧ HeapIs w0 (H.set i (own T S a cap (L.take lo ++ M ++ L.drop (lo + M.length)))) w' := by
  have g : SlO T S w a cap L := (h.at hi).here
  obtain ⟨g1, g2, g3⟩ := g
  cases a with
  | none => have : cap = 0 := g3; omega
  | some p =>
    obtain ⟨gs, gS, ⟨c, ty, gh, gl⟩, gr⟩ := g3
    obtain ⟨b, o, s⟩ := p
    simp only at gs gS gh gl gr
    subst gs
    have had : Addr.add ⟨b, o, none⟩ (lo * T.k) = ⟨b, o + lo * T.k, none⟩ := by unfold Addr.add; split <;> simp_all
    have hfl := flat_len M T.enc T.len
    have hb1 : lo * T.k + M.length * T.k ≤ cap * T.k := by rw [← Nat.add_mul]; exact Nat.mul_le_mul_right _ hcap
    have gl' : o + cap * T.k ≤ c.size := gl
    obtain ⟨w', c', h1, h2, h3, h4, h5, h6, h7⟩ := run_storeCells (P := P) (b := b) (o := o + lo * T.k) (M.flatMap T.enc) 0 w c ty gh hone (by rw [hfl]; omega)
    refine ⟨⟨b, o, none⟩, w', rfl, by rw [had]; exact h1, h.change hi h5 (by omega) (fun b hb => .inl hb) (fun k _ hk => h7 k (fun e => hk (e ▸ gS))) (fun w1 w2 ha hA => SlO.agree (T := T) (S := S) (a := some ⟨b, o, none⟩) (cap := cap) (L := L.take lo ++ M ++ L.drop (lo + M.length)) ha hA) ?_⟩
    have hlen : (L.take lo ++ M ++ L.drop (lo + M.length)).length ≤ cap ∧ (L.take lo ++ M ++ L.drop (lo + M.length)).length ≤ 140737488355328 := by
      simp only [List.length_append, List.length_take, List.length_drop]; omega
    refine ⟨hlen.1, hlen.2, rfl, gS, ⟨c', ty, h2, by show o + cap * T.k ≤ c'.size; omega⟩, fun m hm q hq => ?_⟩
    have hcell : w'.cell? ⟨b, o + m * T.k + q, none⟩ = c'[o + m * T.k + q]? := by simp [World.cell?, h2]
    rw [hcell, h4]
    simp only [Nat.add_zero, hfl]
    have hold : ∀ (m' : Nat) (hm' : m' < L.length), c[o + m' * T.k + q]? = (T.enc L[m'])[q]? := fun m' hm' => by
      have := gr m' hm' q hq
      simpa [World.cell?, gh] using this
    have hm2 : m < (L.take lo).length + M.length + (L.drop (lo + M.length)).length := by simpa [Nat.add_assoc] using hm
    have htl : (L.take lo).length = lo := by simp; omega
    rcases Nat.lt_or_ge m lo with hlt | hge
    · have : m * T.k + T.k ≤ lo * T.k := by
        calc m * T.k + T.k = (m + 1) * T.k := by rw [Nat.add_mul]; omega
          _ ≤ lo * T.k := Nat.mul_le_mul_right _ hlt
      rw [if_neg (by omega), hold m (by omega)]
      rw [List.getElem_append_left (by simp; omega), List.getElem_append_left (by omega), List.getElem_take]
    · rcases Nat.lt_or_ge m (lo + M.length) with hlt2 | hge2
      · have e1 : m * T.k = lo * T.k + (m - lo) * T.k := by rw [← Nat.add_mul]; congr 1; omega
        have e2 : (m - lo) * T.k + q < M.length * T.k := by
          calc (m - lo) * T.k + q < (m - lo) * T.k + T.k := by omega
            _ = (m - lo + 1) * T.k := by rw [Nat.add_mul]; omega
            _ ≤ M.length * T.k := Nat.mul_le_mul_right _ (by omega)
        rw [if_pos (by omega), show o + m * T.k + q - (o + lo * T.k) = (m - lo) * T.k + q by omega, flat_get T.enc T.len M (m - lo) q (by omega) hq]
        rw [List.getElem_append_left (by simp; omega), List.getElem_append_right (by omega)]
        simp only [htl]
      · have e1 : (lo + M.length) * T.k ≤ m * T.k := Nat.mul_le_mul_right _ hge2
        rw [Nat.add_mul] at e1
        simp only [List.length_drop, htl] at hm2
        rw [if_neg (by omega), hold m (by omega)]
        rw [List.getElem_append_right (by simp; omega), List.getElem_drop]
        have e3 : (L.take lo ++ M).length = lo + M.length := by rw [List.length_append, htl]
        have e4 : lo + M.length + (m - (L.take lo ++ M).length) = m := by rw [e3]; omega
        simp only [e4]
theorem firstCells_len {k m : Nat} {b : Option Addr} {l1 c1 l2 c2 : Nat} : Builtin.firstCells k m (.slice b l1 c1) = Builtin.firstCells k m (.slice b l2 c2) := by cases b <;> rfl
theorem o_copy {t tx e : TypeId} {i lo dl dc sl cb m : Nat} {b : Option Addr} {cM : Nat} {M : List α} (hx : ev F x = some (.slice (sa a cap lo T.k) dl dc)) (hy : ev F y = some (.slice b sl cb)) (hi : H[i]? = some (own T S a cap L)) (hM : ∀ w, HeapIs w0 H w → Rd T w b cM M)
    (hm : min sl dl = M.length) (hu : P.underlying t = some (.slice e)) (hs : sizeIs P e = some T.k) (hone : ∀ z : α, ∀ v ∈ T.enc z, one1 v = true) (hc : 0 < cap ∧ lo < cap ∧ lo ≤ L.length ∧ lo + M.length ≤ cap ∧ lo + M.length ≤ 140737488355328) (hn : Nat.blt d n = true)
    (hmm : M.length = m) (hF : Sub ((d, .int .i64 (m : Int)) :: F) F') (h : SO r ds P n w0 ops Q rest F' (H.set i (own T S a cap (L.take lo ++ M ++ L.drop (lo + M.length))))) :
    SO r ds P n w0 ops Q (⟨some d, .call { callee := .builtin .copy, args := #[x, y], argTypes := #[t, tx] }, ty, pos, after, none⟩ :: rest) F H := fun c w hc' hw =>
  wpL_plain rfl (fun _ h => by cases h) fun K hK => by
    subst hmm
    replace hm : Nat.min sl dl = M.length := hm
    obtain ⟨p, w', rfl, h1, h2⟩ := hw.putAt (P := P) (M := M) hi hc.1 hc.2.2.1 hc.2.2.2.1 hc.2.2.2.2 (fun v hv => by obtain ⟨z, _, hz⟩ := List.mem_flatMap.1 hv; exact hone z v hz)
    have hsa : sa (some p) cap lo T.k = some (p.add (lo * T.k)) := by unfold sa; rw [if_neg (by omega)]; rfl
    have hcells : (Builtin.firstCells T.k M.length (.slice b sl cb)).run P w = .ok (M.flatMap T.enc).toArray w := by
      rw [firstCells_len (l2 := M.length) (c2 := cM)]; exact run_firstCells (hM w hw)
    have hrun : (execOp c.eval ⟨some d, .call { callee := .builtin .copy, args := #[x, y], argTypes := #[t, tx] }, ty, pos, after, none⟩).run P w = .ok (.value (.int .i64 (M.length : Int))) w' := by
      simp only [execOp, resolve, run_bind, run_pure, invoke, builtin, List.map_toArray, List.map_cons, List.map_nil, hc'.eval hx, hc'.eval hy, hsa]
      simp [Builtin.copy_, run_underlying hu, run_sizeOf hs, Builtin.lenOf, hm, hcells, h1, goInt]
    unfold Oper.wp
    rw [hrun]
    exact hK _ _ (h _ _ ((hc'.put hn _).sub hF) h2)
theorem o_appendZ {t tn e : TypeId} {kk : IntKind} {bytes i m k : Nat} {kz : Int} {z : α} {zs : List Value} (hx : ev F x = some (.slice a (L.take m).length cap)) (hy : ev F y = some (.int .i64 kz)) (hi : H[i]? = some (own T S a cap L)) (hkz : kz = (k : Int))
    (hu : P.underlying t = some (.slice e)) (hun : P.underlying tn = some (.int kk)) (he : elemIs P e T.k bytes) (hz : zeroOf P e = some zs) (hzs : T.enc z = zs) (hk : 0 < T.k) (hm : m ≤ L.length ∧ cap < m + k ∧ m + k ≤ 1000001 ∧ bytes ≤ 1000) (hn : Nat.blt d n = true)
    (h : ∀ a' cap' S', SO r ds P n w0 ops Q rest ((d, .slice a' (L.take m ++ List.replicate k z).length cap') :: F) (own T S' a' cap' (L.take m ++ List.replicate k z) :: H)) :
    SO r ds P n w0 ops Q (⟨some d, .call { callee := .builtin .append, args := #[x, y], argTypes := #[t, tn] }, ty, pos, after, none⟩ :: rest) F H := fun c w hc hw =>
  wpL_plain rfl (fun _ h => by cases h) fun K hK => by
    have g : SlO T S w a cap L := (hw.at hi).here
    obtain ⟨i0, z0, hi0, hz0, hsz, hby, hzc⟩ := he
    have hsize : sizeIs P e = some T.k := by simp [sizeIs, hi0, hsz]
    have hlm : (L.take m).length = m := by simp; omega
    have hz1 : z0.cells.toList = T.enc z := by
      unfold zeroOf at hz
      rw [hi0] at hz
      simp only [Option.bind_some, hz0, Option.map_some, Option.some.injEq] at hz
      rw [hzs, hz]
    have hlt : cap < m + k := hm.2.1
    have hcap := nextcap_le hlt
    have hbig : ¬ (Builtin.nextslicecap (m + k) cap * i0.bytes > 2 ^ 48) := by
      rw [hby]
      have h1 : Builtin.nextslicecap (m + k) cap * bytes ≤ (m + k + (m + k) / 4 + 1200) * 1000 := Nat.mul_le_mul hcap hm.2.2.2
      have : (2 : Nat) ^ 48 = 281474976710656 := by decide
      omega
    let q : Question := .appendCap (m + k) cap e
    let nc := q.cut (w.tape w.drawn q)
    have hnc : m + k ≤ nc := by show _ ≤ _ + _; omega
    let w1 : World := { w with drawn := w.drawn + 1 }
    have hRL : Rd T w a cap (L.take m) := (SlO.toR (g.shrink (m := cap) hm.1 (by have := g.1; omega) (Nat.le_refl _))).mono (hw.at hi).bound
    have f1 : (Builtin.firstCells T.k m (.slice a m cap)).run P w1 = .ok ((L.take m).flatMap T.enc).toArray w1 := by
      have := run_firstCells (P := P) (SlR.agree (w' := w1) (fun _ _ => rfl) hRL)
      rw [hlm] at this; exact this
    have hzv : (zeroValue e).run P w1 = .ok z0 w1 := by simp [zeroValue, run_typeInfo hi0, hz0]
    have hroomq : ∀ (m : Nat) (w2 : World), (askRoom m).run P w2 = .ok () w2 := by intro m w2; unfold askRoom; split <;> rfl
    have hch : (choose (.appendCap (m + k) cap e)).run P w = .ok nc w1 := rfl
    let cells := ((L.take m).flatMap T.enc).toArray ++ Builtin.zeroCells z0.cells k ++ Builtin.zeroCells z0.cells (nc - (m + k))
    have hwrap : IntKind.i64.wrap (k : Int) = (k : Int) := wrap_i64 (by omega)
    have hne : ¬ (k * T.k = 0) ∨ k = 0 := by rcases Nat.eq_zero_or_pos k with h | h; exact .inr h; exact .inl (by have := Nat.mul_pos h hk; omega)
    have happ : (if k * T.k = 0 then (pure #[] : Sem (Array Value)) else do pure (Builtin.zeroCells (← zeroValue e).cells k)).run P w1 = .ok (Builtin.zeroCells z0.cells k) w1 := by
      rcases hne with hne | h0
      · rw [if_neg hne]; simp [hzv]
      · subst h0; simp [Builtin.zeroCells]
    have hlb : ¬ ((k : Int) * (i0.bytes : Int) > 2 ^ 48) := by
      rw [hby]
      have h1 : k * bytes ≤ 1000001 * 1000 := Nat.mul_le_mul (by omega) hm.2.2.2
      have h2 : ((k * bytes : Nat) : Int) = (k : Int) * (bytes : Int) := by simp
      have : (2 : Int) ^ 48 = 281474976710656 := by decide
      omega
    have hai : ∀ w, (asIntOf (Value.int IntKind.i64 (k : Int))).run P w = .ok (IntKind.i64, (k : Int)) w := fun _ => rfl
    have hrun : (execOp c.eval ⟨some d, .call { callee := .builtin .append, args := #[x, y], argTypes := #[t, tn] }, ty, pos, after, none⟩).run P w = .ok (.value (.slice (some ⟨w.heap.size, 0, none⟩) (m + k) nc)) { w1 with heap := w1.heap.push (.cells cells e) } := by
      simp only [execOp, resolve, run_bind, run_pure, invoke, builtin, List.map_toArray, List.map_cons, List.map_nil, hc.eval hx, hc.eval hy, hlm, hkz]
      unfold Builtin.append_
      simp only [List.getElem?_toArray, List.getElem?_cons_zero, List.getElem?_cons_succ, run_bind, run_underlying hu, run_underlying hun, run_sizeOf hsize, run_pure, asInt, hai, if_true, hwrap]
      rw [if_neg (by omega)]
      simp only [run_bind, run_typeInfo hi0, run_pure, if_neg hlb, Int.toNat_natCast, if_neg (show ¬ m + k ≤ cap by omega), true_or, and_true]
      rw [if_neg (by have : IntKind.i64.max = 9223372036854775807 := rfl; omega)]
      simp only [run_bind, run_typeInfo hi0, run_pure, if_neg hbig]
      simp only [run_bind, run_pure, hch, hroomq, f1, Bool.not_true, Bool.false_eq_true, if_false, happ, hzv, newRow, newObj, Sem.run]
      rfl
    unfold Oper.wp
    rw [hrun]
    have e2 : (L.take m ++ List.replicate k z).length = m + k := by simp; omega
    have hko := h (some ⟨w.heap.size, 0, none⟩) nc (fun c => c = w.heap.size)
    rw [e2] at hko
    have hw1 : HeapIs w0 H w1 := hw.drew _
    refine hK _ _ (hko _ _ (hc.put hn _) (hw1.push _ (fun w1 w2 ha hA => SlO.agree ha hA) ?_))
    refine SlO.fresh (e := e) (cs := cells.toList) (by simp [w1]) (Builtin.zeroCells z0.cells (nc - (m + k))).toList ?_ (by rw [e2]; exact hnc) ?_ (by rw [e2]; omega)
    · simp only [cells, Array.toList_append, List.flatMap_append, List.append_assoc]
      congr 2
      have hzf := zeros_flat (zc := z0.cells) (by rw [hz1]) hk k
      unfold Builtin.zeroCells; rw [hzc] at hzf ⊢; exact hzf
    · simp only [cells, Array.toList_append, List.length_append, Array.length_toList, flat_len (L.take m) T.enc T.len, Builtin.zeroCells, Array.size_map, Array.size_range, hzc, hlm, List.size_toArray]
      rw [← Nat.add_mul, ← Nat.add_mul]
      exact Nat.mul_le_mul_right _ (by omega)
theorem p_overlaps {f : FuncId} {fn : Func} {tS tR e : TypeId} {ats : Array TypeId} {i j lo lb cb : Nat} {M : List α} {b2 : Option Addr} {S2 : Nat → Prop} {cap2 : Nat} (hf : P.funcs[f]? = some fn) (hname : (fn.name == "runtime.NumGoroutine") = false) (hb : fn.body.isNone = true) (hnx : Extern.findNext fn = none) (he : Extern.find fn = some (Extern.SlicesOverlaps.overlaps #[tS, tS] #[tR]))
    (hx : ev F x = some (.slice b2 M.length cap2)) (hy : ev F y = some (.slice (sa a cap lo T.k) lb cb)) (hi : H[i]? = some (own T S a cap L)) (hj : H[j]? = some (own T S2 b2 cap2 M)) (hij : i ≠ j) (hu : P.underlying tS = some (.slice e)) (hs : sizeIs P e = some T.k) (hL : 0 < L.length) (hM : 0 < M.length) (hk : 0 < T.k) :
    Pure ds P n w0 ⟨dst, .call { callee := .value (.func f), args := #[x, y], argTypes := ats }, ty, pos, after, guard⟩ F H (.bool false) := fun c w hc hw => by
  have g1 := (hw.at hi).here
  have g2 := (hw.at hj).here
  have hap := List.pairwise_iff_getElem.1 hw.apart
  obtain ⟨l1, q1⟩ := List.getElem?_eq_some_iff.1 hi
  obtain ⟨l2, q2⟩ := List.getElem?_eq_some_iff.1 hj
  have hdis : ∀ b, S b → S2 b → False := fun b h1 h2 => by
    rcases Nat.lt_or_gt_of_ne hij with hl | hl
    · exact hap _ _ l1 l2 hl b (by rw [q1]; exact h1) (by rw [q2]; exact h2)
    · exact hap _ _ l2 l1 hl b (by rw [q2]; exact h2) (by rw [q1]; exact h1)
  obtain ⟨p1, p2, p3⟩ := g1
  obtain ⟨r1, r2, r3⟩ := g2
  cases a with
  | none => have : cap = 0 := p3; omega
  | some A =>
    cases b2 with
    | none => have : cap2 = 0 := r3; omega
    | some B =>
      obtain ⟨s1, s2, ⟨cA, tA, s3, s4⟩, _⟩ := p3
      obtain ⟨t1, t2, ⟨cB, tB, t3, t4⟩, _⟩ := r3
      obtain ⟨ab, ao, asp⟩ := A
      obtain ⟨bb, bo, bs⟩ := B
      simp only at s1 s2 s3 s4 t1 t2 t3 t4
      subst s1; subst t1
      have hne : bb ≠ ab := fun e => hdis ab s2 (e ▸ t2)
      obtain ⟨A', hA', hAb⟩ : ∃ A' : Addr, sa (some ⟨ab, ao, none⟩) cap lo T.k = some A' ∧ A'.block = ab := by
        unfold sa; split
        · exact ⟨_, rfl, rfl⟩
        · refine ⟨_, rfl, ?_⟩; unfold Addr.add; split <;> rfl
      have hsz : ∀ w, (Go.sizeOf e).run P w = .ok T.k w := fun w => run_sizeOf hs w
      have hcs : cA.size ≠ 0 := by
        have : T.k ≤ cap * T.k := Nat.le_mul_of_pos_left _ (by omega)
        omega
      have hov := Lib.run_overlaps_apart w tS tR e hu T.k hsz ⟨bb, bo, none⟩ A' M.length cap2 lb cb (by rw [hAb]; exact hne) tB tA cB.size cA.size (by simp [World.shape?, t3]) (by rw [hAb]; simp [World.shape?, s3]) hcs (by simp [World.frozen?, t3]) (by simp [World.frozen?, t3])
      have h3 : (callFunc f #[.slice (some ⟨bb, bo, none⟩) M.length cap2, .slice (some A') lb cb]).run P w = .ok (.value (.bool false)) w := by
        rw [run_callFunc_extern hf hname hb hnx he, hov]; rfl
      have h2 : c.eval (.func f) = .func (.func f) #[] #[] := rfl
      rw [hA'] at hy
      simp [execOp, resolve, h2, Deferred.ofValue, invoke, hc.eval hx, hc.eval hy, h3]
end
theorem ins_a {α : Type} {l v : List α} {i : Nat} {z : α} (hi : i ≤ l.length) (hv : v.length = 1) : (l.take i ++ List.replicate (l.length + v.length - i) z).take i ++ v ++ (l.take i ++ List.replicate (l.length + v.length - i) z).drop (i + v.length) = l.take i ++ v ++ List.replicate (l.length - i) z := by
  have h1 : (l.take i).length = i := by simp; omega
  rw [List.take_append_of_le_length (by omega), List.take_of_length_le (by omega), List.drop_append, List.drop_of_length_le (by omega), h1, hv, List.nil_append, List.drop_replicate]
  congr 2; omega
theorem ins_b {α : Type} {l v : List α} {i lo : Nat} {z : α} (hi : i ≤ l.length) (hv : v.length = 1) (hlo : lo = i + 1) : (l.take i ++ v ++ List.replicate (l.length - i) z).take lo ++ l.drop i ++ (l.take i ++ v ++ List.replicate (l.length - i) z).drop (lo + (l.drop i).length) = l.take i ++ v ++ l.drop i := by
  subst hlo
  have h1 : (l.take i ++ v).length = i + 1 := by simp; omega
  have h2 : (l.take i ++ v ++ List.replicate (l.length - i) z).length ≤ i + 1 + (l.drop i).length := by simp; omega
  rw [List.take_append_of_le_length (by omega), List.take_of_length_le (by omega), List.drop_of_length_le h2, List.append_nil]
theorem ins_c {α : Type} {l : List α} {i lo : Nat} (hi : i < l.length) (hlo : lo = i + 1) : l.take lo ++ l.drop i ++ l.drop (lo + (l.drop i).length) = l.take (i + 1) ++ l.drop i := by
  subst hlo
  rw [List.drop_of_length_le (l := l) (i := i + 1 + (l.drop i).length) (by simp; omega), List.append_nil]
theorem ins_d {α : Type} {l v : List α} {i : Nat} (hi : i < l.length) (hv : v.length = 1) : (l.take (i + 1) ++ l.drop i).take i ++ v ++ (l.take (i + 1) ++ l.drop i).drop (i + v.length) = l.take i ++ v ++ l.drop i := by
  have h1 : (l.take (i + 1)).length = i + 1 := by simp; omega
  rw [List.take_append_of_le_length (by omega), List.take_take, Nat.min_eq_left (by omega), hv, List.drop_append, List.drop_of_length_le (by omega), h1, Nat.sub_self, List.nil_append]; rfl
end Go.Sx

/- A field of a struct that is a value. -/
namespace Go.Sx
open Go.RowKit
def fieldCell (P : Program) (s : TypeId) (f : Nat) : Option Nat :=
  match P.underlying s with
  | some (.struct fs) => match fs[f]? with
    | some g => if shp P g.type = some none then some g.offset else none
    | none => none
  | _ => none
section
variable {P : Program} {n : Nat} {w0 : World} {ds : List Deferred} {F : List (Nat × Value)} {H : List Ent}
variable {ty : TypeId} {pos : String} {after : Array Edge} {guard : Option (Nat × Bool)} {dst : Option Tmp} {x : Operand}
theorem run_field {s : TypeId} {f off : Nat} {vs : List Value} {v : Value} (hf : fieldCell P s f = some off) (hv : vs[off]? = some v) (w : World) : (Instr.field s (.agg vs.toArray) f).run P w = .ok v w := by
  unfold fieldCell at hf
  split at hf
  · rename_i fs hu
    split at hf
    · rename_i g hg
      split at hf
      · rename_i hs
        simp only [Option.some.injEq] at hf
        subst hf
        simp [Instr.field, run_underlying hu, hg, asAgg, part, run_isAgg_false hs, hv]
      · cases hf
    · cases hf
  · cases hf
theorem p_field {s : TypeId} {f off : Nat} {vs : List Value} {v : Value} (hx : ev F x = some (.agg vs.toArray)) (hf : fieldCell P s f = some off) (hv : vs[off]? = some v) : Pure ds P n w0 ⟨dst, .field s x f, ty, pos, after, guard⟩ F H v := fun a w ha _ => by
  simp [execOp, ha.eval hx, run_field hf hv]
end
end Go.Sx

/- A range over a function: the rounds, the functions that call yield, and how a function that holds such a loop ends. -/
namespace Go.Sx
open Go.RowKit
section
variable {P : Program} {n : Nat} {w0 : World} {r : Option Nat} {ds : List Deferred} {Q : Exit → Act → World → Prop} {F F' : List (Nat × Value)} {H H' : List Ent} {ops : Array Oper}
variable {ty : TypeId} {pos : String} {after : Array Edge} {guard : Option (Nat × Bool)} {dst : Option Tmp} {rest : List Oper} {d : Nat} {x y : Operand}

def noDefer (o : Oper) : Bool := match o.op with | .defer _ => false | _ => true
theorem noDefer_spec {l : List Oper} (h : l.all noDefer = true) : ∀ (i : Nat) (o : Oper), l.toArray[i]? = some o → ∀ c, o.op ≠ .defer c := by
  intro i o ho c hc
  have := List.all_eq_true.1 h o (by rw [List.getElem?_toArray] at ho; exact List.mem_of_getElem? ho)
  simp [noDefer, hc] at this
theorem wpOps_in {q : Nat} (hno : ∀ a w, Q .outgrown a w → False) (hd : ∀ (i : Nat) (o : Oper), ops[i]? = some o → ∀ c, o.op ≠ .defer c) : ∀ (L : List Nat) (a : Act) (w : World), wpOps P ops Q L a w → wpOpsIn (fenceOf q) 0 P ops Q L a w
  | [], _, _, h => h
  | i :: rest, a, w, h => by
    cases ho : ops[i]? with
    | none =>
      simp only [wpOps, ho] at h
      simp only [wpOpsIn, ho]
      exact wpOps_in hno hd rest a w h
    | some o =>
      simp only [wpOps, ho] at h
      simp only [wpOpsIn, ho]
      by_cases hw : Region.wanted o (yielded ops a.tmps) = true
      · rw [if_pos hw] at h ⊢
        rcases h with h | ⟨_, a', w', h⟩
        · exact Oper.wpIn_mono (fun a w => wpOps_in hno hd rest a w) (op_in (hd i o ho) h)
        · exact (hno _ _ h).elim
      · rw [if_neg hw] at h ⊢
        exact ⟨fun _ _ => fenceOf_fn _ _, wpOps_in hno hd rest _ w h⟩
theorem c_heldR {id m q : Nat} {l : List Oper} {ls : Array Bool} (hm : P.follows .mixedOrders = true) (hd : l.all noDefer = true) (hno : ∀ a w, Q .outgrown a w → False) (Hr : List Ent) (hl : l.length = m) (hls : ls = Array.replicate m false) (h : SH ds P n w0 l.toArray Q Hr m ls F H) : SC (some q) ds P n w0 Q (.region id l.toArray true) F H := fun a w ha hw =>
  wpIn_region_draw fun t => wpOps_in hno (noDefer_spec hd) _ _ _ (by
    have := h a _ ha (hw.drew (w.drawn + 1))
    subst hl; subst hls
    simp only [Region.schedule, hm, Bool.true_or, if_true]
    exact wpAny_sound l.toArray.size t _ a _ (wpAny_of_held _ _ _ _ (by simpa using this)))
def pack (H : List Ent) : Ent := ⟨fun b => ∃ e ∈ H, e.S b, fun w => (∀ e ∈ H, e.Good w) ∧ H.Pairwise fun e f => Disj e.S f.S⟩
theorem Ent.Good.agree {e : Ent} {w1 w2 : World} (ha : Agree e.S w1 w2) (g : e.Good w1) : e.Good w2 :=
  ⟨g.stable, fun b hb => (by
    have h1 := g.bound b hb
    have h2 := ha b hb
    rcases Nat.lt_or_ge b w2.heap.size with h | h
    · exact h
    · rw [Array.getElem?_eq_none h, Array.getElem?_eq_getElem h1] at h2; cases h2), g.stable w1 w2 ha g.here⟩
theorem HeapIs.pack {R : List Ent} {w : World} (h : HeapIs w0 (H ++ R) w) : HeapIs w0 (Sx.pack H :: R) w := by
  have hp := List.pairwise_append.1 h.apart
  refine ⟨h.same, h.size, fun e he => ?_, List.pairwise_cons.2 ⟨fun f hf b hb hb' => ?_, hp.2.1⟩⟩
  · rcases List.mem_cons.1 he with rfl | he
    · exact ⟨fun w1 w2 ha hA => ⟨fun e he => (hA.1 e he).agree (fun b hb => ha b ⟨e, he, hb⟩), hA.2⟩, fun b ⟨e, he, hb⟩ => (h.good e (by simp [he])).bound b hb, fun e he => h.good e (by simp [he]), hp.1⟩
    · exact h.good e (by simp [he])
  · obtain ⟨e, he, hb⟩ := hb
    exact hp.2.2 e he f hf b hb hb'
theorem HeapIs.unpack {R : List Ent} {w : World} (h : HeapIs w0 (Sx.pack H :: R) w) : HeapIs w0 (H ++ R) w := by
  have hp := List.pairwise_cons.1 h.apart
  have hk := (h.good (Sx.pack H) (by simp)).here
  refine ⟨h.same, h.size, fun e he => ?_, List.pairwise_append.2 ⟨hk.2, hp.2, fun e he f hf b hb hb' => hp.1 f hf b ⟨e, he, hb⟩ hb'⟩⟩
  rcases List.mem_append.1 he with he | he
  · exact hk.1 e he
  · exact h.good e (by simp [he])

def objE (B : Nat) (o : Obj) : Ent := ⟨fun b => b = B, fun w => w.heap[B]? = some o⟩
def loopE (l : Nat) (rc : Loop) : Ent := objE l (.loop rc)
def defE (D : Nat) : Ent := objE D (.deferred (some []))
def recd (rc : Loop) (st : LoopState) (pe : Option Code) : Loop := { rc with state := st, pending := pe }
def mark (D : Nat) : Deferred := { target := .collected D, args := #[] }
theorem objE_st {B : Nat} {o : Obj} : ∀ w1 w2, Agree (objE B o).S w1 w2 → (objE B o).A w1 → (objE B o).A w2 := fun w1 w2 ha hA => (ha B rfl).trans hA
theorem HeapIs.putObj {w : World} {i B : Nat} {o o' : Obj} (h : HeapIs w0 H w) (hi : H[i]? = some (objE B o)) : HeapIs w0 (H.set i (objE B o')) (w.putObj B o') := by
  have hb : B < w.heap.size := (h.at hi).bound B rfl
  exact h.change hi ⟨rfl, rfl, rfl⟩ (by simp) (fun b hb => .inl hb) (fun b _ hb => World.putObj_heap_other hb) objE_st (World.putObj_heap_same hb)
theorem HeapIs.newObj {w : World} (h : HeapIs w0 H w) (o : Obj) : HeapIs w0 (objE w.heap.size o :: H) (w.alloc o) :=
  h.push o (fun w1 w2 ha hA => (ha _ rfl).trans hA) (World.alloc_heap_new w o)

def ItOk (P : Program) (f : FuncId) (caps : List Value) (Pr : Ent → World → Prop) (X : Type) (encs : X → Nat → List Value) (E : X → Nat → List Ent) (N : Nat) : Prop :=
  ∀ (l : Nat) (φ : Nat → Ent → Prop) (ψ : Ent → Prop) (e0 : Ent) (w : World), HeapIs w [outer w [e0], e0] w → Pr e0 w → φ 0 e0 →
    (∀ x k e W, k < N → φ k e → HeapIs w (outer w [e0] :: e :: E x k) W → YieldAt Fence.wide 0 P l (encs x k).toArray W (fun en W' => ∃ b e', en = .returned (.bool b) ∧ (b = true → φ (k + 1) e') ∧ (b = false → ψ e') ∧ HeapIs w (outer w [e0] :: e' :: E x k) W')) →
    Calls P f (.func (.yield l) #[] #[] :: caps).toArray w (fun en W' => ∃ e', en = .returned (.tuple #[]) ∧ (φ N e' ∨ ψ e') ∧ HeapIs w [outer w [e0], e'] W')
def EndI (w0 : World) (e0 : Ent) (φ : Nat → Ent → Prop) (ψ : Ent → Prop) (N : Nat) : Ending → World → Prop := fun en W' => ∃ e', en = .returned (.tuple #[]) ∧ (φ N e' ∨ ψ e') ∧ HeapIs w0 [outer w0 [e0], e'] W'
theorem fnIt {f : FuncId} {fn : Func} {c : Code} {caps : List Value} {Pr : Ent → World → Prop} {X : Type} {encs : X → Nat → List Value} {E : X → Nat → List Ent} {N nt : Nat} {F1 : List (Nat × Value)} (hf : P.funcs[f]? = some fn) (hb : fn.body = some c) (hn : fn.ntmps = nt) (hle : Nat.ble (caps.length + 1) nt = true)
    (hF : F1 = (List.range' 1 caps.length).zip caps)
    (h : ∀ (l : Nat) (φ : Nat → Ent → Prop) (ψ : Ent → Prop) (e0 : Ent) (w0 : World), Pr e0 w0 → φ 0 e0 →
      (∀ x k e W, k < N → φ k e → HeapIs w0 (outer w0 [e0] :: e :: E x k) W → YieldAt Fence.wide 0 P l (encs x k).toArray W (fun en W' => ∃ b e', en = .returned (.bool b) ∧ (b = true → φ (k + 1) e') ∧ (b = false → ψ e') ∧ HeapIs w0 (outer w0 [e0] :: e' :: E x k) W')) →
      SC none [] P nt w0 (bodyPost P fn (EndI w0 e0 φ ψ N)) c ((0, .func (.yield l) #[] #[]) :: F1) [outer w0 [e0], e0]) : ItOk P f caps Pr X encs E N := fun l φ ψ e0 w hw hp h0 Y => by
  refine calls_of_wp hf hb ?_
  have e : (.func (.yield l) #[] #[] :: caps : List Value).toArray.size = caps.length + 1 := by simp
  have hle' : caps.length + 1 ≤ nt := Nat.le_of_ble_eq_true hle
  have ho := ok_begin (.func (.yield l) #[] #[] :: caps) (nt - (caps.length + 1))
  rw [show (.func (.yield l) #[] #[] :: caps : List Value).length + (nt - (caps.length + 1)) = nt by simp; omega] at ho
  have hz : (List.range (.func (.yield l) #[] #[] :: caps : List Value).length).zip (.func (.yield l) #[] #[] :: caps) = (0, .func (.yield l) #[] #[]) :: F1 := by
    rw [hF, List.range_eq_range', List.length_cons, List.range'_succ, List.zip_cons_cons]
  rw [hz] at ho
  rw [hn, e]
  exact h l φ ψ e0 w hp h0 Y _ w ho hw
theorem q_endI {fn : Func} {e0 e : Ent} {φ : Nat → Ent → Prop} {ψ : Ent → Prop} {N : Nat} (hr : ResT [] P n w0 F H fn (.tuple #[])) (he : φ N e ∨ ψ e) (hH : ∀ w, HeapIs w0 H w → HeapIs w0 [outer w0 [e0], e] w) : SQ [] n w0 (bodyPost P fn (EndI w0 e0 φ ψ N)) .ret F H := fun a w ha hw =>
  bodyPost_ret (hr a w ha hw) (by simp [ha.defers]) ⟨e, rfl, he, hH w hw⟩

theorem c_regionY {id : Nat} {l : List Oper} (h : SO (some 0) ds P n w0 l.toArray Q l F H) : SC none ds P n w0 Q (.region id l.toArray false) F H := fun a w ha hw =>
  (wpIn_wide (n := 0)).1 (wpIn_region_lit (h a w ha hw))
theorem run_callYield {l : Nat} {args : Array Operand} {ats : Array TypeId} {vs : List Value} {a : Act} {w : World} (ha : Ok n ds F a) (hx : ev F x = some (.func (.yield l) #[] #[])) (hv : evs F args.toList = some vs) {fn : FuncId} {tmps : Array Value} {assign body : Code} (hy : (Instr.yield l vs.toArray).run P w = .ok (.round l fn tmps assign body) w) :
    (execOp a.eval ⟨dst, .call { callee := .value x, args := args, argTypes := ats }, ty, pos, after, guard⟩).run P w = .ok (.round l fn tmps assign body) w := by
  have h1 : args.map a.eval = vs.toArray := by
    rw [← ha.evals hv]; apply Array.ext'; simp
  simp [execOp, resolve, h1, ha.eval hx, Deferred.ofValue, invoke, hy]
theorem o_yield {l : Nat} {args : Array Operand} {ats : Array TypeId} {vs : List Value} {e0 e : Ent} {Ex : List Ent} {φ ψ : Ent → Prop} (hx : ev F x = some (.func (.yield l) #[] #[])) (hv : evs F args.toList = some vs)
    (Y : ∀ W, HeapIs w0 (outer w0 [e0] :: e :: Ex) W → YieldAt Fence.wide 0 P l vs.toArray W (fun en W' => ∃ b e', en = .returned (.bool b) ∧ (b = true → φ e') ∧ (b = false → ψ e') ∧ HeapIs w0 (outer w0 [e0] :: e' :: Ex) W'))
    (hn : Nat.blt d n = true) (h1 : ∀ e', φ e' → SO (some 0) ds P n w0 ops Q rest ((d, .bool true) :: F) (outer w0 [e0] :: e' :: Ex)) (h2 : ∀ e', ψ e' → SO (some 0) ds P n w0 ops Q rest ((d, .bool false) :: F) (outer w0 [e0] :: e' :: Ex)) :
    SO (some 0) ds P n w0 ops Q (⟨some d, .call { callee := .value x, args := args, argTypes := ats }, ty, pos, after, none⟩ :: rest) F (outer w0 [e0] :: e :: Ex) := fun a w ha hw => by
  show wpListIn (fenceOf 0) 0 P ops Q _ a w
  refine wpListIn_plain rfl fun K hK => ?_
  obtain ⟨fn, tmps, assign, body, hy, hR⟩ := Y w hw
  refine ⟨fun _ _ => fenceOf_fn _ _, ?_⟩
  rw [fenceOf_sem _ _ _ (fun _ h => by cases h), run_callYield ha hx hv hy]
  refine ⟨fun hh => by simp [fenceOf_depth] at hh, hR.mono ?_⟩
  rintro en w' ⟨b, e', rfl, ht, hf, hw'⟩
  cases b with
  | true => exact hK _ _ (h1 e' (ht rfl) _ _ (ha.put hn _) hw')
  | false => exact hK _ _ (h2 e' (hf rfl) _ _ (ha.put hn _) hw')

theorem HeapIs.comm {w : World} {e : Ent} {Hs R : List Ent} (h : HeapIs w0 (Hs ++ (e :: R)) w) : HeapIs w0 (e :: (Hs ++ R)) w := by
  have hp := List.pairwise_append.1 h.apart
  have hq := List.pairwise_cons.1 hp.2.1
  refine ⟨h.same, h.size, fun f hf => h.good f ?_, List.pairwise_cons.2 ⟨fun f hf => ?_, List.pairwise_append.2 ⟨hp.1, hq.2, fun a ha f hf => hp.2.2 a ha f (by simp [hf])⟩⟩⟩
  · simp only [List.mem_cons, List.mem_append] at hf ⊢; rcases hf with h | h | h <;> simp [h]
  · rcases List.mem_append.1 hf with hf | hf
    · exact fun b hb hb' => hp.2.2 f hf e (by simp) b hb' hb
    · exact hq.1 f hf

def RR (W1 : World) (e0 : Ent) (l : Nat) (rc : Loop) {St : Type} (HI : St → List Ent) (I : Nat → St → Prop) (Ix : Code → St → Prop) (k : Nat) (Ex : List Ent) : Ending → World → Prop := fun en W' => ∃ b e', en = .returned (.bool b) ∧
  (b = true → ∃ s, I (k + 1) s ∧ e' = pack (loopE l (recd rc .ready none) :: HI s)) ∧ (b = false → ∃ c s, Ix c s ∧ e' = pack (loopE l (recd rc .done (some c)) :: HI s)) ∧ HeapIs W1 (outer W1 [e0] :: e' :: Ex) W'
theorem q_begin {l : Nat} {rc : Loop} {body : Code} {QB : Exit → Act → World → Prop} {i : Nat} (hi : H[i]? = some (loopE l (recd rc .ready none))) (h : SC (some (l + 1)) [] P n w0 QB body F (H.set i (loopE l (recd rc .busy none)))) :
    SQ [] n w0 (Exit.then (fun a1 w1 => ∃ w2, (Instr.beginRound l).run P w1 = .ok () w2 ∧ body.wpIn (Fence.wide.inRound l) 0 P QB a1 w2) (fun _ _ _ => False)) .normal F H := fun a w ha hw =>
  ⟨_, run_beginRound (hw.at hi).here rfl, h a _ ha (hw.putObj hi)⟩
theorem HeapIs.repack {W1 w : World} {e1 e0 : Ent} {Hs Ex : List Ent} (h : HeapIs W1 (e1 :: e0 :: (Hs ++ Ex)) w) : HeapIs W1 (e1 :: Sx.pack (e0 :: Hs) :: Ex) w := by
  have h2 : HeapIs W1 ((e0 :: Hs) ++ (e1 :: Ex)) w := by
    refine ⟨h.same, h.size, fun e he => h.good e ?_, ?_⟩
    · simp only [List.cons_append, List.mem_cons, List.mem_append] at he ⊢
      rcases he with h | h | h | h <;> simp [h]
    · have hp := List.pairwise_cons.1 h.apart
      have hq := List.pairwise_append.1 (show ((e0 :: Hs) ++ Ex).Pairwise _ from hp.2)
      refine List.pairwise_append.2 ⟨hq.1, List.pairwise_cons.2 ⟨fun f hf => hp.1 f (by simp [hf]), hq.2.1⟩, fun e he f hf => ?_⟩
      rcases List.mem_cons.1 hf with rfl | hf
      · exact fun b hb hb' => hp.1 e (by simp only [List.mem_cons, List.mem_append] at he ⊢; rcases he with h | h <;> simp [h]) b hb' hb
      · exact hq.2.2 e he f hf
  have h3 := h2.pack
  refine ⟨h3.same, h3.size, fun e he => h3.good e ?_, ?_⟩
  · simp only [List.mem_cons] at he ⊢; rcases he with h | h | h <;> simp [h]
  · have hp := List.pairwise_cons.1 h3.apart
    have hq := List.pairwise_cons.1 hp.2
    refine List.pairwise_cons.2 ⟨fun f hf => ?_, List.pairwise_cons.2 ⟨fun f hf => hp.1 f (by simp [hf]), hq.2⟩⟩
    rcases List.mem_cons.1 hf with rfl | hf
    · exact fun b hb hb' => hp.1 _ (by simp) b hb' hb
    · exact hq.1 f hf
theorem HeapIs.openpack {W1 w : World} {e1 e0 : Ent} {Hs Ex : List Ent} (h : HeapIs W1 (e1 :: Sx.pack (e0 :: Hs) :: Ex) w) : HeapIs W1 (e1 :: e0 :: (Hs ++ Ex)) w := by
  have hp := List.pairwise_cons.1 h.apart
  have hq := List.pairwise_cons.1 hp.2
  have hk := (h.good (Sx.pack (e0 :: Hs)) (by simp)).here
  refine ⟨h.same, h.size, fun e he => ?_, ?_⟩
  · simp only [List.mem_cons, List.mem_append] at he
    rcases he with rfl | rfl | he | he
    · exact h.good e (by simp)
    · exact hk.1 _ (by simp)
    · exact hk.1 _ (by simp [he])
    · exact h.good e (by simp [he])
  · refine List.pairwise_cons.2 ⟨fun f hf b hb hb' => ?_, ?_⟩
    · simp only [List.mem_cons, List.mem_append] at hf
      rcases hf with rfl | hf | hf
      · exact hp.1 (Sx.pack (f :: Hs)) (by simp) b hb ⟨f, by simp, hb'⟩
      · exact hp.1 (Sx.pack (e0 :: Hs)) (by simp) b hb ⟨f, by simp [hf], hb'⟩
      · exact hp.1 f (by simp [hf]) b hb hb'
    · show ((e0 :: Hs) ++ Ex).Pairwise _
      exact List.pairwise_append.2 ⟨hk.2, hq.2, fun e he f hf b hb hb' => hq.1 f hf b ⟨e, he, hb⟩ hb'⟩
theorem q_next {W1 : World} {e0 : Ent} {l : Nat} {rc : Loop} {St : Type} {HI : St → List Ent} {I : Nat → St → Prop} {Ix : Code → St → Prop} {k : Nat} {Ex : List Ent} (s : St) (hI : I (k + 1) s) (hH : ∀ w, HeapIs W1 H w → HeapIs W1 (outer W1 [e0] :: loopE l (recd rc .busy none) :: (HI s ++ Ex)) w) :
    SQ [] n W1 (roundPost P l (RR W1 e0 l rc HI I Ix k Ex)) .normal F H := fun a w ha hw => by
  have h1 := hH w hw
  have h2 := h1.putObj (i := 1) (o' := .loop (recd rc .ready none)) rfl
  exact ⟨_, _, run_endRound none (h1.at (i := 1) rfl).here, true, _, rfl, fun _ => ⟨s, hI, rfl⟩, fun h => (by cases h), HeapIs.repack h2⟩
def putF : List Tmp → List Value → List (Nat × Value) → List (Nat × Value)
  | p :: ps, v :: vs, F => putF ps vs ((p, v) :: F)
  | _, _, F => F
theorem ok_putF : ∀ (ps : List Tmp) (vs : List Value) {F : List (Nat × Value)} {tmps : Array Value}, ps.all (Nat.blt · n) = true → Ok n [] F ⟨tmps, []⟩ → Ok n [] (putF ps vs F) ⟨(ps.zip vs).foldl (fun t (p, v) => t.setIfInBounds p v) tmps, []⟩
  | [], _, _, _, _, h => by simpa [putF] using h
  | p :: ps, [], _, _, _, h => by simpa [putF] using h
  | p :: ps, v :: vs, F, tmps, hb, h => by
    simp only [List.all_cons, Bool.and_eq_true] at hb
    simp only [putF, List.zip_cons_cons, List.foldl_cons]
    exact ok_putF ps vs hb.2 (h.put hb.1 v)
theorem c_rangeFunc {g : Operand} {ps : List Tmp} {assign body : Code} {f : FuncId} {caps : List Value} {Pr : Ent → World → Prop} {X : Type} {encs : X → Nat → List Value} {E : X → Nat → List Ent} {N : Nat}
    (hg : ev F g = some (.func (.func f) #[] caps.toArray)) (hP : HasFn P f) (hit : ItOk P f caps Pr X encs E N) (hlen : ∀ x k, (encs x k).length = ps.length) (hblt : ps.all (Nat.blt · n) = true)
    {St : Type} (HI : St → List Ent) (I : Nat → St → Prop) (Ix : Code → St → Prop) (R : List Ent) (s0 : St) (hI : I 0 s0) (hH : ∀ w, HeapIs w0 H w → HeapIs w0 (HI s0 ++ R) w)
    (hpr : ∀ D e0 W1, HeapIs w0 (e0 :: defE D :: R) W1 → Pr e0 W1)
    (round : ∀ (l : Nat) (rc : Loop) (D : Nat) (e0 : Ent) (W1 : World), HeapIs w0 (e0 :: defE D :: R) W1 → ∀ x k s, k < N → I k s →
      SC (some (l + 1)) [] P n W1 (Exit.then (fun a1 w1 => ∃ w2, (Instr.beginRound l).run P w1 = .ok () w2 ∧ body.wpIn (Fence.wide.inRound l) 0 P (roundPost P l (RR W1 e0 l rc HI I Ix k (E x k))) a1 w2) (fun _ _ _ => False)) assign (putF ps (encs x k) F) (outer W1 [e0] :: loopE l (recd rc .ready none) :: (HI s ++ E x k)))
    (after : ∀ D s, I N s → SQ (mark D :: ds) n w0 Q .normal F (defE D :: (HI s ++ R)))
    (jump : ∀ D c s, Ix c s → SC none (mark D :: ds) P n w0 Q c F (defE D :: (HI s ++ R))) :
    SC none ds P n w0 Q (.rangeFunc g ps.toArray assign body) F H := fun a w ha hw => by
  refine (wpIn_wide (n := 0)).1 (wpIn_rangeFunc ?_)
  intro fn _
  have hw1 := hH w hw
  have hround : Fence.wide.round = none := rfl
  rw [hround]
  obtain ⟨rc, hrc⟩ : ∃ rc : Loop, rc = { state := .ready, pending := none, fn, tmps := a.tmps, params := ps.toArray, assign, body, defers := w.heap.size } := ⟨_, rfl⟩
  obtain ⟨W1, hW1⟩ : ∃ W1, (w.alloc (.deferred (some []))).alloc (.loop rc) = W1 := ⟨_, rfl⟩
  have hA : HeapIs w0 (loopE (w.heap.size + 1) (recd rc .ready none) :: defE w.heap.size :: (HI s0 ++ R)) W1 := by
    have h1 := (hw1.newObj (.deferred (some []))).newObj (.loop rc)
    rw [hW1, World.size_alloc] at h1
    have e : recd rc .ready none = rc := by rw [hrc]; rfl
    rw [e]; exact h1
  have hB : HeapIs w0 (pack (loopE (w.heap.size + 1) (recd rc .ready none) :: HI s0) :: defE w.heap.size :: R) W1 := by
    refine HeapIs.pack (H := loopE (w.heap.size + 1) (recd rc .ready none) :: HI s0) (R := defE w.heap.size :: R) ?_
    refine ⟨hA.same, hA.size, fun e he => hA.good e ?_, ?_⟩
    · simp only [List.cons_append, List.mem_cons, List.mem_append] at he ⊢
      rcases he with h | h | h | h <;> simp [h]
    · have hp := List.pairwise_cons.1 hA.apart
      have hq := List.pairwise_cons.1 hp.2
      have hr := List.pairwise_append.1 hq.2
      refine List.pairwise_cons.2 ⟨fun f hf => hp.1 f ?_, List.pairwise_append.2 ⟨hr.1, List.pairwise_cons.2 ⟨fun f hf => hq.1 f (by simp [hf]), hr.2.1⟩, fun e he f hf => ?_⟩⟩
      · have hf : f ∈ HI s0 ++ (defE w.heap.size :: R) := hf
        simp only [List.mem_append, List.mem_cons] at hf ⊢; rcases hf with h | h | h <;> simp [h]
      · rcases List.mem_cons.1 hf with rfl | hf
        · exact fun b hb hb' => hq.1 e (by simp [he]) b hb' hb
        · exact hr.2.2 e he f hf
  obtain ⟨e0, he0⟩ : ∃ e0, e0 = pack (loopE (w.heap.size + 1) (recd rc .ready none) :: HI s0) := ⟨_, rfl⟩
  rw [← he0] at hB
  have hC : HeapIs W1 [outer W1 [e0], e0] W1 := HeapIs.inner (pre := [e0]) (R := defE w.heap.size :: R) hB
  obtain ⟨gfn, gc, hg1, hg2, hg3⟩ := hP
  have hcall : ∀ (args : Array Value) (v : World), (callFunc f args).run P v = .ok (.enter f args) v := fun args v => by
    have hname' : gfn.name ≠ "runtime.NumGoroutine" := by intro e; rw [e] at hg3; simp at hg3
    simp [callFunc, program, Sem.run, hg1, hg2, hname']
  refine ⟨w.heap.size + 1, [mark w.heap.size], W1, { target := .fn (.func f) caps.toArray, args := #[.func (.yield (w.heap.size + 1)) #[] #[]] }, W1, f, #[.func (.yield (w.heap.size + 1)) #[] #[]] ++ caps.toArray, W1, ?_, ?_, ?_, ?_, fun hh => (by cases hh), ?_⟩
  · rw [← hW1, hrc]; exact run_enterLoop_outer _ _ _ _ _
  · simp only [resolve, ha.eval hg]
    simp [go_sem]
  · intro f' hf'; trivial
  · simp [invoke, go_sem, hcall]
  · have hargs : #[.func (.yield (w.heap.size + 1)) #[] #[]] ++ caps.toArray = (.func (.yield (w.heap.size + 1)) #[] #[] :: caps : List Value).toArray := by simp
    rw [hargs]
    refine callsIn_wide.2 ?_
    refine (hit (w.heap.size + 1) (fun k e => ∃ s, I k s ∧ e = pack (loopE (w.heap.size + 1) (recd rc .ready none) :: HI s)) (fun e => ∃ c s, Ix c s ∧ e = pack (loopE (w.heap.size + 1) (recd rc .done (some c)) :: HI s)) e0 W1 hC (hpr _ _ _ hB) ⟨s0, hI, he0⟩ ?_).mono ?_
    · rintro x k e W hk ⟨s, hs, rfl⟩ hW
      have h2 := hW.openpack
      have hl := (h2.at (i := 1) rfl).here
      have hy := run_yield (P := P) (args := (encs x k).toArray) hl (by simp [recd, hrc, hlen])
      refine ⟨_, _, _, _, hy, roundIn_of_wpIn trivial ?_⟩
      have hrd := round (w.heap.size + 1) rc w.heap.size e0 W1 hB x k s hk hs
      have hok : Ok n [] (putF ps (encs x k) F) ⟨((recd rc .ready none).params.zip (encs x k).toArray).foldl (fun tmps (t, a) => tmps.setIfInBounds t a) (recd rc .ready none).tmps, []⟩ := by
        have h0 : Ok n [] F ⟨a.tmps, []⟩ := ⟨rfl, ha.size, ha.knows⟩
        have h1 := ok_putF ps (encs x k) hblt h0
        have e1 : (recd rc .ready none).tmps = a.tmps := by rw [hrc]; rfl
        have e2 : (recd rc .ready none).params = ps.toArray := by rw [hrc]; rfl
        rw [e1, e2]
        simpa using h1
      have e3 : (recd rc .ready none).assign = assign := by rw [hrc]; rfl
      have e4 : (recd rc .ready none).body = body := by rw [hrc]; rfl
      rw [e3, e4]
      exact hrd _ W hok h2
    · rintro en W2 ⟨e', rfl, hor, hW2⟩
      have hback : HeapIs w0 ([e'] ++ (defE w.heap.size :: R)) W2 := HeapIs.back (pre := [e0]) (post := [e']) (R := defE w.heap.size :: R) hB hW2
      rcases hor with ⟨s, hs, rfl⟩ | ⟨c, s, hs, rfl⟩
      · have h3 : HeapIs w0 (loopE (w.heap.size + 1) (recd rc .ready none) :: (HI s ++ (defE w.heap.size :: R))) W2 := HeapIs.unpack (H := loopE (w.heap.size + 1) (recd rc .ready none) :: HI s) hback
        have h4 := h3.putObj (i := 0) (o' := .loop { recd rc .ready none with state := .exhausted }) rfl
        refine ⟨none, _, run_endLoop (h3.at (i := 0) rfl).here (by simp [recd]), ?_⟩
        refine after w.heap.size s hs _ _ ⟨by simp [ha.defers], ha.size, ha.knows⟩ ?_
        have h5 : HeapIs w0 (HI s ++ (defE w.heap.size :: R)) _ := h4.drop (List.sublist_cons_self _ _)
        exact h5.comm
      · have h3 : HeapIs w0 (loopE (w.heap.size + 1) (recd rc .done (some c)) :: (HI s ++ (defE w.heap.size :: R))) W2 := HeapIs.unpack (H := loopE (w.heap.size + 1) (recd rc .done (some c)) :: HI s) hback
        have h4 := h3.putObj (i := 0) (o' := .loop { recd rc .done (some c) with state := .exhausted }) rfl
        refine ⟨some c, _, run_endLoop (h3.at (i := 0) rfl).here (by simp [recd]), ?_⟩
        have h5 : HeapIs w0 (HI s ++ (defE w.heap.size :: R)) _ := h4.drop (List.sublist_cons_self _ _)
        exact (wpIn_wide (n := 0)).2 (jump w.heap.size c s hs _ _ ⟨by simp [ha.defers], ha.size, ha.knows⟩ h5.comm)

theorem calls_of_marks {f : FuncId} {fn : Func} {c : Code} {args : Array Value} {w : World} {Rr : Ending → World → Prop} (hf : P.funcs[f]? = some fn) (hb : fn.body = some c)
    (h : c.wp P (bodyPostM Fence.wide 0 P fn Rr) { tmps := args ++ Array.replicate (fn.ntmps - args.size) undef, defers := [] } w) : Calls P f args w Rr :=
  callsIn_wide.1 (callsIn_of_wp_marks (F := Fence.wide) (n := 0) hf hb trivial (wpIn_wide.2 h))
theorem q_marks0 {fn : Func} {Rr : Ending → World → Prop} (h : SQ [] n w0 (bodyPost P fn Rr) .ret F H) : SQ [] n w0 (bodyPostM Fence.wide 0 P fn Rr) .ret F H := fun a w ha hw => by
  obtain ⟨_, v, h1, h2⟩ := h a w ha hw
  show LeavesInM Fence.wide 0 P fn a.tmps Rr a.defers .returning w
  rw [ha.defers]
  exact ⟨v, h1, h2⟩
theorem q_marks {fn : Func} {Rr : Ending → World → Prop} {D i : Nat} (hi : H[i]? = some (defE D)) (h : SQ ds n w0 (bodyPostM Fence.wide 0 P fn Rr) .ret F (H.eraseIdx i)) : SQ (mark D :: ds) n w0 (bodyPostM Fence.wide 0 P fn Rr) .ret F H := fun a w ha hw => by
  have hd := (hw.at hi).here
  show LeavesInM Fence.wide 0 P fn a.tmps Rr a.defers .returning w
  rw [ha.defers]
  refine ⟨by simp, .inl ⟨D, _, rfl, run_takeDeferred hd, ?_⟩⟩
  have h2 := hw.putObj (i := i) (o' := .deferred none) hi
  have h3 : HeapIs w0 (H.eraseIdx i) (w.putObj D (.deferred none)) := h2.drop (by
    have e : H.eraseIdx i = (H.set i (objE D (.deferred none))).eraseIdx i := by
      apply List.ext_getElem?
      intro j
      simp only [List.getElem?_eraseIdx, List.getElem?_set]
      split
      · rw [if_neg (by omega)]
      · rw [if_neg (by omega)]
    rw [e]; exact List.eraseIdx_sublist _ _)
  have h4 := h ⟨a.tmps, ds⟩ _ ⟨rfl, ha.size, ha.knows⟩ h3
  exact h4
theorem fnMR {f : FuncId} {fn : Func} {c : Code} {args : List Value} {Pre : World → Prop} {π : Type} {val : π → Value} {A : π → (Nat → Prop) → World → Prop} {nt : Nat} {F0 : List (Nat × Value)} (hf : P.funcs[f]? = some fn) (hb : fn.body = some c) (hn : fn.ntmps = nt) (hle : Nat.ble args.length nt = true) (hF : F0 = (List.range args.length).zip args)
    (h : ∀ w0, Pre w0 → SC none [] P nt w0 (bodyPostM Fence.wide 0 P fn (EndM w0 π val A)) c F0 [base w0]) : FnM P f args Pre π val A := fun w hw => by
  refine calls_of_marks hf hb ?_
  have e : args.toArray.size = args.length := by simp
  have hle' : args.length ≤ nt := Nat.le_of_ble_eq_true hle
  have ho := ok_begin args (nt - args.length)
  rw [show args.length + (nt - args.length) = nt by omega, ← hF] at ho
  rw [hn, e]
  exact h w hw _ w ho (HeapIs.begin w)
end
end Go.Sx

/- Shorter names of the steps that stand most often in a long walk. -/
namespace Go.Sx
open Go.RowKit
section
variable {P : Program} {n : Nat} {w0 : World} {r : Option Nat} {ds : List Deferred} {Q : Exit → Act → World → Prop} {F : List (Nat × Value)} {H : List Ent} {ops : Array Oper}
variable {ty : TypeId} {pos : String} {after : Array Edge} {rest : List Oper} {d : Nat} {v : Value} {c x y : Operand}
theorem o_mv (hx : ev F x = some v) (hn : Nat.blt d n = true) (h : SO r ds P n w0 ops Q rest ((d, v) :: F) H) : SO r ds P n w0 ops Q (⟨some d, .move x, ty, pos, after, none⟩ :: rest) F H := o_pure (p_move hx) rfl rfl hn h
theorem o_pt (hc : ev F c = some (.bool true)) (hx : ev F x = some v) (hn : Nat.blt d n = true) (h : SO r ds P n w0 ops Q rest ((d, v) :: F) H) : SO r ds P n w0 ops Q (⟨some d, .pick c x y, ty, pos, after, none⟩ :: rest) F H := o_pure (p_pick_true hc hx) rfl rfl hn h
theorem o_pf (hc : ev F c = some (.bool false)) (hy : ev F y = some v) (hn : Nat.blt d n = true) (h : SO r ds P n w0 ops Q rest ((d, v) :: F) H) : SO r ds P n w0 ops Q (⟨some d, .pick c x y, ty, pos, after, none⟩ :: rest) F H := o_pure (p_pick_false hc hy) rfl rfl hn h
end
end Go.Sx

/- How long a slice that is read is, out of its reading; laws whose arguments are not too many. -/
namespace Go.Sx
open Go.ChangeShapes Go.WideShapes Go.ChangeAt Go.RowKit
section
variable {P : Program} {H : Type} {enc : TypeId × Value → H} {w : World}
end
end Go.Sx

/- Common plain functions: keys, traces, places in lists. -/
namespace Go.Sx
def idxF {α : Type} (f : α → Bool) (l : List α) : Int := if l.findIdx f < l.length then (l.findIdx f : Int) else -1
theorem idxF_found {α : Type} {f : α → Bool} {l : List α} {k : Nat} (hk : k < l.length) (hp : f l[k] = true) (hn : ∀ j (h : j < l.length), j < k → f l[j] = false) : (k : Int) = idxF f l := by
  have e : l.findIdx f = k := (List.findIdx_eq hk).2 ⟨hp, fun j hj => hn j (by omega) hj⟩
  unfold idxF; rw [e, if_pos hk]
theorem idxF_none {α : Type} {f : α → Bool} {l : List α} (hn : ∀ j (h : j < l.length), f l[j] = false) : -1 = idxF f l := by
  unfold idxF; rw [if_neg]
  intro h
  have := List.findIdx_getElem (w := h)
  rw [hn _ h] at this; cases this
theorem idxF_cases {α : Type} (f : α → Bool) (l : List α) : (∃ k, ∃ h : k < l.length, idxF f l = (k : Int) ∧ f l[k] = true ∧ ∀ j (h : j < l.length), j < k → f l[j] = false) ∨ (idxF f l = -1 ∧ ∀ x ∈ l, f x = false) := by
  by_cases h : l.findIdx f < l.length
  · refine .inl ⟨l.findIdx f, h, by unfold idxF; rw [if_pos h], List.findIdx_getElem (w := h), fun j hj hlt => ?_⟩
    have := List.not_of_lt_findIdx hlt
    simpa using this
  · refine .inr ⟨by unfold idxF; rw [if_neg h], fun x hx => ?_⟩
    have h2 : l.findIdx f = l.length := by have := List.findIdx_le_length (p := f) (xs := l); omega
    exact List.findIdx_eq_length.1 h2 x hx
theorem idxF_lt {α : Type} (f : α → Bool) (l : List α) : idxF f l < l.length ∧ -1 ≤ idxF f l := by
  rcases idxF_cases f l with ⟨k, h, e, _⟩ | ⟨e, _⟩ <;> rw [e] <;> omega
theorem any_idxF {α : Type} (f : α → Bool) (l : List α) : l.any f = decide (0 ≤ idxF f l) := by
  rcases idxF_cases f l with ⟨k, h, e, h1, _⟩ | ⟨e, h1⟩ <;> rw [e]
  · rw [decide_eq_true (by omega)]; exact List.any_eq_true.2 ⟨_, List.getElem_mem h, h1⟩
  · rw [decide_eq_false (by omega)]; exact List.any_eq_false.2 fun x hx => by rw [h1 x hx]; simp
namespace Lru
def okKey (n : Int) : Bool := decide (0 ≤ n) && decide (n ≤ 1048576)
def okRoom (n : Int) : Bool := decide (1 ≤ n) && decide (n ≤ 40)
theorem room_ok {n : Int} (h : okRoom n = true) : 1 ≤ n ∧ n ≤ 40 := by simpa [okRoom] using h
theorem key_ok {n : Int} (h : okKey n = true) : 0 ≤ n ∧ n ≤ 1048576 := by simpa [okKey] using h
def keysGo (pre : List Int) : List Int → Int
  | [] => 0
  | k :: l => if okKey k = false then 3 else if k ∈ pre then 6 else keysGo (pre ++ [k]) l
def keys (l : List Int) : Int := keysGo [] l
def trace (l : List Int) : Int := if 200 < l.length then 2 else if l.any (fun k => !okKey k) then 3 else 0
theorem keysGo_step {l : List Int} {i : Nat} (h : i < l.length) : keysGo (l.take i) (l.drop i) = if okKey l[i] = false then 3 else if l[i] ∈ l.take i then 6 else keysGo (l.take (i + 1)) (l.drop (i + 1)) := by
  rw [List.drop_eq_getElem_cons h, keysGo, List.take_succ_eq_append_getElem h]
theorem keys_bad {l : List Int} {i : Nat} (h : i < l.length) (hI : keysGo (l.take i) (l.drop i) = keys l) (hb : okKey l[i] = false) : 3 = keys l := by rw [← hI, keysGo_step h, if_pos hb]
theorem keys_twice {l : List Int} {i : Nat} (h : i < l.length) (hI : keysGo (l.take i) (l.drop i) = keys l) (hb : okKey l[i] = true) (ht : l[i] ∈ l.take i) : 6 = keys l := by rw [← hI, keysGo_step h, if_neg (by simp [hb]), if_pos ht]
theorem keys_next {l : List Int} {i : Nat} (h : i < l.length) (hI : keysGo (l.take i) (l.drop i) = keys l) (hb : okKey l[i] = true) (ht : l[i] ∉ l.take i) : keysGo (l.take (i + 1)) (l.drop (i + 1)) = keys l := by rw [← hI, keysGo_step h, if_neg (by simp [hb]), if_neg ht]
theorem keys_end {l : List Int} {i : Nat} (h : l.length ≤ i) (hI : keysGo (l.take i) (l.drop i) = keys l) : 0 = keys l := by rw [← hI, List.drop_of_length_le h]; rfl
theorem mem_take_succ {l : List Int} {i : Nat} (h : i < l.length) (j : Int) : j ∈ l.take (i + 1) ↔ j = l[i] ∨ j ∈ l.take i := by
  rw [List.take_succ_eq_append_getElem h, List.mem_append, List.mem_singleton, or_comm]
def Seen {ν : Type} (m : List (Int × ν)) (l : List Int) (k : Nat) : Prop := ∀ j, (AL.get m j).isSome = true ↔ j ∈ l.take k
theorem Seen.start {ν : Type} (l : List Int) : Seen ([] : List (Int × ν)) l 0 := fun j => by simp [AL.get]
theorem Seen.next {ν : Type} {m : List (Int × ν)} {l : List Int} {k : Nat} (h : Seen m l k) (hk : k < l.length) (x : ν) : Seen (AL.set m l[k] x) l (k + 1) := fun j => by
  rw [AL.get_set, mem_take_succ hk]; split
  · simp [*]
  · simp [*, h j]
theorem keys_ok {l : List Int} : keys l = 0 ↔ (∀ k ∈ l, okKey k = true) ∧ l.Nodup := by
  have key : ∀ (l pre : List Int), keysGo pre l = 0 ↔ (∀ k ∈ l, okKey k = true) ∧ (∀ k ∈ l, k ∉ pre) ∧ l.Nodup := by
    intro l
    induction l with
    | nil => intro pre; simp [keysGo]
    | cons k l ih =>
      intro pre
      rw [keysGo]
      by_cases h1 : okKey k = false
      · rw [if_pos h1]; simp [h1]
      · rw [if_neg h1]
        by_cases h2 : k ∈ pre
        · rw [if_pos h2]; simp [h2]
        · rw [if_neg h2, ih]
          have h1' : okKey k = true := by simpa using h1
          simp only [List.mem_cons, List.mem_append, List.nodup_cons, List.mem_nil_iff]
          constructor
          · rintro ⟨a, b, c⟩
            refine ⟨by rintro j (rfl | hj); exact h1'; exact a j hj, by rintro j (rfl | hj); exact h2; exact fun hp => b j hj (.inl hp), fun hk => b k hk (.inr (.inl rfl)), c⟩
          · rintro ⟨a, b, c, d⟩
            refine ⟨fun j hj => a j (.inr hj), fun j hj hp => ?_, d⟩
            rcases hp with hp | hp | hp
            · exact b j (.inr hj) hp
            · exact c (hp ▸ hj)
            · cases hp
  rw [keys, key]; simp
theorem trace_ok {l : List Int} : trace l = 0 ↔ l.length ≤ 200 ∧ ∀ k ∈ l, okKey k = true := by
  unfold trace
  split
  · constructor
    · intro h; cases h
    · intro h; omega
  · split
    · rename_i h
      constructor
      · intro h; cases h
      · rintro ⟨_, h2⟩
        obtain ⟨x, hx, hb⟩ := List.any_eq_true.1 h
        rw [h2 x hx] at hb; cases hb
    · rename_i h1 h
      refine ⟨fun _ => ⟨by omega, fun k hk => ?_⟩, fun _ => rfl⟩
      have := List.any_eq_false.1 (Bool.not_eq_true _ ▸ h) k hk
      simpa using this
theorem trace_many {l : List Int} (h : 200 < (l.length : Int)) : trace l = 2 := if_pos (by omega)
theorem trace_bad {l : List Int} (h : (l.length : Int) ≤ 200) (h2 : l.any (fun k => !okKey k) = true) : trace l = 3 := by
  unfold trace; rw [if_neg (by omega), if_pos h2]
theorem trace_fine {l : List Int} (h : (l.length : Int) ≤ 200) (h2 : l.any (fun k => !okKey k) = false) : trace l = 0 := by
  unfold trace; rw [if_neg (by omega), if_neg (by simp [h2])]
end Lru
namespace Ref
def between (n a b : Int) : Bool := decide (a ≤ n) && decide (n ≤ b)
def sameInts (a b : List Int) : Bool := decide (a = b)
def hasInt (l : List Int) (n : Int) : Bool := decide (n ∈ l)
end Ref
end Go.Sx

/- Boxes that are read by a call that changes other entries; a slice that is cut behind its end. -/
namespace Go.Sx
open Go.RowKit
section
variable {α : Type} {P : Program} {n : Nat} {w0 : World} {r : Option Nat} {ds : List Deferred} {F : List (Nat × Value)} {H : List Ent}
variable {T : Ty α} {S : Nat → Prop} {a : Option Addr} {cap : Nat} {L M : List α}
variable {ty : TypeId} {pos : String} {after : Array Edge} {guard : Option (Nat × Bool)} {dst : Option Tmp} {x y : Operand}
theorem rbox_outer {i B : Nat} {pre : List Ent} {cs : List Value} {U : TypeId} (hi : H[i]? = some (outer w0 pre)) (h : (box B cs U).A w0 ∧ (outer w0 pre).S B) : ∀ w, HeapIs w0 H w → (box B cs U).A w := fun w hw => by
  have g := (hw.at hi).here
  show w.heap[B]? = _
  rw [g B h.2.1 h.2.2]; exact h.1
theorem outX {i : Nat} {e : Ent} {pre : List Ent} {js : List Nat} {B : Nat} (hi : H[i]? = some e) (hj : i ∉ js) (hp : js.map (H[·]?) = pre.map some) (h : e.S B) : ∀ w, HeapIs w0 H w → (outer w pre).S B := fun w hw => by
  have g := hw.at hi
  refine ⟨g.bound B h, fun ⟨f, hf, hfb⟩ => ?_⟩
  obtain ⟨k, hk, rfl⟩ := List.mem_iff_getElem.1 hf
  have hlen : js.length = pre.length := by simpa using congrArg List.length hp
  have h3 := congrArg (·[k]?) hp
  simp only [List.getElem?_map, List.getElem?_eq_getElem hk, List.getElem?_eq_getElem (show k < js.length by omega), Option.map_some, Option.some.injEq] at h3
  obtain ⟨q1, q2⟩ := List.getElem?_eq_some_iff.1 hi
  obtain ⟨r1, r2⟩ := List.getElem?_eq_some_iff.1 h3
  have hne : i ≠ js[k] := fun e => hj (e ▸ List.getElem_mem _)
  have hap := List.pairwise_iff_getElem.1 hw.apart
  rcases Nat.lt_or_gt_of_ne hne with hl | hl
  · exact hap _ _ q1 r1 hl B (by rw [q2]; exact h) (by rw [r2]; exact hfb)
  · exact hap _ _ r1 q1 hl B (by rw [r2]; exact hfb) (by rw [q2]; exact h)
theorem boxX {i B : Nat} {cs : List Value} {U : TypeId} {pre : List Ent} {js : List Nat} (hi : H[i]? = some (box B cs U)) (hj : i ∉ js) (hp : js.map (H[·]?) = pre.map some) : ∀ w, HeapIs w0 H w → (box B cs U).A w ∧ (outer w pre).S B := fun w hw =>
  ⟨(hw.at hi).here, outX hi hj hp rfl w hw⟩
end
end Go.Sx

/- Slices of slices: lists that are only read; a place of an array. -/
namespace Go.Sx
open Go.RowKit
structure Hdr where
  a : Option Addr
  cap : Nat
  L : List Int
instance : Inhabited Hdr := ⟨⟨none, 0, []⟩⟩
def tHdr : Ty Hdr := ⟨1, fun h => [.slice h.a h.L.length h.cap], fun _ => rfl⟩
def catH (l : List Hdr) : List Int := (l.map Hdr.L).flatten
theorem catH_step {l : List Hdr} {k : Nat} (h : k < l.length) : catH (l.take (k + 1)) = catH (l.take k) ++ l[k].L := by
  unfold catH; rw [List.take_succ_eq_append_getElem h, List.map_append, List.flatten_append]; simp only [List.map_cons, List.map_nil, List.flatten_cons, List.flatten_nil, List.append_nil]
theorem catH_le (l : List Hdr) (k : Nat) : (catH (l.take k)).length ≤ (catH l).length := by
  have h : catH l = catH (l.take k) ++ catH (l.drop k) := by
    unfold catH
    rw [← List.flatten_append, ← List.map_append, List.take_append_drop]
  rw [h, List.length_append]; omega
theorem catH_all {l : List Hdr} {k : Nat} (h : l.length ≤ k) : catH (l.take k) = catH l := by rw [List.take_of_length_le h]
section
variable {α : Type} {P : Program} {n : Nat} {w0 : World} {r : Option Nat} {ds : List Deferred} {F : List (Nat × Value)} {H : List Ent}
variable {T : Ty α}
variable {ty : TypeId} {pos : String} {after : Array Edge} {guard : Option (Nat × Bool)} {dst : Option Tmp} {x y : Operand}
end
end Go.Sx

/- Maps that are handed in, keys that are dropped, and a range over a map, in whatever order. -/
namespace Go.Sx
open Go.RowKit
namespace AL
variable {κ ν : Type} [DecidableEq κ]
theorem get_isSome {m : List (κ × ν)} {k : κ} : (get m k).isSome = true ↔ k ∈ m.map (·.1) := by
  induction m with
  | nil => simp [get]
  | cons p m ih =>
    obtain ⟨a, v⟩ := p
    simp only [get, List.map_cons, List.mem_cons]
    split
    · simp [*]
    · rw [ih]; simp [*]
theorem set_keys (m : List (κ × ν)) (k : κ) (x : ν) : (set m k x).map (·.1) = if k ∈ m.map (·.1) then m.map (·.1) else m.map (·.1) ++ [k] := by
  induction m with
  | nil => simp [set]
  | cons p m ih =>
    obtain ⟨a, v⟩ := p
    simp only [set]
    split
    · rename_i e; subst e; simp
    · rename_i e
      simp only [List.map_cons, ih, List.mem_cons]
      split <;> simp [*]
theorem del_keys (m : List (κ × ν)) (k : κ) : (del m k).map (·.1) = (m.map (·.1)).erase k := by
  induction m with
  | nil => rfl
  | cons p m ih =>
    obtain ⟨a, v⟩ := p
    simp only [del]
    split
    · rename_i e; subst e; simp
    · rename_i e
      rw [List.map_cons, List.map_cons, List.erase_cons, if_neg (by simpa using fun h => e h.symm), ih]
end AL
section
variable {κ ν : Type} [DecidableEq κ]
variable {P : Program} {n : Nat} {w0 : World} {r : Option Nat} {ds : List Deferred} {Q : Exit → Act → World → Prop} {F F' : List (Nat × Value)} {H H' : List Ent} {ops : Array Oper}
variable {ty : TypeId} {pos : String} {after : Array Edge} {guard : Option (Nat × Bool)} {dst : Option Tmp} {rest : List Oper} {d : Nat} {x y : Operand}
variable {K : KTy κ} {ve : ν → Value} {m : List (κ × ν)}
theorem erase_map (K : KTy κ) (ve : ν → Value) (k : κ) : ∀ (es : List MapEntry) (m : List (κ × ν)) (j : Nat), es.map (fun e => (e.key, e.val)) = m.map (fun p => (K.enc p.1, ve p.2)) → ∀ i u, AL.idx m k j = some (i, u) → j ≤ i ∧
    (es.eraseIdx (i - j)).map (fun e => (e.key, e.val)) = (AL.del m k).map (fun p => (K.enc p.1, ve p.2)) ∧ i - j < es.length
  | [], [], _, _, _, _, h => by simp [AL.idx] at h
  | e :: es, (a, x) :: m, j, h, i, u, hi => by
    simp only [List.map_cons, List.cons.injEq, Prod.mk.injEq] at h
    obtain ⟨⟨h1, h2⟩, h3⟩ := h
    simp only [AL.idx] at hi
    split at hi
    · rename_i e1
      simp only [Option.some.injEq, Prod.mk.injEq] at hi
      obtain ⟨rfl, rfl⟩ := hi
      subst e1
      simp [AL.del, h3]
    · rename_i e1
      obtain ⟨g1, g2, g3⟩ := erase_map K ve k es m (j + 1) h3 i u hi
      refine ⟨by omega, ?_, ?_⟩
      · rw [show i - j = (i - (j + 1)) + 1 by omega]; simp [AL.del, e1, h1, h2, g2]
      · simp only [List.length_cons]; omega
theorem del_none (k : κ) : ∀ (m : List (κ × ν)) (j : Nat), AL.idx m k j = none → AL.del m k = m
  | [], _, _ => rfl
  | (a, x) :: m, j, h => by
    simp only [AL.idx] at h
    split at h
    · cases h
    · rename_i e; simp [AL.del, e, del_none k m (j + 1) h]
theorem o_delete {t kt vt : TypeId} {ats : Array TypeId} {i B : Nat} {k : κ} (hx : ev F x = some (.map (some B))) (hy : ev F y = some (K.enc k)) (hi : H[i]? = some (mapE K ve B m)) (hat : ats[0]? = some t) (hu : P.underlying t = some (.map kt vt)) (hk : P.underlying kt = some K.kd)
    (h : SO r ds P n w0 ops Q rest F (H.set i (mapE K ve B (AL.del m k)))) : SO r ds P n w0 ops Q (⟨none, .call { callee := .builtin .delete, args := #[x, y], argTypes := ats }, ty, pos, after, none⟩ :: rest) F H := fun a w ha hw =>
  wpL_plain rfl (fun _ h => by cases h) fun KK hK => by
    obtain ⟨es, c, h1, h2, hbn⟩ := (hw.at hi).here
    have hf := run_findKey (P := P) (K := K) (ve := ve) (m := m) (k := k) (es := es.toList) (w := w) hk h2
    have key : ∀ es' c', es'.toList.map (fun e => (e.key, e.val)) = (AL.del m k).map (fun p => (K.enc p.1, ve p.2)) ∧ Born es'.toList c' → HeapIs w0 (H.set i (mapE K ve B (AL.del m k))) { w with heap := w.heap.setIfInBounds B (.map es' c') } := fun es' c' he => by
      refine hw.change hi ⟨rfl, rfl, rfl⟩ (by simp) (fun b hb => .inl hb) (fun b _ hb => ?_) (fun _ _ ha hA => MapIs.agree ha hA) ⟨es', c', ?_, he⟩
      · show (w.heap.setIfInBounds B _)[b]? = _
        exact Array.getElem?_setIfInBounds_ne (fun e => hb e.symm)
      · have hlt : B < w.heap.size := (hw.at hi).bound B rfl
        show (w.heap.setIfInBounds B _)[B]? = _
        simp [hlt]
    have hset : ∀ o, (setObj B o).run P w = .ok () { w with heap := w.heap.setIfInBounds B o } := fun o => by simp [setObj, Sem.run, h1]
    have hrun : ∃ es' c', (Builtin.delete_ ats ty #[.map (some B), K.enc k]).run P w = .ok (.tuple #[]) { w with heap := w.heap.setIfInBounds B (.map es' c') } ∧ es'.toList.map (fun e => (e.key, e.val)) = (AL.del m k).map (fun p => (K.enc p.1, ve p.2)) ∧ Born es'.toList c' := by
      cases hidx : AL.idx m k 0 with
      | none =>
        rw [hidx] at hf
        refine ⟨es, c, ?_, by rw [del_none k m 0 hidx]; exact h2, hbn⟩
        simp [Builtin.delete_, hat, run_bind, run_underlying hu, run_getMap h1, run_checkKey hk, hf, hset, run_pure]
      | some p =>
        rw [hidx] at hf
        obtain ⟨q, u⟩ := p
        obtain ⟨_, g2, g3⟩ := erase_map K ve k es.toList m 0 h2 q u hidx
        refine ⟨es.eraseIdxIfInBounds q, c, ?_, by simpa using g2, ?_⟩
        · simp [Builtin.delete_, hat, run_bind, run_underlying hu, run_getMap h1, run_checkKey hk, hf, hset, run_pure]
        · refine hbn.sub ?_
          rw [Array.toList_eraseIdxIfInBounds]
          exact List.eraseIdx_sublist _ _
    obtain ⟨es', c', h3, h4⟩ := hrun
    have h5 : (execOp a.eval ⟨none, .call { callee := .builtin .delete, args := #[x, y], argTypes := ats }, ty, pos, after, none⟩).run P w = .ok (.value (.tuple #[])) { w with heap := w.heap.setIfInBounds B (.map es' c') } := by
      simp [execOp, resolve, invoke, builtin, ha.eval hx, ha.eval hy, h3]
    unfold Oper.wp
    rw [h5]
    exact hK _ _ (h _ _ ha (key es' c' h4))
theorem rmap_own {i B : Nat} (hi : H[i]? = some (mapE K ve B m)) : ∀ w, HeapIs w0 H w → MapIs K ve B m w := fun _ hw => (hw.at hi).here
theorem blk_base {i B : Nat} {o : Obj} (hi : H[i]? = some (base w0)) (h : w0.heap[B]? = some o) : ∀ w, HeapIs w0 H w → w.heap[B]? = some o := fun w hw => by
  have hlt : B < w0.heap.size := by
    rcases Nat.lt_or_ge B w0.heap.size with h2 | h2
    · exact h2
    · rw [Array.getElem?_eq_none h2] at h; cases h
  exact ((hw.toBelow hi).block B hlt).trans h
structure ItSt (K : KTy κ) (ve : ν → Value) (es : Array MapEntry) (c since c0 : Nat) (seen : Array Nat) (left : List (κ × ν)) (cur : Option (κ × ν)) : Prop where
  old : ∀ e ∈ es.toList, e.born < since
  le : since ≤ c0
  lec : since ≤ c
  rest : (leftOf es seen).toList.map (fun e => (e.key, e.val)) = left.map (fun p => (K.enc p.1, ve p.2))
  last : ∀ p, cur = some p → ∃ (e : MapEntry) (s0 : Array Nat), e ∈ es.toList ∧ seen = s0.push e.born ∧ c0 = c ∧ e.key = K.enc p.1 ∧ e.val = ve p.2
def iterE (K : KTy κ) (ve : ν → Value) (B Bm : Nat) (es : Array MapEntry) (c : Nat) (left : List (κ × ν)) (cur : Option (κ × ν)) : Ent :=
  ⟨fun b => b = B, fun w => ∃ since seen c0, w.heap[B]? = some (.mapIter (some Bm) since seen c0) ∧ ItSt K ve es c since c0 seen left cur⟩
theorem iterE_st {B Bm : Nat} {es : Array MapEntry} {c : Nat} {left : List (κ × ν)} {cur : Option (κ × ν)} : ∀ w1 w2, Agree (fun b => b = B) w1 w2 → (iterE K ve B Bm es c left cur).A w1 → (iterE K ve B Bm es c left cur).A w2 := fun w1 w2 ha ⟨since, seen, c0, h1, h2⟩ => ⟨since, seen, c0, (ha B rfl).trans h1, h2⟩
theorem o_range {t kt vt : TypeId} {Bm : Nat} {es : Array MapEntry} {c : Nat} (hx : ev F x = some (.map (some Bm))) (hb : ∀ w, HeapIs w0 H w → w.heap[Bm]? = some (.map es c)) (hm : es.toList.map (fun e => (e.key, e.val)) = m.map (fun p => (K.enc p.1, ve p.2))) (hn : Born es.toList c) (hu : P.underlying t = some (.map kt vt)) (hd : Nat.blt d n = true)
    (h : ∀ B, SO r ds P n w0 ops Q rest ((d, .pointer (some ⟨B, 0, none⟩)) :: F) (iterE K ve B Bm es c m none :: H)) : SO r ds P n w0 ops Q (⟨some d, .range t x, ty, pos, after, none⟩ :: rest) F H := fun a w ha hw =>
  wpL_plain rfl (fun _ h => by cases h) fun KK hK => by
    have hrun : (execOp a.eval ⟨some d, .range t x, ty, pos, after, none⟩).run P w = .ok (.value (.pointer (some ⟨w.heap.size, 0, none⟩))) (w.alloc (.mapIter (some Bm) c #[] c)) := by
      simp [execOp, ha.eval hx, run_range_map w t kt vt Bm es c hu (hb w hw)]
    unfold Oper.wp
    rw [hrun]
    refine hK _ _ (h w.heap.size _ _ (ha.put hd _) (hw.push _ iterE_st ⟨c, #[], c, by simp, ?_⟩))
    refine ⟨hn.2, Nat.le_refl _, Nat.le_refl _, ?_, fun p hp => by cases hp⟩
    have : leftOf es #[] = es := by unfold leftOf; simp
    rw [this]; exact hm
theorem left_push {es : Array MapEntry} {seen : Array Nat} {left : List (κ × ν)} (hn : (es.toList.map (·.born)).Nodup) (hl : (leftOf es seen).toList.map (fun e => (e.key, e.val)) = left.map (fun p => (K.enc p.1, ve p.2))) {e : MapEntry} (he : e ∈ (leftOf es seen).toList) :
    ∃ p A C, left = A ++ p :: C ∧ e.key = K.enc p.1 ∧ e.val = ve p.2 ∧ (leftOf es (seen.push e.born)).toList.map (fun e => (e.key, e.val)) = (A ++ C).map (fun p => (K.enc p.1, ve p.2)) := by
  have h0 : (leftOf es (seen.push e.born)).toList = (leftOf es seen).toList.filter (fun x => !(x.born == e.born)) := by
    unfold leftOf
    simp only [Array.toList_filter, List.filter_filter]
    congr 1; funext x
    simp only [Array.contains_push, Bool.not_or]
    rw [Bool.and_comm]
  have hsub : ((leftOf es seen).toList.map (·.born)).Nodup := by
    unfold leftOf; rw [Array.toList_filter]
    exact (List.filter_sublist.map _).nodup hn
  rw [h0]
  generalize (leftOf es seen).toList = L at *
  obtain ⟨i, hi, rfl⟩ := List.getElem_of_mem he
  have hlen : L.length = left.length := by have := congrArg List.length hl; simpa using this
  have hi' : i < left.length := by omega
  have hsplit : L = L.take i ++ L[i] :: L.drop (i + 1) := by rw [← List.drop_eq_getElem_cons hi, List.take_append_drop]
  have hfil : L.filter (fun x => !(x.born == L[i].born)) = L.take i ++ L.drop (i + 1) := by
    have hp := List.pairwise_iff_getElem.1 hsub
    have hsp : L.filter (fun x => !(x.born == L[i].born)) = (L.take i).filter (fun x => !(x.born == L[i].born)) ++ (L[i] :: L.drop (i + 1)).filter (fun x => !(x.born == L[i].born)) := by
      rw [← List.filter_append, ← hsplit]
    rw [hsp, List.filter_cons]
    simp only [beq_self_eq_true, Bool.not_true, Bool.false_eq_true, if_false]
    congr 1
    · rw [List.filter_eq_self]; intro y hy
      obtain ⟨j, hj, rfl⟩ := List.getElem_of_mem hy
      rw [List.length_take] at hj
      rw [List.getElem_take]
      have := hp j i (by simp; omega) (by simpa using hi) (by omega)
      simpa using this
    · rw [List.filter_eq_self]; intro y hy
      obtain ⟨j, hj, rfl⟩ := List.getElem_of_mem hy
      rw [List.length_drop] at hj
      rw [List.getElem_drop]
      have := hp i (i + 1 + j) (by simpa using hi) (by simp; omega) (by omega)
      simp only [List.getElem_map] at this
      simpa using fun h => this h.symm
  have hkv : ((L[i]).key, (L[i]).val) = (K.enc (left[i]).1, ve (left[i]).2) := by
    have h1 : (L.map (fun e => (e.key, e.val)))[i]? = (left.map (fun p => (K.enc p.1, ve p.2)))[i]? := by rw [hl]
    simpa [List.getElem?_map, List.getElem?_eq_getElem hi, List.getElem?_eq_getElem hi'] using h1
  refine ⟨left[i], left.take i, left.drop (i + 1), by rw [← List.drop_eq_getElem_cons hi', List.take_append_drop], (Prod.mk.inj hkv).1, (Prod.mk.inj hkv).2, ?_⟩
  rw [hfil, List.map_append, List.map_append, List.map_take, List.map_drop, hl, List.map_take, List.map_drop]
theorem o_next {i B Bm : Nat} {es : Array MapEntry} {c : Nat} {left : List (κ × ν)} {cur : Option (κ × ν)} (hx : ev F x = some (.pointer (some ⟨B, 0, none⟩))) (hi : H[i]? = some (iterE K ve B Bm es c left cur)) (hb : ∀ w, HeapIs w0 H w → w.heap[Bm]? = some (.map es c)) (hn : Born es.toList c) (hd : Nat.blt d n = true)
    (h1 : left = [] → SO r ds P n w0 ops Q rest ((d, .tuple #[.bool false]) :: F) H)
    (h2 : ∀ p A C, left = A ++ p :: C → SO r ds P n w0 ops Q rest ((d, .tuple #[.bool true, K.enc p.1, ve p.2]) :: F) (H.set i (iterE K ve B Bm es c (A ++ C) (some p)))) :
    SO r ds P n w0 ops Q (⟨some d, .next x false, ty, pos, after, none⟩ :: rest) F H := fun a w ha hw =>
  wpL_plain rfl (fun _ h => by cases h) fun KK hK => by
    obtain ⟨since, seen, c0, g1, g2⟩ := (hw.at hi).here
    rcases run_next_at (P := P) w ty B Bm since c0 seen es c g1 (hb w hw) g2.old g2.le with ⟨q1, q2⟩ | ⟨e, he, w1, hw1, q2⟩
    · have hrun : (execOp a.eval ⟨some d, .next x false, ty, pos, after, none⟩).run P w = .ok (.value (.tuple #[.bool false])) w := by
        simp [execOp, ha.eval hx, q2]
      have hl : left = [] := by
        have h3 := congrArg List.length g2.rest
        simp only [List.length_map, Array.length_toList, q1] at h3
        exact List.length_eq_zero_iff.1 h3.symm
      unfold Oper.wp
      rw [hrun]
      exact hK _ _ (h1 hl _ _ (ha.put hd _) hw)
    · have hrun : (execOp a.eval ⟨some d, .next x false, ty, pos, after, none⟩).run P w = .ok (.value (.tuple #[.bool true, e.key, e.val])) (ChangeMaps.setBlock w1 B (.mapIter (some Bm) since (seen.push e.born) c)) := by
        simp [execOp, ha.eval hx, q2]
      obtain ⟨p, A, C, e1, e2, e3, e4⟩ := left_push (K := K) (ve := ve) hn.1 g2.rest he
      unfold Oper.wp
      rw [hrun, e2, e3]
      have hw' : HeapIs w0 H w1 := by rcases hw1 with rfl | rfl; exact hw; exact hw.drew _
      refine hK _ _ (h2 p A C e1 _ _ (ha.put hd _) ?_)
      have hlt : B < w1.heap.size := (hw'.at hi).bound B rfl
      refine hw'.change hi ⟨rfl, rfl, rfl⟩ (by simp [ChangeMaps.setBlock]) (fun b hb => .inl hb) (fun b _ hb => ?_) iterE_st ⟨since, seen.push e.born, c, ?_, g2.old, g2.lec, g2.lec, e4, fun p' hp' => ?_⟩
      · show (w1.heap.setIfInBounds B _)[b]? = _
        exact Array.getElem?_setIfInBounds_ne (fun e => hb e.symm)
      · show (w1.heap.setIfInBounds B _)[B]? = _
        simp [hlt]
      · obtain rfl := Option.some.inj hp'
        exact ⟨e, seen, by unfold leftOf at he; rw [Array.toList_filter] at he; exact (List.mem_filter.1 he).1, rfl, rfl, e2, e3⟩
theorem p_entry {i B Bm : Nat} {es : Array MapEntry} {c : Nat} {left : List (κ × ν)} {p : κ × ν} (hx : ev F x = some (.pointer (some ⟨B, 0, none⟩))) (hi : H[i]? = some (iterE K ve B Bm es c left (some p))) (hb : ∀ w, HeapIs w0 H w → w.heap[Bm]? = some (.map es c)) (hn : Born es.toList c) :
    Pure ds P n w0 ⟨dst, .entry x, ty, pos, after, guard⟩ F H (.tuple #[K.enc p.1, ve p.2]) := fun a w ha hw => by
  obtain ⟨since, seen, c0, g1, g2⟩ := (hw.at hi).here
  obtain ⟨e, s0, he, hs, hc, hk, hv⟩ := g2.last p rfl
  subst hs; subst hc
  rw [← hk, ← hv]
  simp [execOp, ha.eval hx, run_entry_at (P := P) w B Bm since s0 es c0 e g1 (hb w hw) he hn.1]
end
theorem it_fin {φ : Nat → Ent → Prop} {k N : Nat} {e : Ent} (h : φ k e) (hk : k = N) : φ N e := hk ▸ h
end Go.Sx

/- Strings as keys of maps and as elements; structs with strings compared; function values called in a drawn region; the greater of two numbers without sign. -/
namespace Go.Sx
open Go.RowKit
instance : Inhabited ByteArray := ⟨ByteArray.empty⟩
theorem ba_beq (a b : ByteArray) : (a == b) = decide (a = b) := by
  rw [Bool.eq_iff_iff, decide_eq_true_eq]
  cases a with
  | mk x =>
  cases b with
  | mk y =>
  show (x == y) = true ↔ _
  rw [beq_iff_eq, ByteArray.mk.injEq]
instance : LawfulBEq ByteArray where
  eq_of_beq h := by rw [ba_beq] at h; exact of_decide_eq_true h
  rfl := by intro a; rw [ba_beq]; exact decide_eq_true rfl
section
variable {P : Program} {n : Nat} {w0 : World} {r : Option Nat} {ds : List Deferred} {Q : Exit → Act → World → Prop} {F F' : List (Nat × Value)} {H H' : List Ent} {ops : Array Oper}
variable {ty : TypeId} {pos : String} {after : Array Edge} {guard : Option (Nat × Bool)} {dst : Option Tmp} {rest : List Oper} {d : Nat} {x y : Operand}
theorem w_call0V {f : FuncId} {g : Operand} {args : Array Operand} {ats : Array TypeId} {vs caps : List Value} {Pre : World → Prop} {v : Value} (hg : ev F g = some (.func (.func f) #[] caps.toArray)) (hv : evs F args.toList = some vs) (hf : Fn0 P f (vs ++ caps) Pre v) (hP : HasFn P f) (hpre : ∀ w, HeapIs w0 H w → Pre w) (hn : Nat.blt d n = true)
    (h : SW ds P n w0 ops Q rest ((d, v) :: F) H) : SW ds P n w0 ops Q (⟨some d, .call { callee := .value g, args := args, argTypes := ats }, ty, pos, after, none⟩ :: rest) F H := fun a ha =>
  wpQuiet_step fun K hK => by
    obtain ⟨fn, c, h1, h2, h3⟩ := hP
    rw [if_pos (by simp [Region.wanted])]
    refine ⟨v, fun w hw => ?_, hK _ (h _ (ha.put hn v))⟩
    unfold Oper.quietAt
    rw [run_callV ha hg hv h1 h2 h3]
    exact ⟨rfl, (hf w (hpre w hw)).mono fun e w' ⟨he, hb⟩ => ⟨he, hw.below hb⟩⟩
end
theorem boxX_outer {w0 : World} {H : List Ent} {i B : Nat} {cs : List Value} {U : TypeId} {pre0 pre : List Ent} {js : List Nat} (hi : H[i]? = some (outer w0 pre0)) (hj : i ∉ js) (hp : js.map (H[·]?) = pre.map some) (h : (box B cs U).A w0 ∧ (outer w0 pre0).S B) : ∀ w, HeapIs w0 H w → (box B cs U).A w ∧ (outer w pre).S B :=
  fun w hw => ⟨rbox_outer hi h w hw, outX hi hj hp h.2 w hw⟩
end Go.Sx

/- Shorter steps: what an operand holds is read off the frame. -/
namespace Go.Sx
open Go.RowKit
section
variable {P : Program} {n : Nat} {w0 : World} {r : Option Nat} {ds : List Deferred} {Q : Exit → Act → World → Prop} {F : List (Nat × Value)} {H Hr : List Ent} {ops : Array Oper}
variable {ty : TypeId} {pos : String} {after : Array Edge} {rest : List Oper} {d : Nat} {v : Value} {c x y : Operand}
theorem o_as (hx : ev F x = some v) (hn : Nat.blt d n = true) (h : SO r ds P n w0 ops Q rest ((d, v) :: F) H) : SO r ds P n w0 ops Q (⟨some d, .assign x, ty, pos, after, none⟩ :: rest) F H := o_pure (p_assign hx) rfl rfl hn h
theorem o_ex {i : Nat} {vs : List Value} (hx : ev F x = some (.tuple vs.toArray)) (hv : vs[i]? = some v) (hn : Nat.blt d n = true) (h : SO r ds P n w0 ops Q rest ((d, v) :: F) H) : SO r ds P n w0 ops Q (⟨some d, .extract x i, ty, pos, after, none⟩ :: rest) F H := o_pure (p_extract hx hv) rfl rfl hn h
theorem w_mv (hx : ev F x = some v) (hn : Nat.blt d n = true) (h : SW ds P n w0 ops Q rest ((d, v) :: F) H) : SW ds P n w0 ops Q (⟨some d, .move x, ty, pos, after, none⟩ :: rest) F H := w_pure (p_move hx) rfl rfl hn h
theorem w_pt (hc : ev F c = some (.bool true)) (hx : ev F x = some v) (hn : Nat.blt d n = true) (h : SW ds P n w0 ops Q rest ((d, v) :: F) H) : SW ds P n w0 ops Q (⟨some d, .pick c x y, ty, pos, after, none⟩ :: rest) F H := w_pure (p_pick_true hc hx) rfl rfl hn h
theorem w_pf (hc : ev F c = some (.bool false)) (hy : ev F y = some v) (hn : Nat.blt d n = true) (h : SW ds P n w0 ops Q rest ((d, v) :: F) H) : SW ds P n w0 ops Q (⟨some d, .pick c x y, ty, pos, after, none⟩ :: rest) F H := w_pure (p_pick_false hc hy) rfl rfl hn h
variable {fuel : Nat} {listed : Array Bool}
theorem h_tk {i : Nat} {o : Oper} {ls : Array Bool} (hi : ops[i]? = some o) (hp : Pure ds P n w0 o F Hr v) (hsub : ∀ w, HeapIs w0 H w → HeapIs w0 Hr w) (k : SH ds P n w0 ops Q Hr fuel ls ((d, v) :: F) H)
    (hs : Region.noSelect ops = true := by kernel_rfl) (hf : Region.free .any ops listed i = true := by kernel_rfl) (hr : (Region.ready .any ops listed).contains i = true := by kernel_rfl) (hQ : ∀ c a w, Q (.panic c) (a.put o.dst v) w → Q (.panic c) a w := by exact fun _ _ _ h => h)
    (hg : o.guard = none := by rfl) (hd : o.dst = some d := by rfl) (hn : Nat.blt d n = true := by rfl) (hls : ls = listed.setIfInBounds i true := by rfl) : SH ds P n w0 ops Q Hr (fuel + 1) listed F H := h_take hi hs hf hr hQ hp hg hd hn hsub hls k
theorem h_t0 {i : Nat} {o : Oper} {ls : Array Bool} (hi : ops[i]? = some o) (hp : Pure ds P n w0 o F H v) (k : SH ds P n w0 ops Q H fuel ls ((d, v) :: F) H)
    (hs : Region.noSelect ops = true := by kernel_rfl) (hf : Region.free .any ops listed i = true := by kernel_rfl) (hr : (Region.ready .any ops listed).contains i = true := by kernel_rfl) (hQ : ∀ c a w, Q (.panic c) (a.put o.dst v) w → Q (.panic c) a w := by exact fun _ _ _ h => h)
    (hg : o.guard = none := by rfl) (hd : o.dst = some d := by rfl) (hn : Nat.blt d n = true := by rfl) (hls : ls = listed.setIfInBounds i true := by rfl) : SH ds P n w0 ops Q H (fuel + 1) listed F H := h_take hi hs hf hr hQ hp hg hd hn (fun _ h => h) hls k
end
end Go.Sx
namespace Go.Sx
open Go.RowKit
abbrev T1 : Bool := true
abbrev F0 : Bool := false
abbrev Vi (z : Int) : Value := .int .i64 z
section
variable {P : Program} {n : Nat} {w0 : World} {r : Option Nat} {ds : List Deferred} {Q : Exit → Act → World → Prop} {F F' : List (Nat × Value)} {H Hr : List Ent} {ops : Array Oper}
theorem lj {α : Type _} {a : α} {l1 l2 : List α} (h : List.Sublist l1 l2) : List.Sublist (a :: l1) (a :: l2) := List.Sublist.cons_cons a h
theorem lz {α : Type _} {a : α} {l1 l2 : List α} (h : List.Sublist l1 l2) : List.Sublist l1 (a :: l2) := List.Sublist.cons a h
theorem ln {α : Type _} : List.Sublist ([] : List α) [] := List.Sublist.slnil
theorem lr {α : Type _} {l : List α} : List.Sublist l l := List.Sublist.refl l
theorem dp (h : Hr.Sublist H) : ∀ w, HeapIs w0 H w → HeapIs w0 Hr w := fun _ hw => HeapIs.drop hw h
theorem pk {H H' : List Ent} (is : List Nat) (hn : is.Nodup := by decide) (hH : is.map (H[·]?) = H'.map some := by rfl) : ∀ w, HeapIs w0 H w → HeapIs w0 H' w := fun _ hw => HeapIs.pick hw is hn hH
theorem sr {s : Nat} {v : Value} (h : Sub F F') (h1 : lk F s = some v := by rfl) : Sub F ((s, v) :: F') := Sub.cons h1 h
theorem o_p {o : Oper} {d : Nat} {v : Value} {rest : List Oper} (hp : Pure ds P n w0 o F H v) (h : SO r ds P n w0 ops Q rest ((d, v) :: F) H) (hg : o.guard = none := by rfl) (hd : o.dst = some d := by rfl) (hn : Nat.blt d n = true := by rfl) : SO r ds P n w0 ops Q (o :: rest) F H := o_pure hp hg hd hn h
theorem w_p {o : Oper} {d : Nat} {v : Value} {rest : List Oper} (hp : Pure ds P n w0 o F H v) (h : SW ds P n w0 ops Q rest ((d, v) :: F) H) (hg : o.guard = none := by rfl) (hd : o.dst = some d := by rfl) (hn : Nat.blt d n = true := by rfl) : SW ds P n w0 ops Q (o :: rest) F H := w_pure hp hg hd hn h
end
end Go.Sx
