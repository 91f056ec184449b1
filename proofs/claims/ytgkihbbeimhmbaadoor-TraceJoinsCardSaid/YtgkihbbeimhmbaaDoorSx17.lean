/- More rules: copy, append of zeros, cap, whether two slices overlap (what slices.Insert asks). -/
import Derived.Test.YtgkihbbeimhmbaaDoorSx16
import Derived.Lib.Overlaps
import Derived.Laws.Externs
namespace Go.Sx
open Go.RowKit
section
variable {α : Type} {P : Program} {n : Nat} {w0 : World} {r : Option Nat} {ds : List Deferred} {Q : Exit → Act → World → Prop} {F F' : List (Nat × Value)} {H H' : List Ent} {ops : Array Oper}
variable {ty : TypeId} {pos : String} {after : Array Edge} {guard : Option (Nat × Bool)} {dst : Option Tmp} {rest : List Oper} {d : Nat} {x y : Operand}
variable {T : Ty α} {a : Option Addr} {cap : Nat} {L : List α} {S : Nat → Prop}
/-- s[:h], perhaps beyond len(s) -/
theorem p_slice0 {t e : TypeId} {len hi k : Nat} {hv : Int} (hx : ev F x = some (.slice a len cap)) (hy : ev F y = some (.int .i64 hv)) (hu : P.underlying t = some (.slice e)) (hs : sizeIs P e = some k) (h1 : hv = (hi : Int)) (h2 : hi ≤ cap) :
    Pure ds P n w0 ⟨dst, .slice t x none (some y) none, ty, pos, after, guard⟩ F H (.slice a hi cap) := fun b' w' hb' hw' => by
  subst h1
  have := p_slice (P := P) (n := n) (w0 := w0) (ds := ds) (H := H) (dst := dst) (ty := ty) (pos := pos) (after := after) (guard := guard) (l := 0) (hi := hi) (m := cap) (lv := none) (hv := some (.int .i64 (hi : Int))) (mv := none) (lo := none) (h_ := some y) (mx := none) (k' := hi) hx rfl (by simp [hy]) rfl hu hs (.inl ⟨rfl, rfl⟩) (.inr ⟨.i64, rfl⟩) (.inl ⟨rfl, rfl⟩) (fun h => by cases h) (Nat.zero_le _) h2 (Nat.le_refl _) (by simp)
  rw [sa_zero] at this
  exact this b' w' hb' hw'
/-- s[l:], where only the length of s is known -/
theorem p_sliceLE {t e : TypeId} {k : IntKind} {l : Int} {j m : Nat} (hx : ev F x = some (.slice a m cap)) (hy : ev F y = some (.int k l)) (hj : H[j]? = some (ownE T S a cap m)) (hu : P.underlying t = some (.slice e)) (hs : sizeIs P e = some T.k) (h0 : 0 ≤ l) (h1 : l ≤ (m : Int)) :
    Pure ds P n w0 ⟨dst, .slice t x (some y) none none, ty, pos, after, guard⟩ F H (.slice (sa a cap l.toNat T.k) (m - l.toNat) (cap - l.toNat)) := fun b' w' hb' hw' => by
  obtain ⟨L', h2, h3⟩ := (hw'.at hj).here
  have hc : m ≤ cap := by have := h3.1; omega
  have hh : l = (l.toNat : Int) := by omega
  exact p_slice (P := P) (n := n) (w0 := w0) (ds := ds) (H := H) (l := l.toNat) (hi := m) (m := cap) (lv := some (.int k l)) (hv := none) (mv := none) hx (by simp [hy]) rfl rfl hu hs (.inr ⟨k, by rw [← hh]⟩) (.inl ⟨rfl, rfl⟩) (.inl ⟨rfl, rfl⟩) (fun _ => rfl) (by omega) hc (Nat.le_refl _) rfl b' w' hb' hw'
/-- s[i], the elements of s having been changed -/
theorem p_indexAddrS {t e : TypeId} {k : IntKind} {i : Int} {j m : Nat} {L' : List α} (hx : ev F x = some (.slice a m cap)) (hy : ev F y = some (.int k i)) (hj : H[j]? = some (own T S a cap L')) (hm : L'.length = m) (hu : P.underlying t = some (.slice e)) (hs : sizeIs P e = some T.k)
    (h0 : 0 ≤ i) (h1 : i < (m : Int)) : Pure ds P n w0 ⟨dst, .indexAddr t x y, ty, pos, after, guard⟩ F H (.pointer (some (ea a (i.toNat * T.k)))) := fun b w hb hw => by
  have h3 : SlO T S w a cap L' := (hw.at hj).here
  obtain ⟨z, rfl, hz⟩ := (SlO.toR h3).nonnil (by omega)
  simp [execOp, hb.eval hx, hb.eval hy, Instr.indexAt, asIntOf, run_underlying hu, run_sizeOf hs, h0, h1, ea]
theorem p_cap_slice {t e : TypeId} {len : Nat} {ats : Array TypeId} (hx : ev F x = some (.slice a len cap)) (hat : ats[0]? = some t) (hu : P.underlying t = some (.slice e)) : Pure ds P n w0 ⟨dst, .call { callee := .builtin .cap, args := #[x], argTypes := ats }, ty, pos, after, guard⟩ F H (.int .i64 (cap : Int)) := fun b w hb _ => by
  simp [execOp, resolve, invoke, builtin, Builtin.cap_, hb.eval hx, hat, run_underlying hu, goInt]
/-- Elements are written from the place lo on. -/
theorem HeapIs.putAt {w : World} {i lo : Nat} {M : List α} (h : HeapIs w0 H w) (hi : H[i]? = some (own T S a cap L)) (hc0 : 0 < cap) (hlo : lo ≤ L.length) (hcap : lo + M.length ≤ cap) (hsm : lo + M.length ≤ 140737488355328) (hone : ∀ v ∈ M.flatMap T.enc, one1 v = true) :
    ∃ x w', a = some x ∧ (storeCells (x.add (lo * T.k)) (M.flatMap T.enc) 0).run P w = .ok () w' ∧ HeapIs w0 (H.set i (own T S a cap (L.take lo ++ M ++ L.drop (lo + M.length)))) w' := by
  have g : SlO T S w a cap L := (h.at hi).here
  obtain ⟨g1, g2, g3⟩ := g
  cases a with
  | none => have : cap = 0 := g3; omega
  | some p =>
    obtain ⟨gs, gS, ⟨c, ty, gh, gl⟩, gr⟩ := g3
    obtain ⟨b, o, s⟩ := p
    simp only at gs gS gh gl gr
    subst gs
    have had : Addr.add ⟨b, o, none⟩ (lo * T.k) = ⟨b, o + lo * T.k, none⟩ := by unfold Addr.add; split <;> simp_all
    have hfl := flat_len M T.enc T.len
    have hb1 : lo * T.k + M.length * T.k ≤ cap * T.k := by rw [← Nat.add_mul]; exact Nat.mul_le_mul_right _ hcap
    have gl' : o + cap * T.k ≤ c.size := gl
    obtain ⟨w', c', h1, h2, h3, h4, h5, h6, h7⟩ := run_storeCells (P := P) (b := b) (o := o + lo * T.k) (M.flatMap T.enc) 0 w c ty gh hone (by rw [hfl]; omega)
    refine ⟨⟨b, o, none⟩, w', rfl, by rw [had]; exact h1, h.change hi h5 (by omega) (fun b hb => .inl hb) (fun k _ hk => h7 k (fun e => hk (e ▸ gS))) (fun w1 w2 ha hA => SlO.agree (T := T) (S := S) (a := some ⟨b, o, none⟩) (cap := cap) (L := L.take lo ++ M ++ L.drop (lo + M.length)) ha hA) ?_⟩
    have hlen : (L.take lo ++ M ++ L.drop (lo + M.length)).length ≤ cap ∧ (L.take lo ++ M ++ L.drop (lo + M.length)).length ≤ 140737488355328 := by
      simp only [List.length_append, List.length_take, List.length_drop]; omega
    refine ⟨hlen.1, hlen.2, rfl, gS, ⟨c', ty, h2, by show o + cap * T.k ≤ c'.size; omega⟩, fun m hm q hq => ?_⟩
    have hcell : w'.cell? ⟨b, o + m * T.k + q, none⟩ = c'[o + m * T.k + q]? := by simp [World.cell?, h2]
    rw [hcell, h4]
    simp only [Nat.add_zero, hfl]
    have hold : ∀ (m' : Nat) (hm' : m' < L.length), c[o + m' * T.k + q]? = (T.enc L[m'])[q]? := fun m' hm' => by
      have := gr m' hm' q hq
      simpa [World.cell?, gh] using this
    have hm2 : m < (L.take lo).length + M.length + (L.drop (lo + M.length)).length := by simpa [Nat.add_assoc] using hm
    have htl : (L.take lo).length = lo := by simp; omega
    rcases Nat.lt_or_ge m lo with hlt | hge
    · have : m * T.k + T.k ≤ lo * T.k := by
        calc m * T.k + T.k = (m + 1) * T.k := by rw [Nat.add_mul]; omega
          _ ≤ lo * T.k := Nat.mul_le_mul_right _ hlt
      rw [if_neg (by omega), hold m (by omega)]
      rw [List.getElem_append_left (by simp; omega), List.getElem_append_left (by omega), List.getElem_take]
    · rcases Nat.lt_or_ge m (lo + M.length) with hlt2 | hge2
      · have e1 : m * T.k = lo * T.k + (m - lo) * T.k := by rw [← Nat.add_mul]; congr 1; omega
        have e2 : (m - lo) * T.k + q < M.length * T.k := by
          calc (m - lo) * T.k + q < (m - lo) * T.k + T.k := by omega
            _ = (m - lo + 1) * T.k := by rw [Nat.add_mul]; omega
            _ ≤ M.length * T.k := Nat.mul_le_mul_right _ (by omega)
        rw [if_pos (by omega), show o + m * T.k + q - (o + lo * T.k) = (m - lo) * T.k + q by omega, flat_get T.enc T.len M (m - lo) q (by omega) hq]
        rw [List.getElem_append_left (by simp; omega), List.getElem_append_right (by omega)]
        simp only [htl]
      · have e1 : (lo + M.length) * T.k ≤ m * T.k := Nat.mul_le_mul_right _ hge2
        rw [Nat.add_mul] at e1
        simp only [List.length_drop, htl] at hm2
        rw [if_neg (by omega), hold m (by omega)]
        rw [List.getElem_append_right (by simp; omega), List.getElem_drop]
        have e3 : (L.take lo ++ M).length = lo + M.length := by rw [List.length_append, htl]
        have e4 : lo + M.length + (m - (L.take lo ++ M).length) = m := by rw [e3]; omega
        simp only [e4]
theorem firstCells_len {k m : Nat} {b : Option Addr} {l1 c1 l2 c2 : Nat} : Builtin.firstCells k m (.slice b l1 c1) = Builtin.firstCells k m (.slice b l2 c2) := by cases b <;> rfl
/-- copy(s[lo:], x): m elements come -/
theorem o_copy {t tx e : TypeId} {i lo dl dc sl cb m : Nat} {b : Option Addr} {cM : Nat} {M : List α} (hx : ev F x = some (.slice (sa a cap lo T.k) dl dc)) (hy : ev F y = some (.slice b sl cb)) (hi : H[i]? = some (own T S a cap L)) (hM : ∀ w, HeapIs w0 H w → Rd T w b cM M)
    (hm : min sl dl = M.length) (hu : P.underlying t = some (.slice e)) (hs : sizeIs P e = some T.k) (hone : ∀ z : α, ∀ v ∈ T.enc z, one1 v = true) (hc : 0 < cap ∧ lo < cap ∧ lo ≤ L.length ∧ lo + M.length ≤ cap ∧ lo + M.length ≤ 140737488355328) (hn : Nat.blt d n = true)
    (hmm : M.length = m) (hF : Sub ((d, .int .i64 (m : Int)) :: F) F') (h : SO r ds P n w0 ops Q rest F' (H.set i (own T S a cap (L.take lo ++ M ++ L.drop (lo + M.length))))) :
    SO r ds P n w0 ops Q (⟨some d, .call { callee := .builtin .copy, args := #[x, y], argTypes := #[t, tx] }, ty, pos, after, none⟩ :: rest) F H := fun c w hc' hw =>
  wpL_plain rfl (fun _ h => by cases h) fun K hK => by
    subst hmm
    replace hm : Nat.min sl dl = M.length := hm
    obtain ⟨p, w', rfl, h1, h2⟩ := hw.putAt (P := P) (M := M) hi hc.1 hc.2.2.1 hc.2.2.2.1 hc.2.2.2.2 (fun v hv => by obtain ⟨z, _, hz⟩ := List.mem_flatMap.1 hv; exact hone z v hz)
    have hsa : sa (some p) cap lo T.k = some (p.add (lo * T.k)) := by unfold sa; rw [if_neg (by omega)]; rfl
    have hcells : (Builtin.firstCells T.k M.length (.slice b sl cb)).run P w = .ok (M.flatMap T.enc).toArray w := by
      rw [firstCells_len (l2 := M.length) (c2 := cM)]; exact run_firstCells (hM w hw)
    have hrun : (execOp c.eval ⟨some d, .call { callee := .builtin .copy, args := #[x, y], argTypes := #[t, tx] }, ty, pos, after, none⟩).run P w = .ok (.value (.int .i64 (M.length : Int))) w' := by
      simp only [execOp, resolve, run_bind, run_pure, invoke, builtin, List.map_toArray, List.map_cons, List.map_nil, hc'.eval hx, hc'.eval hy, hsa]
      simp [Builtin.copy_, run_underlying hu, run_sizeOf hs, Builtin.lenOf, hm, hcells, h1, goInt]
    unfold Oper.wp
    rw [hrun]
    exact hK _ _ (h _ _ ((hc'.put hn _).sub hF) h2)
/-- append(s[:m], make([]T, k)...) beyond s's room: a new row; s stays as it is -/
theorem o_appendZ {t tn e : TypeId} {kk : IntKind} {bytes i m k : Nat} {kz : Int} {z : α} {zs : List Value} (hx : ev F x = some (.slice a (L.take m).length cap)) (hy : ev F y = some (.int .i64 kz)) (hi : H[i]? = some (own T S a cap L)) (hkz : kz = (k : Int))
    (hu : P.underlying t = some (.slice e)) (hun : P.underlying tn = some (.int kk)) (he : elemIs P e T.k bytes) (hz : zeroOf P e = some zs) (hzs : T.enc z = zs) (hk : 0 < T.k) (hm : m ≤ L.length ∧ cap < m + k ∧ m + k ≤ 1000001 ∧ bytes ≤ 1000) (hn : Nat.blt d n = true)
    (h : ∀ a' cap' S', SO r ds P n w0 ops Q rest ((d, .slice a' (L.take m ++ List.replicate k z).length cap') :: F) (own T S' a' cap' (L.take m ++ List.replicate k z) :: H)) :
    SO r ds P n w0 ops Q (⟨some d, .call { callee := .builtin .append, args := #[x, y], argTypes := #[t, tn] }, ty, pos, after, none⟩ :: rest) F H := fun c w hc hw =>
  wpL_plain rfl (fun _ h => by cases h) fun K hK => by
    have g : SlO T S w a cap L := (hw.at hi).here
    obtain ⟨i0, z0, hi0, hz0, hsz, hby, hzc⟩ := he
    have hsize : sizeIs P e = some T.k := by simp [sizeIs, hi0, hsz]
    have hlm : (L.take m).length = m := by simp; omega
    have hz1 : z0.cells.toList = T.enc z := by
      unfold zeroOf at hz
      rw [hi0] at hz
      simp only [Option.bind_some, hz0, Option.map_some, Option.some.injEq] at hz
      rw [hzs, hz]
    have hlt : cap < m + k := hm.2.1
    have hcap := nextcap_le hlt
    have hbig : ¬ (Builtin.nextslicecap (m + k) cap * i0.bytes > 2 ^ 48) := by
      rw [hby]
      have h1 : Builtin.nextslicecap (m + k) cap * bytes ≤ (m + k + (m + k) / 4 + 1200) * 1000 := Nat.mul_le_mul hcap hm.2.2.2
      have : (2 : Nat) ^ 48 = 281474976710656 := by decide
      omega
    let q : Question := .appendCap (m + k) cap e
    let nc := q.cut (w.tape w.drawn q)
    have hnc : m + k ≤ nc := by show _ ≤ _ + _; omega
    let w1 : World := { w with drawn := w.drawn + 1 }
    have hRL : Rd T w a cap (L.take m) := (SlO.toR (g.shrink (m := cap) hm.1 (by have := g.1; omega) (Nat.le_refl _))).mono (hw.at hi).bound
    have f1 : (Builtin.firstCells T.k m (.slice a m cap)).run P w1 = .ok ((L.take m).flatMap T.enc).toArray w1 := by
      have := run_firstCells (P := P) (SlR.agree (w' := w1) (fun _ _ => rfl) hRL)
      rw [hlm] at this; exact this
    have hzv : (zeroValue e).run P w1 = .ok z0 w1 := by simp [zeroValue, run_typeInfo hi0, hz0]
    have hroomq : ∀ (m : Nat) (w2 : World), (askRoom m).run P w2 = .ok () w2 := by intro m w2; unfold askRoom; split <;> rfl
    have hch : (choose (.appendCap (m + k) cap e)).run P w = .ok nc w1 := rfl
    let cells := ((L.take m).flatMap T.enc).toArray ++ Builtin.zeroCells z0.cells k ++ Builtin.zeroCells z0.cells (nc - (m + k))
    have hwrap : IntKind.i64.wrap (k : Int) = (k : Int) := wrap_i64 (by omega)
    have hne : ¬ (k * T.k = 0) ∨ k = 0 := by rcases Nat.eq_zero_or_pos k with h | h; exact .inr h; exact .inl (by have := Nat.mul_pos h hk; omega)
    have happ : (if k * T.k = 0 then (pure #[] : Sem (Array Value)) else do pure (Builtin.zeroCells (← zeroValue e).cells k)).run P w1 = .ok (Builtin.zeroCells z0.cells k) w1 := by
      rcases hne with hne | h0
      · rw [if_neg hne]; simp [hzv]
      · subst h0; simp [Builtin.zeroCells]
    have hlb : ¬ ((k : Int) * (i0.bytes : Int) > 2 ^ 48) := by
      rw [hby]
      have h1 : k * bytes ≤ 1000001 * 1000 := Nat.mul_le_mul (by omega) hm.2.2.2
      have h2 : ((k * bytes : Nat) : Int) = (k : Int) * (bytes : Int) := by simp
      have : (2 : Int) ^ 48 = 281474976710656 := by decide
      omega
    have hai : ∀ w, (asIntOf (Value.int IntKind.i64 (k : Int))).run P w = .ok (IntKind.i64, (k : Int)) w := fun _ => rfl
    have hrun : (execOp c.eval ⟨some d, .call { callee := .builtin .append, args := #[x, y], argTypes := #[t, tn] }, ty, pos, after, none⟩).run P w = .ok (.value (.slice (some ⟨w.heap.size, 0, none⟩) (m + k) nc)) { w1 with heap := w1.heap.push (.cells cells e) } := by
      simp only [execOp, resolve, run_bind, run_pure, invoke, builtin, List.map_toArray, List.map_cons, List.map_nil, hc.eval hx, hc.eval hy, hlm, hkz]
      unfold Builtin.append_
      simp only [List.getElem?_toArray, List.getElem?_cons_zero, List.getElem?_cons_succ, run_bind, run_underlying hu, run_underlying hun, run_sizeOf hsize, run_pure, asInt, hai, if_true, hwrap]
      rw [if_neg (by omega)]
      simp only [run_bind, run_typeInfo hi0, run_pure, if_neg hlb, Int.toNat_natCast, if_neg (show ¬ m + k ≤ cap by omega), true_or, and_true]
      rw [if_neg (by have : IntKind.i64.max = 9223372036854775807 := rfl; omega)]
      simp only [run_bind, run_typeInfo hi0, run_pure, if_neg hbig]
      simp only [run_bind, run_pure, hch, hroomq, f1, Bool.not_true, Bool.false_eq_true, if_false, happ, hzv, newRow, newObj, Sem.run]
      rfl
    unfold Oper.wp
    rw [hrun]
    have e2 : (L.take m ++ List.replicate k z).length = m + k := by simp; omega
    have hko := h (some ⟨w.heap.size, 0, none⟩) nc (fun c => c = w.heap.size)
    rw [e2] at hko
    have hw1 : HeapIs w0 H w1 := hw.drew _
    refine hK _ _ (hko _ _ (hc.put hn _) (hw1.push _ (fun w1 w2 ha hA => SlO.agree ha hA) ?_))
    refine SlO.fresh (e := e) (cs := cells.toList) (by simp [w1]) (Builtin.zeroCells z0.cells (nc - (m + k))).toList ?_ (by rw [e2]; exact hnc) ?_ (by rw [e2]; omega)
    · simp only [cells, Array.toList_append, List.flatMap_append, List.append_assoc]
      congr 2
      have hzf := zeros_flat (zc := z0.cells) (by rw [hz1]) hk k
      unfold Builtin.zeroCells; rw [hzc] at hzf ⊢; exact hzf
    · simp only [cells, Array.toList_append, List.length_append, Array.length_toList, flat_len (L.take m) T.enc T.len, Builtin.zeroCells, Array.size_map, Array.size_range, hzc, hlm, List.size_toArray]
      rw [← Nat.add_mul, ← Nat.add_mul]
      exact Nat.mul_le_mul_right _ (by omega)
/-- two slices in two blocks don't overlap -/
theorem p_overlaps {f : FuncId} {fn : Func} {tS tR e : TypeId} {ats : Array TypeId} {i j lo lb cb : Nat} {M : List α} {b2 : Option Addr} {S2 : Nat → Prop} {cap2 : Nat} (hf : P.funcs[f]? = some fn) (hname : (fn.name == "runtime.NumGoroutine") = false) (hb : fn.body.isNone = true) (hnx : Extern.findNext fn = none) (he : Extern.find fn = some (Extern.SlicesOverlaps.overlaps #[tS, tS] #[tR]))
    (hx : ev F x = some (.slice b2 M.length cap2)) (hy : ev F y = some (.slice (sa a cap lo T.k) lb cb)) (hi : H[i]? = some (own T S a cap L)) (hj : H[j]? = some (own T S2 b2 cap2 M)) (hij : i ≠ j) (hu : P.underlying tS = some (.slice e)) (hs : sizeIs P e = some T.k) (hL : 0 < L.length) (hM : 0 < M.length) (hk : 0 < T.k) :
    Pure ds P n w0 ⟨dst, .call { callee := .value (.func f), args := #[x, y], argTypes := ats }, ty, pos, after, guard⟩ F H (.bool false) := fun c w hc hw => by
  have g1 := (hw.at hi).here
  have g2 := (hw.at hj).here
  have hap := List.pairwise_iff_getElem.1 hw.apart
  obtain ⟨l1, q1⟩ := List.getElem?_eq_some_iff.1 hi
  obtain ⟨l2, q2⟩ := List.getElem?_eq_some_iff.1 hj
  have hdis : ∀ b, S b → S2 b → False := fun b h1 h2 => by
    rcases Nat.lt_or_gt_of_ne hij with hl | hl
    · exact hap _ _ l1 l2 hl b (by rw [q1]; exact h1) (by rw [q2]; exact h2)
    · exact hap _ _ l2 l1 hl b (by rw [q2]; exact h2) (by rw [q1]; exact h1)
  obtain ⟨p1, p2, p3⟩ := g1
  obtain ⟨r1, r2, r3⟩ := g2
  cases a with
  | none => have : cap = 0 := p3; omega
  | some A =>
    cases b2 with
    | none => have : cap2 = 0 := r3; omega
    | some B =>
      obtain ⟨s1, s2, ⟨cA, tA, s3, s4⟩, _⟩ := p3
      obtain ⟨t1, t2, ⟨cB, tB, t3, t4⟩, _⟩ := r3
      obtain ⟨ab, ao, asp⟩ := A
      obtain ⟨bb, bo, bs⟩ := B
      simp only at s1 s2 s3 s4 t1 t2 t3 t4
      subst s1; subst t1
      have hne : bb ≠ ab := fun e => hdis ab s2 (e ▸ t2)
      obtain ⟨A', hA', hAb⟩ : ∃ A' : Addr, sa (some ⟨ab, ao, none⟩) cap lo T.k = some A' ∧ A'.block = ab := by
        unfold sa; split
        · exact ⟨_, rfl, rfl⟩
        · refine ⟨_, rfl, ?_⟩; unfold Addr.add; split <;> rfl
      have hsz : ∀ w, (Go.sizeOf e).run P w = .ok T.k w := fun w => run_sizeOf hs w
      have hcs : cA.size ≠ 0 := by
        have : T.k ≤ cap * T.k := Nat.le_mul_of_pos_left _ (by omega)
        omega
      have hov := Lib.run_overlaps_apart w tS tR e hu T.k hsz ⟨bb, bo, none⟩ A' M.length cap2 lb cb (by rw [hAb]; exact hne) tB tA cB.size cA.size (by simp [World.shape?, t3]) (by rw [hAb]; simp [World.shape?, s3]) hcs (by simp [World.frozen?, t3]) (by simp [World.frozen?, t3])
      have h3 : (callFunc f #[.slice (some ⟨bb, bo, none⟩) M.length cap2, .slice (some A') lb cb]).run P w = .ok (.value (.bool false)) w := by
        rw [run_callFunc_extern hf hname hb hnx he, hov]; rfl
      have h2 : c.eval (.func f) = .func (.func f) #[] #[] := rfl
      rw [hA'] at hy
      simp [execOp, resolve, h2, Deferred.ofValue, invoke, hc.eval hx, hc.eval hy, h3]
end
/-! ### what slices.Insert writes, step by step -/
theorem ins_a {α : Type} {l v : List α} {i : Nat} {z : α} (hi : i ≤ l.length) (hv : v.length = 1) : (l.take i ++ List.replicate (l.length + v.length - i) z).take i ++ v ++ (l.take i ++ List.replicate (l.length + v.length - i) z).drop (i + v.length) = l.take i ++ v ++ List.replicate (l.length - i) z := by
  have h1 : (l.take i).length = i := by simp; omega
  rw [List.take_append_of_le_length (by omega), List.take_of_length_le (by omega), List.drop_append, List.drop_of_length_le (by omega), h1, hv, List.nil_append, List.drop_replicate]
  congr 2; omega
theorem ins_b {α : Type} {l v : List α} {i lo : Nat} {z : α} (hi : i ≤ l.length) (hv : v.length = 1) (hlo : lo = i + 1) : (l.take i ++ v ++ List.replicate (l.length - i) z).take lo ++ l.drop i ++ (l.take i ++ v ++ List.replicate (l.length - i) z).drop (lo + (l.drop i).length) = l.take i ++ v ++ l.drop i := by
  subst hlo
  have h1 : (l.take i ++ v).length = i + 1 := by simp; omega
  have h2 : (l.take i ++ v ++ List.replicate (l.length - i) z).length ≤ i + 1 + (l.drop i).length := by simp; omega
  rw [List.take_append_of_le_length (by omega), List.take_of_length_le (by omega), List.drop_of_length_le h2, List.append_nil]
theorem ins_c {α : Type} {l : List α} {i lo : Nat} (hi : i < l.length) (hlo : lo = i + 1) : l.take lo ++ l.drop i ++ l.drop (lo + (l.drop i).length) = l.take (i + 1) ++ l.drop i := by
  subst hlo
  rw [List.drop_of_length_le (l := l) (i := i + 1 + (l.drop i).length) (by simp; omega), List.append_nil]
theorem ins_d {α : Type} {l v : List α} {i : Nat} (hi : i < l.length) (hv : v.length = 1) : (l.take (i + 1) ++ l.drop i).take i ++ v ++ (l.take (i + 1) ++ l.drop i).drop (i + v.length) = l.take i ++ v ++ l.drop i := by
  have h1 : (l.take (i + 1)).length = i + 1 := by simp; omega
  rw [List.take_append_of_le_length (by omega), List.take_take, Nat.min_eq_left (by omega), hv, List.drop_append, List.drop_of_length_le (by omega), h1, Nat.sub_self, List.nil_append]; rfl
/-! ### what slices.Reverse does -/
structure RevI {α : Type} (l ls : List α) (i : Nat) (j : Int) : Prop where
  len : ls.length = l.length
  i_ : 2 * i ≤ l.length + 1
  j_ : j = (l.length : Int) - 1 - i
  get : ∀ k (h : k < ls.length) (h2 : k < l.length), ls[k] = if k < i ∨ j < (k : Int) then l[l.length - 1 - k]'(by omega) else l[k]
theorem RevI.start {α : Type} (l : List α) : RevI l l 0 ((l.length : Int) - 1) := ⟨rfl, by omega, by omega, fun k h h2 => by rw [if_neg (by omega)]⟩
theorem RevI.next {α : Type} {l ls : List α} {i : Nat} {j : Int} (h : RevI l ls i j) (hij : (i : Int) < j) (hi : i < ls.length) (hj : j.toNat < ls.length) : RevI l ((ls.set i ls[j.toNat]).set j.toNat ls[i]) (i + 1) (j - 1) := by
  obtain ⟨a, b, c, d⟩ := h
  have gi := d i hi (by omega)
  have gj := d _ hj (by omega)
  rw [if_neg (by omega)] at gi gj
  generalize ls[i] = x at gi ⊢
  generalize ls[j.toNat] = y at gj ⊢
  refine ⟨by simpa using a, by omega, by omega, fun k h h2 => ?_⟩
  have h1 : k < ls.length := by simpa using h
  rw [List.getElem_set, List.getElem_set]
  by_cases e1 : j.toNat = k
  · rw [if_pos e1, if_pos (by omega)]
    refine gi.trans ?_
    congr 1; omega
  · rw [if_neg e1]
    by_cases e2 : i = k
    · rw [if_pos e2, if_pos (by omega)]
      refine gj.trans ?_
      congr 1; omega
    · rw [if_neg e2, d k h1 h2]
      by_cases e3 : k < i ∨ j < (k : Int)
      · rw [if_pos e3, if_pos (by omega)]
      · rw [if_neg e3, if_neg (by omega)]
theorem RevI.done {α : Type} {l ls : List α} {i : Nat} {j : Int} (h : RevI l ls i j) (hij : j ≤ (i : Int)) : ls = l.reverse := by
  obtain ⟨a, b, c, d⟩ := h
  refine List.ext_getElem (by simpa using a) fun k h1 h2 => ?_
  rw [d k h1 (by omega), List.getElem_reverse]
  split
  · rfl
  · congr 1; omega
end Go.Sx
