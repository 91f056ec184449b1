/- Parts of slices, stores into elements, new slices, function values, calls that change what they are handed. -/
import Derived.Test.YtgkihbbeimhmbaaDoorSx11
namespace Go.Sx
open Go.RowKit

section
variable {α : Type} {P : Program} {n : Nat} {w0 : World} {r : Option Nat} {ds : List Deferred} {Q : Exit → Act → World → Prop} {F F' : List (Nat × Value)} {H H' : List Ent} {ops : Array Oper}
variable {ty : TypeId} {pos : String} {after : Array Edge} {guard : Option (Nat × Bool)} {dst : Option Tmp} {rest : List Oper} {d : Nat} {x y : Operand}
variable {T : Ty α} {tY : TypeId} {a : Option Addr} {cap : Nat} {L : List α} {S : Nat → Prop}

/-! ### The heap's entries in another order, and fewer -/
theorem HeapIs.pick {w : World} (h : HeapIs w0 H w) (is : List Nat) (hn : is.Nodup) (hH : is.map (H[·]?) = H'.map some) : HeapIs w0 H' w := by
  have hlen : is.length = H'.length := by simpa using congrArg List.length hH
  have key : ∀ i (hi : i < is.length), ∃ (h1 : is[i] < H.length) (h2 : i < H'.length), H'[i] = H[is[i]] := fun i hi => by
    have := congrArg (·[i]?) hH
    simp only [List.getElem?_map, List.getElem?_eq_getElem hi, List.getElem?_eq_getElem (show i < H'.length by omega), Option.map_some, Option.some.injEq] at this
    obtain ⟨h1, h2⟩ := List.getElem?_eq_some_iff.1 this
    exact ⟨h1, by omega, h2.symm⟩
  refine ⟨h.same, h.size, fun e he => ?_, List.pairwise_iff_getElem.2 fun i j hi hj hij => ?_⟩
  · obtain ⟨i, hi, rfl⟩ := List.mem_iff_getElem.1 he
    obtain ⟨h1, h2, h3⟩ := key i (by omega)
    rw [h3]; exact h.good _ (List.getElem_mem _)
  · obtain ⟨h1, h2, h3⟩ := key i (by omega)
    obtain ⟨g1, g2, g3⟩ := key j (by omega)
    rw [h3, g3]
    have hne : is[i] ≠ is[j] := fun e => by
      exact List.pairwise_iff_getElem.1 hn i j (by omega) (by omega) hij e
    have hap := List.pairwise_iff_getElem.1 h.apart
    rcases Nat.lt_or_gt_of_ne hne with hl | hl
    · exact hap _ _ h1 g1 hl
    · exact fun b b1 b2 => hap _ _ g1 h1 hl b b2 b1
theorem o_pick {l : List Oper} (is : List Nat) (hn : is.Nodup) (hH : is.map (H[·]?) = H'.map some) (h : SO r ds P n w0 ops Q l F H') : SO r ds P n w0 ops Q l F H := fun a w ha hw => h a w ha (hw.pick is hn hH)
theorem q_pick {e : Exit} (is : List Nat) (hn : is.Nodup) (hH : is.map (H[·]?) = H'.map some) (h : SQ ds n w0 Q e F H') : SQ ds n w0 Q e F H := fun a w ha hw => h a w ha (hw.pick is hn hH)
theorem o_asH {l : List Oper} (hH : H = H') (h : SO r ds P n w0 ops Q l F H') : SO r ds P n w0 ops Q l F H := hH ▸ h
theorem q_asH {e : Exit} (hH : H = H') (h : SQ ds n w0 Q e F H') : SQ ds n w0 Q e F H := hH ▸ h
theorem c_asH {c : Code} (hH : H = H') (h : SC r ds P n w0 Q c F H') : SC r ds P n w0 Q c F H := hH ▸ h

/-! ### Parts of a slice -/
def sa (a : Option Addr) (m l k : Nat) : Option Addr := if m = l then a else a.map (·.add (l * k))
theorem sa_none (m l k : Nat) : sa none m l k = none := by unfold sa; split <;> rfl
theorem sa_zero (a : Option Addr) (m k : Nat) : sa a m 0 k = a := by
  unfold sa; split
  · rfl
  · cases a with
    | none => rfl
    | some x => simp [Addr.add]
theorem part_get {l hi i : Nat} (h2 : hi ≤ L.length) (h : i < ((L.take hi).drop l).length) : ∃ h', ((L.take hi).drop l)[i] = L[l + i]'h' := by
  have h' : l + i < L.length := by simp at h; omega
  exact ⟨h', by simp⟩
theorem SlR.part {w : World} {T : Ty α} (h : SlR T S w a cap L) {l m hi : Nat} (h1 : l ≤ hi) (h2 : hi ≤ L.length) (h3 : hi ≤ m) (h4 : m ≤ cap) : SlR T S w (sa a m l T.k) (m - l) ((L.take hi).drop l) := by
  obtain ⟨g1, g2, g3⟩ := h
  refine ⟨by simp; omega, by simp; omega, ?_⟩
  cases a with
  | none =>
    rw [sa_none]
    have : cap = 0 := g3
    show m - l = 0
    omega
  | some x =>
    by_cases hm : m = l
    · unfold sa; rw [if_pos hm]
      exact ⟨fun h => absurd h (by omega), fun i hi' => by simp at hi'; omega⟩
    · unfold sa; rw [if_neg hm]
      obtain ⟨gs, gS, c, ty, fz, gh, gl⟩ := g3.1 (by omega)
      have gr := g3.2
      obtain ⟨b, o, s⟩ := x
      simp only at gs gS gh gl gr
      subst gs
      have had : Addr.add ⟨b, o, none⟩ (l * T.k) = ⟨b, o + l * T.k, none⟩ := by unfold Addr.add; split <;> simp_all
      simp only [Option.map_some, had]
      have e1 : (m - l) * T.k + l * T.k = m * T.k := by rw [← Nat.add_mul]; congr 1; omega
      have e2 : m * T.k ≤ cap * T.k := Nat.mul_le_mul_right _ h4
      refine ⟨fun _ => ⟨trivial, gS, c, ty, fz, gh, by omega⟩, fun i hi' j hj => ?_⟩
      obtain ⟨hq, e⟩ := part_get h2 hi'
      rw [e]
      have := gr (l + i) hq j hj
      rw [Nat.add_mul] at this
      rw [← this]; congr 2; omega
theorem SlO.part {w : World} {T : Ty α} (h : SlO T S w a cap L) {l m hi : Nat} (h1 : l ≤ hi) (h2 : hi ≤ L.length) (h3 : hi ≤ m) (h4 : m ≤ cap) : SlO T S w (sa a m l T.k) (m - l) ((L.take hi).drop l) := by
  have hr := (SlO.toR h).part (T := T) (l := l) (m := m) (hi := hi) h1 h2 h3 h4
  obtain ⟨g1, g2, g3⟩ := h
  refine ⟨hr.1, hr.2.1, ?_⟩
  cases a with
  | none => rw [sa_none]; have : cap = 0 := g3; show m - l = 0; omega
  | some x =>
    obtain ⟨gs, gS, ⟨c, ty, gh, gl⟩, gr⟩ := g3
    by_cases hm : m = l
    · unfold sa; rw [if_pos hm]
      have : (m - l) * T.k ≤ cap * T.k := Nat.mul_le_mul_right _ (by omega)
      exact ⟨gs, gS, ⟨c, ty, gh, by omega⟩, fun i hi' => by simp at hi'; omega⟩
    · unfold sa at hr ⊢; rw [if_neg hm] at hr ⊢
      obtain ⟨b, o, s⟩ := x
      simp only at gs gS gh gl gr
      subst gs
      have had : Addr.add ⟨b, o, none⟩ (l * T.k) = ⟨b, o + l * T.k, none⟩ := by unfold Addr.add; split <;> simp_all
      simp only [Option.map_some, had] at hr ⊢
      have e1 : (m - l) * T.k + l * T.k = m * T.k := by rw [← Nat.add_mul]; congr 1; omega
      have e2 : m * T.k ≤ cap * T.k := Nat.mul_le_mul_right _ h4
      exact ⟨trivial, gS, ⟨c, ty, gh, by omega⟩, hr.2.2.2⟩
theorem SlO.shrink {w : World} {T : Ty α} (h : SlO T S w a cap L) {hi m : Nat} (h2 : hi ≤ L.length) (h3 : hi ≤ m) (h4 : m ≤ cap) : SlO T S w a m (L.take hi) := by
  have := h.part (l := 0) (m := m) (Nat.zero_le _) h2 h3 h4
  rw [sa_zero] at this
  simpa using this
theorem rd_part {l m hi : Nat} (h : ∀ w, HeapIs w0 H w → Rd T w a cap L) (h1 : l ≤ hi) (h2 : hi ≤ L.length) (h3 : hi ≤ m) (h4 : m ≤ cap) : ∀ w, HeapIs w0 H w → Rd T w (sa a m l T.k) (m - l) ((L.take hi).drop l) := fun w hw =>
  SlR.part (h w hw) h1 h2 h3 h4
theorem rd_take {m hi : Nat} (h : ∀ w, HeapIs w0 H w → Rd T w a cap L) (h2 : hi ≤ L.length) (h3 : hi ≤ m) (h4 : m ≤ cap) : ∀ w, HeapIs w0 H w → Rd T w a m (L.take hi) := fun w hw => by
  have := SlR.part (h w hw) (l := 0) (m := m) (Nat.zero_le _) h2 h3 h4
  rw [sa_zero] at this
  exact (by simpa using this : SlR T (fun b => b < w.heap.size) w a m (L.take hi))
theorem rd_drop {l : Nat} (h : ∀ w, HeapIs w0 H w → Rd T w a cap L) (h2 : l ≤ L.length) (h3 : L.length ≤ cap) : ∀ w, HeapIs w0 H w → Rd T w (sa a cap l T.k) (cap - l) (L.drop l) := fun w hw => by
  have := SlR.part (h w hw) (l := l) (m := cap) (hi := L.length) h2 (Nat.le_refl _) h3 (Nat.le_refl _)
  exact (by simpa using this : SlR T (fun b => b < w.heap.size) w (sa a cap l T.k) (cap - l) (L.drop l))
def Bnd (o : Option Value) (d r : Nat) : Prop := (o = none ∧ r = d) ∨ ∃ k, o = some (.int k (r : Int))
theorem run_sliceAt {t e : TypeId} {k l hi m len : Nat} {lo h_ mx : Option Value} (hu : P.underlying t = some (.slice e)) (hs : sizeIs P e = some k) (hl : Bnd lo 0 l) (hh : Bnd h_ len hi) (hm : Bnd mx cap m) (hno : h_ = none → mx = none)
    (h1 : l ≤ hi) (h2 : hi ≤ m) (h3 : m ≤ cap) (w : World) : (Instr.sliceAt t (.slice a len cap) lo h_ mx).run P w = .ok (.slice (sa a m l k) (hi - l) (m - l)) w := by
  have a0 : ∀ r : Nat, (0 : Int) ≤ (r : Int) := fun r => by omega
  have a1 : (l : Int) ≤ (hi : Int) := by omega
  have a2 : (hi : Int) ≤ (m : Int) := by omega
  have a3 : (m : Int) ≤ (cap : Int) := by omega
  have a4 : (hi : Int) ≤ (cap : Int) := by omega
  rcases hm with ⟨rfl, rfl⟩ | ⟨km, rfl⟩ <;> rcases hh with ⟨rfl, rfl⟩ | ⟨kh, rfl⟩ <;> rcases hl with ⟨rfl, rfl⟩ | ⟨kl, rfl⟩ <;>
    first
    | (simp at hno; done)
    | (simp [Instr.sliceAt, Instr.slice, Instr.sliceBounds, Instr.sliceBound, run_underlying hu, run_sizeOf hs, asIntOf, h1, h2, h3, a0, a1, a2, a3, a4, sa, Nat.le_trans h2 h3])
theorem p_slice {t e : TypeId} {l hi m len : Nat} {lo h_ mx : Option Operand} {k k' : Nat} {lv hv mv : Option Value} (hx : ev F x = some (.slice a len cap)) (el : lo.map (ev F) = lv.map some) (eh : h_.map (ev F) = hv.map some) (em : mx.map (ev F) = mv.map some)
    (hu : P.underlying t = some (.slice e)) (hs : sizeIs P e = some k) (hl : Bnd lv 0 l) (hh : Bnd hv len hi) (hm : Bnd mv cap m) (hno : hv = none → mv = none) (h1 : l ≤ hi) (h2 : hi ≤ m) (h3 : m ≤ cap) (hk : hi - l = k') :
    Pure ds P n w0 ⟨dst, .slice t x lo h_ mx, ty, pos, after, guard⟩ F H (.slice (sa a m l k) k' (m - l)) := fun b w hb _ => by
  have ee : ∀ {o : Option Operand} {u : Option Value}, o.map (ev F) = u.map some → o.map b.eval = u := fun {o u} h => by
    cases o <;> cases u <;> simp at h ⊢
    exact hb.eval h
  have := run_sliceAt (P := P) (a := a) hu hs hl hh hm hno h1 h2 h3 w
  simp [execOp, hb.eval hx, ee el, ee eh, ee em, this, hk]
/-- s[:h] -/
theorem p_sliceH {t e : TypeId} {k : IntKind} {h : Int} (hx : ev F x = some (.slice a L.length cap)) (hy : ev F y = some (.int k h)) (hu : P.underlying t = some (.slice e)) (hs : sizeIs P e = some T.k) (h0 : 0 ≤ h) (h1 : h ≤ (L.length : Int)) (hr : ∀ w, HeapIs w0 H w → Rd T w a cap L) :
    Pure ds P n w0 ⟨dst, .slice t x none (some y) none, ty, pos, after, guard⟩ F H (.slice a (L.take h.toNat).length cap) := fun b' w' hb' hw' => by
  have hc : L.length ≤ cap := (hr w' hw').1
  have hh : h = (h.toNat : Int) := by omega
  have := p_slice (P := P) (n := n) (w0 := w0) (ds := ds) (H := H) (dst := dst) (ty := ty) (pos := pos) (after := after) (guard := guard) (l := 0) (hi := h.toNat) (m := cap) (lv := none) (hv := some (.int k h)) (mv := none) (lo := none) (h_ := some y) (mx := none) (k' := (L.take h.toNat).length) hx rfl (by simp [hy]) rfl hu hs (.inl ⟨rfl, rfl⟩) (.inr ⟨k, by rw [← hh]⟩) (.inl ⟨rfl, rfl⟩) (fun h => by cases h) (Nat.zero_le _) (by omega) (Nat.le_refl _) (by simp; omega)
  rw [sa_zero] at this
  exact this b' w' hb' hw'
/-- s[l:] -/
theorem p_sliceL {t e : TypeId} {k : IntKind} {l : Int} (hx : ev F x = some (.slice a L.length cap)) (hy : ev F y = some (.int k l)) (hu : P.underlying t = some (.slice e)) (hs : sizeIs P e = some T.k) (h0 : 0 ≤ l) (h1 : l ≤ (L.length : Int)) (hr : ∀ w, HeapIs w0 H w → Rd T w a cap L) :
    Pure ds P n w0 ⟨dst, .slice t x (some y) none none, ty, pos, after, guard⟩ F H (.slice (sa a cap l.toNat T.k) (L.drop l.toNat).length (cap - l.toNat)) := fun b' w' hb' hw' => by
  have hc : L.length ≤ cap := (hr w' hw').1
  have hh : l = (l.toNat : Int) := by omega
  exact p_slice (P := P) (n := n) (w0 := w0) (ds := ds) (H := H) (l := l.toNat) (hi := L.length) (m := cap) (lv := some (.int k l)) (hv := none) (mv := none) hx (by simp [hy]) rfl rfl hu hs (.inr ⟨k, by rw [← hh]⟩) (.inl ⟨rfl, rfl⟩) (.inl ⟨rfl, rfl⟩) (fun _ => rfl) (by omega) hc (Nat.le_refl _) (by simp) b' w' hb' hw'
/-- s[l:h] -/
theorem p_sliceLH {t e : TypeId} {z : Operand} {k k2 : IntKind} {l h : Int} (hx : ev F x = some (.slice a L.length cap)) (hy : ev F y = some (.int k l)) (hz : ev F z = some (.int k2 h)) (hu : P.underlying t = some (.slice e)) (hs : sizeIs P e = some T.k) (h0 : 0 ≤ l) (h1 : l ≤ h) (h2 : h ≤ (L.length : Int)) (hr : ∀ w, HeapIs w0 H w → Rd T w a cap L) :
    Pure ds P n w0 ⟨dst, .slice t x (some y) (some z) none, ty, pos, after, guard⟩ F H (.slice (sa a cap l.toNat T.k) ((L.take h.toNat).drop l.toNat).length (cap - l.toNat)) := fun b' w' hb' hw' => by
  have hc : L.length ≤ cap := (hr w' hw').1
  have hh : l = (l.toNat : Int) := by omega
  have hh2 : h = (h.toNat : Int) := by omega
  exact p_slice (P := P) (n := n) (w0 := w0) (ds := ds) (H := H) (l := l.toNat) (hi := h.toNat) (m := cap) (lv := some (.int k l)) (hv := some (.int k2 h)) (mv := none) hx (by simp [hy]) (by simp [hz]) rfl hu hs (.inr ⟨k, by rw [← hh]⟩) (.inr ⟨k2, by rw [← hh2]⟩) (.inl ⟨rfl, rfl⟩) (fun h => by cases h) (by omega) (by omega) (Nat.le_refl _) (by simp; omega) b' w' hb' hw'
/-- s[:h:m] -/
theorem p_sliceHM {t e : TypeId} {z : Operand} {k k2 : IntKind} {h m : Int} (hx : ev F x = some (.slice a L.length cap)) (hy : ev F y = some (.int k h)) (hz : ev F z = some (.int k2 m)) (hu : P.underlying t = some (.slice e)) (hs : sizeIs P e = some T.k) (h0 : 0 ≤ h) (h1 : h ≤ m) (h2 : m ≤ (L.length : Int)) (hr : ∀ w, HeapIs w0 H w → Rd T w a cap L) :
    Pure ds P n w0 ⟨dst, .slice t x none (some y) (some z), ty, pos, after, guard⟩ F H (.slice a (L.take h.toNat).length m.toNat) := fun b' w' hb' hw' => by
  have hc : L.length ≤ cap := (hr w' hw').1
  have hh : h = (h.toNat : Int) := by omega
  have hh2 : m = (m.toNat : Int) := by omega
  have := p_slice (P := P) (n := n) (w0 := w0) (ds := ds) (H := H) (dst := dst) (ty := ty) (pos := pos) (after := after) (guard := guard) (l := 0) (hi := h.toNat) (m := m.toNat) (lv := none) (lo := none) (h_ := some y) (mx := some z) (hv := some (.int k h)) (mv := some (.int k2 m)) (k' := (L.take h.toNat).length) hx rfl (by simp [hy]) (by simp [hz]) hu hs (.inl ⟨rfl, rfl⟩) (.inr ⟨k, by rw [← hh]⟩) (.inr ⟨k2, by rw [← hh2]⟩) (fun h => by cases h) (Nat.zero_le _) (by omega) (by omega) (by simp; omega)
  rw [sa_zero] at this
  exact this b' w' hb' hw'
/-- s[l:h:m], of which only the bounds matter -/
theorem p_sliceLHM {t e : TypeId} {z u : Operand} {k k2 k3 : IntKind} {l h m : Int} (hx : ev F x = some (.slice a L.length cap)) (hy : ev F y = some (.int k l)) (hz : ev F z = some (.int k2 h)) (hu' : ev F u = some (.int k3 m)) (hu : P.underlying t = some (.slice e)) (hs : sizeIs P e = some T.k) (h0 : 0 ≤ l) (h1 : l ≤ h) (h2 : h ≤ m) (h3 : m ≤ (L.length : Int)) (hr : ∀ w, HeapIs w0 H w → Rd T w a cap L) :
    Pure ds P n w0 ⟨dst, .slice t x (some y) (some z) (some u), ty, pos, after, guard⟩ F H (.slice (sa a m.toNat l.toNat T.k) ((L.take h.toNat).drop l.toNat).length (m.toNat - l.toNat)) := fun b' w' hb' hw' => by
  have hc : L.length ≤ cap := (hr w' hw').1
  have hh : l = (l.toNat : Int) := by omega
  have hh2 : h = (h.toNat : Int) := by omega
  have hh3 : m = (m.toNat : Int) := by omega
  exact p_slice (P := P) (n := n) (w0 := w0) (ds := ds) (H := H) (l := l.toNat) (hi := h.toNat) (m := m.toNat) (lv := some (.int k l)) (hv := some (.int k2 h)) (mv := some (.int k3 m)) hx (by simp [hy]) (by simp [hz]) (by simp [hu']) hu hs (.inr ⟨k, by rw [← hh]⟩) (.inr ⟨k2, by rw [← hh2]⟩) (.inr ⟨k3, by rw [← hh3]⟩) (fun h => by cases h) (by omega) (by omega) (by omega) (by simp; omega) b' w' hb' hw'
theorem o_shrink {i m hi : Nat} {l : List Oper} (hi' : H[i]? = some (own T S a cap L)) (h2 : hi ≤ L.length) (h3 : hi ≤ m) (h4 : ∀ w, SlO T S w a cap L → m ≤ cap) (h : SO r ds P n w0 ops Q l F (H.set i (own T S a m (L.take hi)))) : SO r ds P n w0 ops Q l F H := fun b w hb hw => by
  have g := hw.at hi'
  exact h b w hb (hw.change hi' ⟨rfl, rfl, rfl⟩ (Nat.le_refl _) (fun b hb => .inl hb) (fun _ _ _ => rfl) (fun w1 w2 ha hA => SlO.agree ha hA) (SlO.shrink g.here h2 h3 (h4 w g.here)))

theorem rd_takeC {hi : Nat} (h : ∀ w, HeapIs w0 H w → Rd T w a cap L) (h2 : hi ≤ L.length) : ∀ w, HeapIs w0 H w → Rd T w a cap (L.take hi) := fun w hw =>
  rd_take h h2 (Nat.le_trans h2 (h w hw).1) (Nat.le_refl _) w hw
theorem rd_dropC {l : Nat} (h : ∀ w, HeapIs w0 H w → Rd T w a cap L) (h2 : l ≤ L.length) : ∀ w, HeapIs w0 H w → Rd T w (sa a cap l T.k) (cap - l) (L.drop l) := fun w hw => rd_drop h h2 (h w hw).1 w hw
theorem rd_partC {l hi : Nat} (h : ∀ w, HeapIs w0 H w → Rd T w a cap L) (h1 : l ≤ hi) (h2 : hi ≤ L.length) : ∀ w, HeapIs w0 H w → Rd T w (sa a cap l T.k) (cap - l) ((L.take hi).drop l) := fun w hw => rd_part h h1 h2 (Nat.le_trans h2 (h w hw).1) (Nat.le_refl _) w hw
theorem HeapIs.shrinkTo {w : World} {i m hi : Nat} (hw : HeapIs w0 H w) (hi' : H[i]? = some (own T S a cap L)) (h2 : hi ≤ L.length) (h3 : hi ≤ m) (h4 : m ≤ cap) : HeapIs w0 (H.set i (own T S a m (L.take hi))) w := by
  have g := hw.at hi'
  exact hw.change hi' ⟨rfl, rfl, rfl⟩ (Nat.le_refl _) (fun b hb => .inl hb) (fun _ _ _ => rfl) (fun w1 w2 ha hA => SlO.agree (T := T) (S := S) (a := a) (cap := m) (L := L.take hi) ha hA) (SlO.shrink g.here h2 h3 h4)
theorem HeapIs.shrinkC {w : World} {i hi : Nat} (hw : HeapIs w0 H w) (hi' : H[i]? = some (own T S a cap L)) (h2 : hi ≤ L.length) : HeapIs w0 (H.set i (own T S a cap (L.take hi))) w := by
  have g : SlO T S w a cap L := (hw.at hi').here
  exact hw.shrinkTo hi' h2 (Nat.le_trans h2 g.1) (Nat.le_refl _)
theorem HeapIs.shrinkM {w : World} {i m hi : Nat} (hw : HeapIs w0 H w) (hi' : H[i]? = some (own T S a cap L)) (h2 : hi ≤ m) (h3 : m ≤ L.length) : HeapIs w0 (H.set i (own T S a m (L.take hi))) w := by
  have g : SlO T S w a cap L := (hw.at hi').here
  exact hw.shrinkTo hi' (Nat.le_trans h2 h3) h2 (Nat.le_trans h3 g.1)
theorem o_shrinkC {i hi : Nat} {l : List Oper} (hi' : H[i]? = some (own T S a cap L)) (h2 : hi ≤ L.length) (h : SO r ds P n w0 ops Q l F (H.set i (own T S a cap (L.take hi)))) : SO r ds P n w0 ops Q l F H := fun b w hb hw => h b w hb (hw.shrinkC hi' h2)
theorem q_shrinkC {i hi : Nat} {e : Exit} (hi' : H[i]? = some (own T S a cap L)) (h2 : hi ≤ L.length) (h : SQ ds n w0 Q e F (H.set i (own T S a cap (L.take hi)))) : SQ ds n w0 Q e F H := fun b w hb hw => h b w hb (hw.shrinkC hi' h2)
theorem c_shrinkC {i hi : Nat} {c : Code} (hi' : H[i]? = some (own T S a cap L)) (h2 : hi ≤ L.length) (h : SC r ds P n w0 Q c F (H.set i (own T S a cap (L.take hi)))) : SC r ds P n w0 Q c F H := fun b w hb hw => h b w hb (hw.shrinkC hi' h2)
theorem o_shrinkM {i m hi : Nat} {l : List Oper} (hi' : H[i]? = some (own T S a cap L)) (h2 : hi ≤ m) (h3 : m ≤ L.length) (h : SO r ds P n w0 ops Q l F (H.set i (own T S a m (L.take hi)))) : SO r ds P n w0 ops Q l F H := fun b w hb hw => h b w hb (hw.shrinkM hi' h2 h3)
theorem q_shrinkM {i m hi : Nat} {e : Exit} (hi' : H[i]? = some (own T S a cap L)) (h2 : hi ≤ m) (h3 : m ≤ L.length) (h : SQ ds n w0 Q e F (H.set i (own T S a m (L.take hi)))) : SQ ds n w0 Q e F H := fun b w hb hw => h b w hb (hw.shrinkM hi' h2 h3)

/-! ### nil? -/
theorem p_eqNil {t e : TypeId} {len : Nat} (hx : ev F x = some (.slice a len cap)) (hy : ev F y = some (.slice none 0 0)) (hu : P.underlying t = some (.slice e)) : Pure ds P n w0 ⟨dst, .binOp .eql t x y tY, ty, pos, after, guard⟩ F H (.bool a.isNone) := fun b w hb _ => by
  have h : (Op.equal t (.slice a len cap) (.slice none 0 0)).run P w = .ok a.isNone w := by
    show ((Go.underlying t).bind _).run P w = _
    refine (run_bind (P := P) (Go.underlying t) _ w).trans ?_
    rw [run_underlying hu]
    cases a <;> rfl
  simp [execOp, hb.eval hx, hb.eval hy, eqGuard, binOp, h]
theorem p_nilCheck {B : Nat} {j : Nat} (hx : ev F x = some (.pointer (some ⟨B, j, none⟩))) : Pure ds P n w0 ⟨dst, .nilCheck x, ty, pos, after, guard⟩ F H (.pointer (some ⟨B, j, none⟩)) := fun b w hb _ => by
  simp [execOp, hb.eval hx]
theorem rd_isNone {w : World} (h : Rd T w a cap L) (ha : a.isNone = true) : L = [] := by
  cases a with
  | none => have h1 := h.1; have : cap = 0 := h.2.2; exact List.length_eq_zero_iff.1 (by omega)
  | some x => cases ha

/-! ### A store into an element -/
theorem HeapIs.storeE {w : World} {i idx j : Nat} {vs : List Value} {z : α} (h : HeapIs w0 H w) (hi : H[i]? = some (own T S a cap L)) (hidx : idx < L.length) (hv : ∀ v ∈ vs, one1 v = true) (hj : j + vs.length ≤ T.k) (henc : T.enc z = setCells (T.enc L[idx]) j vs) :
    ∃ w', (storeCells ((ea a (idx * T.k)).add j) vs 0).run P w = .ok () w' ∧ HeapIs w0 (H.set i (own T S a cap (L.set idx z))) w' := by
  have g : SlO T S w a cap L := (h.at hi).here
  obtain ⟨g1, g2, g3⟩ := g
  cases a with
  | none => have : cap = 0 := g3; omega
  | some p =>
    obtain ⟨gs, gS, ⟨c, ty, gh, gl⟩, gr⟩ := g3
    obtain ⟨b, o, s⟩ := p
    simp only at gs gS gh gl gr
    subst gs
    have had : Addr.add (ea (some ⟨b, o, none⟩) (idx * T.k)) j = ⟨b, o + idx * T.k + j, none⟩ := by
      rw [ea_some rfl]; unfold Addr.add; split <;> simp_all
    rw [had]
    have hb1 : idx * T.k + T.k ≤ cap * T.k := by
      calc idx * T.k + T.k = (idx + 1) * T.k := by rw [Nat.add_mul]; omega
        _ ≤ cap * T.k := Nat.mul_le_mul_right _ (by omega)
    obtain ⟨w', c', h1, h2, h3, h4, h5, h6, h7⟩ := run_storeCells (P := P) (b := b) (o := o + idx * T.k + j) vs 0 w c ty gh hv (by omega)
    refine ⟨w', h1, h.change hi h5 (by omega) (fun b hb => .inl hb) (fun k _ hk => h7 k (fun e => hk (e ▸ gS))) (fun w1 w2 ha hA => SlO.agree (T := T) (S := S) (a := some ⟨b, o, none⟩) (cap := cap) (L := L.set idx z) ha hA) ?_⟩
    refine ⟨by simpa using g1, by simpa using g2, rfl, gS, ⟨c', ty, h2, by show o + cap * T.k ≤ c'.size; omega⟩, fun m hm q hq => ?_⟩
    have hm' : m < L.length := by simpa using hm
    have hcell : w'.cell? ⟨b, o + m * T.k + q, none⟩ = c'[o + m * T.k + q]? := by simp [World.cell?, h2]
    rw [hcell, h4]
    have old := gr m hm' q hq
    have hold : w.cell? ⟨b, o + m * T.k + q, none⟩ = c[o + m * T.k + q]? := by simp [World.cell?, gh]
    rw [hold] at old
    by_cases hmi : m = idx
    · subst hmi
      rw [List.getElem_set_self, henc]
      unfold setCells
      have hl := T.len L[m]
      by_cases e1 : j ≤ q ∧ q < j + vs.length
      · rw [if_pos (by omega)]
        rw [List.append_assoc, List.getElem?_append_right (by simp; omega), List.getElem?_append_left (by simp; omega)]
        congr 1; simp; omega
      · rw [if_neg (by omega), old]
        rcases Nat.lt_or_ge q j with h' | h'
        · rw [List.append_assoc, List.getElem?_append_left (by simp; omega)]
          simp [List.getElem?_take, h']
        · rw [List.getElem?_append_right (by simp; omega)]
          simp only [List.getElem?_drop, List.length_append, List.length_take]
          congr 1; omega
    · rw [List.getElem_set_ne (fun e => hmi e.symm)]
      have : m * T.k + q < idx * T.k + j ∨ idx * T.k + j + vs.length ≤ m * T.k + q := by
        rcases Nat.lt_or_gt_of_ne hmi with hlt | hlt
        · have : (m + 1) * T.k ≤ idx * T.k := Nat.mul_le_mul_right _ hlt
          rw [Nat.add_mul] at this; omega
        · have : (idx + 1) * T.k ≤ m * T.k := Nat.mul_le_mul_right _ hlt
          rw [Nat.add_mul] at this; omega
      rw [if_neg (by omega), old]
theorem o_storeF {t : TypeId} {i idx j m : Nat} {v : Value} {vs : List Value} {z : α} (hx : ev F x = some (.pointer (some ((ea a (idx * T.k)).add j)))) (hy : ev F y = some v) (hvs : v.cells.toList = vs) (hi : H[i]? = some (own T S a cap L)) (hidx : idx < L.length) (ht : sizeIs P t = some m) (hm : vs.length = m) (hv : (vs.all one1) = true)
    (hj : Nat.ble (j + vs.length) T.k = true) (henc : T.enc z = setCells (T.enc L[idx]) j vs) (hF : Sub F F') (h : SO r ds P n w0 ops Q rest F' (H.set i (own T S a cap (L.set idx z)))) : SO r ds P n w0 ops Q (⟨none, .store t x y, ty, pos, after, none⟩ :: rest) F H := fun b w hb hw =>
  wpL_plain rfl (fun _ h => by cases h) fun K hK => by
    subst hm
    obtain ⟨w', h1, h2⟩ := hw.storeE (P := P) hi hidx (fun v hv' => List.all_eq_true.1 hv v hv') (Nat.le_of_ble_eq_true hj) henc
    have hc : v.cells.size = vs.length := by rw [← hvs]; simp
    have hrun : (execOp b.eval ⟨none, .store t x y, ty, pos, after, none⟩).run P w = .ok .skip w' := by
      simp [execOp, hb.eval hx, hb.eval hy, Instr.storeAt, Instr.sureAddr, storeVar, run_bind, run_sizeOf ht, hc, hvs, h1]
    unfold Oper.wp
    rw [hrun]
    exact hK _ _ (h _ _ (hb.sub hF) h2)
theorem o_storeW {t : TypeId} {i idx m : Nat} {v : Value} {vs : List Value} {z : α} (hx : ev F x = some (.pointer (some (ea a (idx * T.k))))) (hy : ev F y = some v) (hvs : v.cells.toList = vs) (hi : H[i]? = some (own T S a cap L)) (hidx : idx < L.length) (ht : sizeIs P t = some m) (hm : vs.length = m) (hv : (vs.all one1) = true)
    (hj : Nat.beq vs.length T.k = true) (henc : T.enc z = vs) (hF : Sub F F') (h : SO r ds P n w0 ops Q rest F' (H.set i (own T S a cap (L.set idx z)))) : SO r ds P n w0 ops Q (⟨none, .store t x y, ty, pos, after, none⟩ :: rest) F H := by
  have e := Nat.eq_of_beq_eq_true hj
  refine o_storeF (j := 0) (z := z) (by simpa [Addr.add] using hx) hy hvs hi hidx ht hm hv (by rw [Nat.zero_add, e]; exact Nat.ble_self_eq_true _) ?_ hF h
  have hl := T.len L[idx]
  unfold setCells
  rw [henc, List.take_zero, List.nil_append, Nat.zero_add, List.drop_of_length_le (by omega), List.append_nil]

/-! ### A new slice of zeros -/
theorem zeros_flat {zc : Array Value} {z : α} (h : T.enc z = zc.toList) (hk : 0 < T.k) (m : Nat) : ((Array.range (m * T.k)).map (zc[· % zc.size]!)).toList = (List.replicate m z).flatMap T.enc := by
  have hs : zc.size = T.k := by rw [← T.len z, h]; simp
  have hfl := flat_len (List.replicate m z) T.enc T.len
  rw [List.length_replicate] at hfl
  apply List.ext_getElem?
  intro q
  by_cases hq : q < m * T.k
  · have hd := Nat.div_add_mod q T.k
    have hm := Nat.mod_lt q hk
    have hi : q / T.k < m := by rw [Nat.div_lt_iff_lt_mul hk]; exact hq
    have e1 : q = q / T.k * T.k + q % T.k := by rw [Nat.mul_comm]; omega
    have h2 := flat_get T.enc T.len (List.replicate m z) (q / T.k) (q % T.k) (by simpa using hi) hm
    rw [← e1] at h2
    rw [h2, List.getElem_replicate, h, Array.getElem?_toList, Array.getElem?_toList, Array.getElem?_map, Array.getElem?_range, if_pos hq, hs]
    have : q % T.k < zc.size := by omega
    simp [this]
  · rw [List.getElem?_eq_none (by simp; omega), List.getElem?_eq_none (by omega)]
theorem o_makeSlice {t e : TypeId} {bytes : Nat} {z : α} {k k2 : IntKind} {m : Int} {zs : List Value} (hx : ev F x = some (.int k m)) (hy : ev F y = some (.int k2 m)) (hu : P.underlying t = some (.slice e)) (he : elemIs P e T.k bytes) (hz : zeroOf P e = some zs) (hzs : T.enc z = zs) (hk : 0 < T.k) (h0 : 0 ≤ m) (h1 : m * (bytes + 1) ≤ 140737488355328) (hn : Nat.blt d n = true)
    (h : ∀ S a, SO r ds P n w0 ops Q rest ((d, .slice a (List.replicate m.toNat z).length m.toNat) :: F) (own T S a m.toNat (List.replicate m.toNat z) :: H)) : SO r ds P n w0 ops Q (⟨some d, .makeSlice t x y, ty, pos, after, none⟩ :: rest) F H := fun b w hb hw =>
  wpL_plain rfl (fun _ h => by cases h) fun K hK => by
    obtain ⟨ti, zv, hi, hzv, hsz, hby, hzc⟩ := he
    have hsize : sizeIs P e = some T.k := by simp [sizeIs, hi, hsz]
    obtain ⟨mm, rfl⟩ : ∃ mm : Nat, m = mm := ⟨m.toNat, by omega⟩
    rw [Int.toNat_natCast] at h
    have hb1 : (bytes : Int) * mm ≤ 140737488355328 := by
      have e1 : (mm : Int) * (bytes + 1) = bytes * mm + mm := by rw [Int.mul_add, Int.mul_one, Int.mul_comm]
      omega
    have hm1 : (mm : Int) ≤ 140737488355328 := by
      have e1 : (mm : Int) * (bytes + 1) = bytes * mm + mm := by rw [Int.mul_add, Int.mul_one, Int.mul_comm]
      have : (0 : Int) ≤ bytes * mm := Int.mul_nonneg (by omega) (by omega)
      omega
    have hw64 : IntKind.i64.wrap (mm : Int) = mm := wrap_i64 (by omega)
    have hzz : zv.cells.toList = zs := by
      have : zeroOf P e = some zv.cells.toList := by simp [zeroOf, hi, hzv]
      rw [hz] at this; exact (Option.some.inj this).symm
    have hroomq : ∀ (m : Nat) (w2 : World), (askRoom m).run P w2 = .ok () w2 := by intro m w2; unfold askRoom; split <;> rfl
    have hzr : (zeroValue e).run P w = .ok zv w := by simp [zeroValue, run_typeInfo hi, hzv]
    have hflat := zeros_flat (T := T) (zc := zv.cells) (z := z) (by rw [hzs, hzz]) hk mm
    have hbig : ¬ ((bytes : Int) * mm > 2 ^ 48) := by
      have : (2 : Int) ^ 48 = 281474976710656 := by decide
      omega
    have hrun : (execOp b.eval ⟨some d, .makeSlice t x y, ty, pos, after, none⟩).run P w = .ok (.value (.slice (some ⟨w.heap.size, 0, none⟩) mm mm)) { w with heap := w.heap.push (.cells ((List.replicate mm z).flatMap T.enc).toArray e) } := by
      have hz0 : mm * T.k = 0 ↔ mm = 0 := by
        constructor
        · intro h; rcases Nat.mul_eq_zero.1 h with h | h <;> omega
        · rintro rfl; simp
      have hms : (Instr.makeSlice t (.int k mm) (.int k2 mm)).run P w = .ok (.slice (some ⟨w.heap.size, 0, none⟩) mm mm) { w with heap := w.heap.push (.cells ((List.replicate mm z).flatMap T.enc).toArray e) } := by
        unfold Instr.makeSlice
        simp only [run_bind, run_underlying hu, asInt, asIntOf, run_typeInfo hi, hw64, hby, run_pure]
        rw [if_neg (by simp; omega)]
        simp only [run_bind, run_pure, hroomq, run_sizeOf hsize, Int.toNat_natCast]
        by_cases h0 : mm = 0
        · subst h0
          simp [newRow, newObj, Sem.run]
          rw [show (Array.map (fun _ => (default : Value)) (Array.range 0)) = #[] from Array.ext' (by simp)]
        · rw [if_neg (fun h => h0 (hz0.1 h))]
          simp only [run_bind, hzr, run_pure, newRow, newObj, Sem.run]
          rw [← hflat]
      simp only [execOp, run_bind, run_pure, hb.eval hx, hb.eval hy, hms]
    unfold Oper.wp
    rw [hrun]
    refine hK _ _ ?_
    have hlr : (List.replicate mm z).length = mm := List.length_replicate
    have h' := h (fun c => c = w.heap.size) (some ⟨w.heap.size, 0, none⟩)
    rw [hlr] at h'
    refine h' _ _ (hb.put hn _) (hw.push _ (fun w1 w2 ha hA => SlO.agree (T := T) ha hA) ?_)
    refine SlO.fresh (e := e) (cs := (List.replicate mm z).flatMap T.enc) ?_ [] (by simp) (by simp) (by rw [flat_len _ T.enc T.len, hlr]; exact Nat.le_refl _) (by rw [hlr]; omega)
    simp

/-! ### Function values -/
theorem run_callV {f : FuncId} {fn : Func} {c : Code} {g : Operand} {args : Array Operand} {ats : Array TypeId} {vs caps : List Value} {a : Act} {w : World} (ha : Ok n ds F a) (hg : ev F g = some (.func (.func f) #[] caps.toArray)) (hv : evs F args.toList = some vs) (hf : P.funcs[f]? = some fn) (hb : fn.body = some c) (hname : (fn.name == "runtime.NumGoroutine") = false) :
    (execOp a.eval ⟨dst, .call { callee := .value g, args := args, argTypes := ats }, ty, pos, after, guard⟩).run P w = .ok (.enter f (vs ++ caps).toArray) w := by
  have h1 : args.map a.eval = vs.toArray := by
    rw [← ha.evals hv]; apply Array.ext'; simp
  have h3 : (callFunc f (vs ++ caps).toArray).run P w = .ok (.enter f (vs ++ caps).toArray) w := by
    have hname' : fn.name ≠ "runtime.NumGoroutine" := by intro e; rw [e] at hname; simp at hname
    simp [callFunc, program, Sem.run, hf, hb, hname']
  simp [execOp, resolve, h1, ha.eval hg, Deferred.ofValue, invoke, h3]
theorem o_call0V {f : FuncId} {g : Operand} {args : Array Operand} {ats : Array TypeId} {vs caps : List Value} {Pre : World → Prop} {v : Value} (hg : ev F g = some (.func (.func f) #[] caps.toArray)) (hv : evs F args.toList = some vs) (hf : Fn0 P f (vs ++ caps) Pre v) (hP : HasFn P f) (hpre : ∀ w, HeapIs w0 H w → Pre w) (hn : Nat.blt d n = true)
    (h : SO r ds P n w0 ops Q rest ((d, v) :: F) H) : SO r ds P n w0 ops Q (⟨some d, .call { callee := .value g, args := args, argTypes := ats }, ty, pos, after, none⟩ :: rest) F H := fun a w ha hw =>
  wpL_plain rfl (fun _ h => by cases h) fun K hK => by
    obtain ⟨fn, c, h1, h2, h3⟩ := hP
    unfold Oper.wp
    rw [run_callV ha hg hv h1 h2 h3]
    simp only [Oper.upon]
    refine (hf w (hpre w hw)).mono ?_
    rintro e w' ⟨rfl, hb⟩
    exact hK _ _ (h _ _ (ha.put hn _) (hw.below hb))
theorem p_makeFunc {f : FuncId} {caps : Array Operand} {vs : List Value} (hv : evs F caps.toList = some vs) : Pure ds P n w0 ⟨dst, .makeFunc (.func f) #[] caps, ty, pos, after, guard⟩ F H (.func (.func f) #[] vs.toArray) := fun b w hb _ => by
  have h1 : caps.map b.eval = vs.toArray := by
    rw [← hb.evals hv]; apply Array.ext'; simp
  simp [execOp, Instr.makeFunc, h1]

/-! ### Boxes that were there -/
theorem box_lt {w : World} {B : Nat} {cs : List Value} {U : TypeId} (h : (box B cs U).A w) : B < w.heap.size := by
  have h' : w.heap[B]? = some (.cells cs.toArray U (0, 0)) := h
  exact (Array.getElem?_eq_some_iff.1 h').1
theorem box_below {w w' : World} {B : Nat} {cs : List Value} {U : TypeId} (hb : Below w.heap.size w w') (h : (box B cs U).A w) : (box B cs U).A w' := by
  have h' : w.heap[B]? = some (.cells cs.toArray U (0, 0)) := h
  show w'.heap[B]? = _
  rw [hb.block B (box_lt h), h']
theorem rbox_base {i B : Nat} {cs : List Value} {U : TypeId} (hi : H[i]? = some (base w0)) (h : (box B cs U).A w0) : ∀ w, HeapIs w0 H w → (box B cs U).A w := fun _ hw => box_below (hw.toBelow hi) h
theorem pre_base {i : Nat} {Pr : World → Prop} (hi : H[i]? = some (base w0)) (hs : ∀ w w', Below w.heap.size w w' → Pr w → Pr w') (h : Pr w0) : ∀ w, HeapIs w0 H w → Pr w := fun _ hw => hs _ _ (hw.toBelow hi) h
theorem p_loadR {t : TypeId} {B j : Nat} {cs : List Value} {U : TypeId} {v : Value} (hx : ev F x = some (.pointer (some ⟨B, j, none⟩))) (hr : ∀ w, HeapIs w0 H w → (box B cs U).A w) (ht : shp P t = some none) (hv : cs[j]? = some v) :
    Pure ds P n w0 ⟨dst, .load t x, ty, pos, after, guard⟩ F H v := fun a w ha hw => by
  have hc : w.cell? ⟨B, j, none⟩ = some v := by rw [box_cell (hr w hw), hv]
  simp [execOp, ha.eval hx, Instr.loadAt, Instr.sureAddr, run_loadVar_one ht hc]
theorem p_loadR_agg {t : TypeId} {B j m : Nat} {cs vs : List Value} {U : TypeId} (hx : ev F x = some (.pointer (some ⟨B, j, none⟩))) (hr : ∀ w, HeapIs w0 H w → (box B cs U).A w) (ht : shp P t = some (some m)) (hv : (cs.drop j).take m = vs) (hl : vs.length = m) :
    Pure ds P n w0 ⟨dst, .load t x, ty, pos, after, guard⟩ F H (.agg vs.toArray) := fun a w ha hw => by
  subst hv
  have hc : ∀ q, q < m → w.cell? (Addr.add ⟨B, j, none⟩ q) = ((cs.drop j).take m)[q]? := fun q hq => by
    rw [box_cell_add (hr w hw)]; simp [List.getElem?_take, hq]
  simp [execOp, ha.eval hx, Instr.loadAt, Instr.sureAddr, run_loadVar_agg ht hl hc]
end
end Go.Sx
