/- The greedy dual size policy: the plain functions. -/
import Derived.Test.YthbfdhphnofacabLbPure
namespace Go.Sx
structure DItem where
  key : Int
  size : Int
  cost : Int
  worth : Int
deriving DecidableEq
instance : Inhabited DItem := ⟨⟨0, 0, 0, 0⟩⟩
def tItem : Ty DItem := ⟨4, fun c => [.int .i64 c.key, .int .i64 c.size, .int .i64 c.cost, .int .i64 c.worth], fun _ => rfl⟩
structure DGreedy where
  room : Int
  floor : Int
  things : List DItem
deriving DecidableEq
namespace Greedy
def right (t : DItem) : Bool := ((((decide (0 ≤ t.key) && decide (t.key ≤ 1048576)) && decide (1 ≤ t.size)) && decide (t.size ≤ 1048576)) && decide (0 ≤ t.cost)) && decide (t.cost ≤ 1048576)
theorem right_ok {t : DItem} (h : right t = true) : (0 ≤ t.key ∧ t.key ≤ 1048576) ∧ (1 ≤ t.size ∧ t.size ≤ 1048576) ∧ (0 ≤ t.cost ∧ t.cost ≤ 1048576) := by
  simp [right] at h; omega
def sizes : List DItem → Int
  | [] => 0
  | t :: l => t.size + sizes l
def costs : List DItem → Int
  | [] => 0
  | t :: l => t.cost + costs l
/-- Few things, all right. -/
structure Fine (l : List DItem) : Prop where
  len : l.length ≤ 41
  right : ∀ t ∈ l, Greedy.right t = true
theorem sizes_append (l m : List DItem) : sizes (l ++ m) = sizes l + sizes m := by
  induction l with
  | nil => simp [sizes]
  | cons t l ih => simp only [List.cons_append, sizes, ih]; omega
theorem costs_append (l m : List DItem) : costs (l ++ m) = costs l + costs m := by
  induction l with
  | nil => simp [costs]
  | cons t l ih => simp only [List.cons_append, costs, ih]; omega
theorem sizes_bd {l : List DItem} (h : ∀ t ∈ l, right t = true) : (l.length : Int) ≤ sizes l ∧ sizes l ≤ (l.length : Int) * 1048576 ∧ 0 ≤ costs l ∧ costs l ≤ (l.length : Int) * 1048576 := by
  induction l with
  | nil => simp [sizes, costs]
  | cons t l ih =>
    have h1 := ih (fun t ht => h t (by simp [ht]))
    have h2 := right_ok (h t (by simp))
    simp only [sizes, costs, List.length_cons]
    omega
structure SInv (l : List DItem) (s c : Int) (k : Nat) : Prop where
  le : k ≤ l.length
  s_ : s = sizes (l.take k)
  c_ : c = costs (l.take k)
theorem SInv.start (l : List DItem) : SInv l 0 0 0 := ⟨Nat.zero_le _, rfl, rfl⟩
theorem SInv.bd {l : List DItem} {s c : Int} {k : Nat} (hf : Fine l) (h : SInv l s c k) : 0 ≤ s ∧ s ≤ 42991616 ∧ 0 ≤ c ∧ c ≤ 42991616 := by
  have h1 := sizes_bd (l := l.take k) (fun t ht => hf.right t (List.mem_of_mem_take ht))
  have h2 : (l.take k).length ≤ 41 := Nat.le_trans (List.length_take_le' k l) hf.len
  rw [h.s_, h.c_]; omega
theorem SInv.it {l : List DItem} {k : Nat} (hf : Fine l) (hk : k < l.length) : (0 ≤ l[k].size ∧ l[k].size ≤ 1048576) ∧ (0 ≤ l[k].cost ∧ l[k].cost ≤ 1048576) := by
  have := right_ok (hf.right _ (List.getElem_mem hk)); omega
theorem SInv.next {l : List DItem} {s c : Int} {k : Nat} (h : SInv l s c k) (hk : k < l.length) : SInv l (s + l[k].size) (c + l[k].cost) (k + 1) :=
  ⟨hk, by rw [List.take_succ_eq_append_getElem hk, sizes_append, h.s_]; simp [sizes], by rw [List.take_succ_eq_append_getElem hk, costs_append, h.c_]; simp [costs]⟩
theorem SInv.nextS {l : List DItem} {s c : Int} {k : Nat} (h : SInv l s c k) (hk : k < l.length) : SInv l (s + l[k].size) (costs (l.take (k + 1))) (k + 1) :=
  ⟨hk, by rw [List.take_succ_eq_append_getElem hk, sizes_append, h.s_]; simp [sizes], rfl⟩
theorem SInv.done {l : List DItem} {s c : Int} {k : Nat} (h : SInv l s c k) (hk : (l.length : Int) ≤ k) : s = sizes l ∧ c = costs l := by
  rw [h.s_, h.c_, List.take_of_length_le (by omega)]; exact ⟨rfl, rfl⟩
def leastTo (l : List DItem) : Nat → Nat
  | 0 => 0
  | k + 1 => if (l.getD k default).worth < (l.getD (leastTo l k) default).worth then k else leastTo l k
def least (l : List DItem) : Nat := leastTo l l.length
theorem leastTo_lt {l : List DItem} : ∀ k, k ≤ l.length → 0 < l.length → leastTo l k < l.length
  | 0, _, h => h
  | k + 1, hk, h => by
    rw [leastTo]; split
    · omega
    · exact leastTo_lt k (by omega) h
theorem least_lt {l : List DItem} (h : 0 < l.length) : least l < l.length := leastTo_lt _ (Nat.le_refl _) h
structure BInv (l : List DItem) (best : Int) (k : Nat) : Prop where
  le : k ≤ l.length
  eq : best = (leastTo l k : Int)
theorem BInv.start (l : List DItem) : BInv l 0 0 := ⟨Nat.zero_le _, rfl⟩
theorem BInv.bd {l : List DItem} {best : Int} {k : Nat} (h : BInv l best k) (hl : 0 < l.length) : 0 ≤ best ∧ best < l.length := by
  have := leastTo_lt (l := l) k h.le hl; rw [h.eq]; omega
theorem BInv.less {l : List DItem} {best : Int} {k : Nat} (h : BInv l best k) (hk : k < l.length) (hb : best.toNat < l.length) (hw : l[k].worth < l[best.toNat].worth) : BInv l (k : Int) (k + 1) := by
  obtain ⟨h1, rfl⟩ := h
  simp only [Int.toNat_natCast] at hw hb
  exact ⟨hk, by rw [leastTo]; simp [List.getD, hk, hb, hw]⟩
theorem BInv.not {l : List DItem} {best : Int} {k : Nat} (h : BInv l best k) (hk : k < l.length) (hb : best.toNat < l.length) (hw : l[best.toNat].worth ≤ l[k].worth) : BInv l best (k + 1) := by
  obtain ⟨h1, rfl⟩ := h
  simp only [Int.toNat_natCast] at hw hb
  exact ⟨hk, by rw [leastTo]; simp [List.getD, hk, hb, Int.not_lt.2 hw]⟩
theorem BInv.done {l : List DItem} {best : Int} {k : Nat} (h : BInv l best k) (hk : (l.length : Int) ≤ k) : best = (least l : Int) := by
  have := h.le
  rw [h.eq, least, show k = l.length by omega]
def itemsGo (floor : Int) (pre : List Int) : List DItem → Int
  | [] => 0
  | t :: l => if right t = false ∨ t.worth < floor ∨ 1125899906842624 < t.worth then 3 else if t.key ∈ pre then 6 else itemsGo floor (pre ++ [t.key]) l
def keysOf (l : List DItem) : List Int := l.map (·.key)
def items (floor : Int) (l : List DItem) : Int := itemsGo floor [] l
def check (h : DGreedy) : Int :=
  if (h.room < 1 ∨ 1048576 < h.room) ∨ h.floor < 0 ∨ 1125899906842624 < h.floor then 3 else if 40 < h.things.length then 2 else if items h.floor h.things ≠ 0 then items h.floor h.things else if h.room < sizes h.things then 8 else 0
structure IInv (floor : Int) (l : List DItem) (k : Nat) : Prop where
  le : k ≤ l.length
  eq : itemsGo floor (keysOf (l.take k)) (l.drop k) = items floor l
  good : ∀ j (h : j < l.length), j < k → right l[j] = true
theorem IInv.start (floor : Int) (l : List DItem) : IInv floor l 0 := ⟨Nat.zero_le _, rfl, fun j _ h => absurd h (by omega)⟩
theorem itemsGo_step {floor : Int} {l : List DItem} {k : Nat} (hk : k < l.length) : itemsGo floor (keysOf (l.take k)) (l.drop k) = if right l[k] = false ∨ l[k].worth < floor ∨ 1125899906842624 < l[k].worth then 3 else if l[k].key ∈ keysOf (l.take k) then 6 else itemsGo floor (keysOf (l.take (k + 1))) (l.drop (k + 1)) := by
  rw [List.drop_eq_getElem_cons hk, itemsGo, List.take_succ_eq_append_getElem hk]
  simp only [keysOf, List.map_append, List.map_cons, List.map_nil]
  rfl
theorem IInv.bad {floor : Int} {l : List DItem} {k : Nat} (h : IInv floor l k) (hk : k < l.length) (hb : (right l[k] = false ∨ l[k].worth < floor) ∨ 1125899906842624 < l[k].worth) : items floor l = 3 := by
  rw [← h.eq, itemsGo_step hk, if_pos (by rcases hb with (h | h) | h <;> simp [h])]
theorem IInv.twice {floor : Int} {l : List DItem} {k : Nat} (h : IInv floor l k) (hk : k < l.length) (hg : (right l[k] = true ∧ floor ≤ l[k].worth) ∧ l[k].worth ≤ 1125899906842624) (ht : l[k].key ∈ keysOf (l.take k)) : items floor l = 6 := by
  rw [← h.eq, itemsGo_step hk, if_neg (by simp [hg.1.1]; omega), if_pos ht]
theorem IInv.next {floor : Int} {l : List DItem} {k : Nat} (h : IInv floor l k) (hk : k < l.length) (hg : (right l[k] = true ∧ floor ≤ l[k].worth) ∧ l[k].worth ≤ 1125899906842624) (ht : l[k].key ∉ keysOf (l.take k)) : IInv floor l (k + 1) := by
  refine ⟨hk, ?_, fun j hj hjk => ?_⟩
  · rw [← h.eq, itemsGo_step hk, if_neg (by simp [hg.1.1]; omega), if_neg ht]
  · by_cases e : j = k
    · subst e; exact hg.1.1
    · exact h.good j hj (by omega)
theorem IInv.done {floor : Int} {l : List DItem} {k : Nat} (h : IInv floor l k) (hk : (l.length : Int) ≤ k) : items floor l = 0 ∧ ∀ t ∈ l, right t = true := by
  refine ⟨?_, fun t ht => ?_⟩
  · rw [← h.eq, List.drop_of_length_le (by omega)]; rfl
  · obtain ⟨j, hj, rfl⟩ := List.getElem_of_mem ht
    exact h.good j hj (by omega)
def fresh (floor : Int) (t : DItem) : Int := min (floor + (1024 * t.cost).tdiv t.size) 1125899906842624
/-- what goes until there is room -/
def evict (room size : Int) : Nat → Int → List DItem → Int × List DItem × List Int
  | 0, floor, l => (floor, l, [])
  | f + 1, floor, l => if room < sizes l + size ∨ l.length = 40 then (let r := evict room size f (l.getD (least l) default).worth (l.eraseIdx (least l)); (r.1, r.2.1, (l.getD (least l) default).key :: r.2.2)) else (floor, l, [])
def put (floor : Int) (t : DItem) : DItem := ⟨t.key, t.size, t.cost, fresh floor t⟩
def touch (h : DGreedy) (t : DItem) : DGreedy × Bool × List Int :=
  if 0 ≤ idxF (fun x => (x.key == t.key)) h.things then (⟨h.room, h.floor, h.things.set (idxF (fun x => (x.key == t.key)) h.things).toNat (put h.floor (h.things.getD (idxF (fun x => (x.key == t.key)) h.things).toNat default))⟩, true, [])
  else if h.room < t.size then (h, false, [])
  else (⟨h.room, (evict h.room t.size h.things.length h.floor h.things).1, (evict h.room t.size h.things.length h.floor h.things).2.1 ++ [put (evict h.room t.size h.things.length h.floor h.things).1 t]⟩, false, (evict h.room t.size h.things.length h.floor h.things).2.2)
def accessErr (h : DGreedy) (t : DItem) : Int := if check h = 0 then (if right t then 0 else 3) else check h
def zero : DGreedy := ⟨0, 0, []⟩
def access (h : DGreedy) (t : DItem) : DGreedy × Bool × List Int := if accessErr h t = 0 then touch h t else (zero, false, [])
def victimErr (h : DGreedy) : Int := if check h = 0 then (if h.things.length = 0 then 5 else 0) else check h
def victim (h : DGreedy) : Int := if victimErr h = 0 then (h.things.getD (least h.things) default).key else 0
def total (h : DGreedy) : Int × Int := if check h = 0 then (sizes h.things, costs h.things) else (0, 0)
/-- A store that may be touched. -/
structure Ok (h : DGreedy) : Prop where
  room : 1 ≤ h.room ∧ h.room ≤ 1048576
  floor : 0 ≤ h.floor ∧ h.floor ≤ 1125899906842624
  len : h.things.length ≤ 40
  right : ∀ t ∈ h.things, Greedy.right t = true
  worth : ∀ t ∈ h.things, h.floor ≤ t.worth ∧ t.worth ≤ 1125899906842624
  once : (keysOf h.things).Nodup
  fits : sizes h.things ≤ h.room
end Greedy
end Go.Sx
