/- Stores with times: what the functions answer; the reference's search and its storing; the four laws. -/
import Derived.Test.YtkndekkacimekaaExLaw
namespace Go.Sx.Exp
/- the reference's search -/
structure GtI (l : List DEntry) (key : Int) (i : Nat) : Prop where
  le : i ≤ l.length
  no : ∀ j (h : j < l.length), j < i → l[j].key ≠ key
theorem GtI.start (l : List DEntry) (key : Int) : GtI l key 0 := ⟨Nat.zero_le _, fun j _ h => absurd h (Nat.not_lt_zero _)⟩
theorem GtI.next {l : List DEntry} {key : Int} {i : Nat} (h : GtI l key i) (hi : i < l.length) (hk : l[i].key ≠ key) : GtI l key (i + 1) :=
  ⟨by omega, fun j hj hlt => by
    by_cases e : j = i
    · subst e; exact hk
    · exact h.no j hj (by omega)⟩
theorem GtI.found {l : List DEntry} {key now : Int} {i : Nat} (hs : le_ l) (hi : i < (live now l).length) (hk : ((live now l)[i]).key = key) : getGo l key now = (((live now l)[i]).value, true) := by
  have h1 := mem_live.1 (List.getElem_mem hi)
  rw [← hk]; exact getGo_some hs h1.1 h1.2
theorem GtI.none {l : List DEntry} {key now : Int} {i : Nat} (h : GtI (live now l) key i) (hi : ((live now l).length : Int) ≤ i) : getGo l key now = (0, false) := by
  refine getGo_none fun x hx hk => ?_
  rcases Int.lt_or_le now x.till with h1 | h1
  · obtain ⟨j, hj, e⟩ := List.getElem_of_mem (mem_live.2 ⟨hx, h1⟩)
    exact absurd (by rw [e]; exact hk) (h.no j hj (by omega))
  · exact h1
/- the reference's storing -/
structure PtI (l : List DEntry) (x : DEntry) (put : Bool) (o : List DEntry) (i : Nat) : Prop where
  le : i ≤ l.length
  no : put = false → o = l.take i ∧ ∀ j (h : j < l.length), j < i → l[j].key < x.key
  yes : put = true → o = putGo (l.take i) x ∧ ∃ j, ∃ h : j < l.length, j < i ∧ x.key ≤ l[j].key
theorem PtI.start (l : List DEntry) (x : DEntry) : PtI l x false [] 0 := ⟨Nat.zero_le _, fun _ => ⟨rfl, fun j _ h => absurd h (Nat.not_lt_zero _)⟩, fun h => by cases h⟩
theorem putGo_snoc {l : List DEntry} {x y : DEntry} (h : x.key < y.key) : putGo (l ++ [y]) x = putGo l x ++ [y] := by
  unfold putGo
  rw [List.filter_append, List.filter_append, List.filter_cons, if_neg (by simp; omega), List.filter_cons, if_pos (by simp [h])]; simp
theorem putGo_eq {l : List DEntry} {x y : DEntry} (h : x.key = y.key) : putGo (l ++ [y]) x = putGo l x := by
  unfold putGo
  rw [List.filter_append, List.filter_append, List.filter_cons, if_neg (by simp; omega), List.filter_cons, if_neg (by simp; omega)]; simp
theorem putGo_all {l : List DEntry} {x : DEntry} (h : ∀ y ∈ l, y.key < x.key) : putGo l x = l ++ [x] := by
  unfold putGo
  rw [List.filter_eq_self.2 (fun y hy => decide_eq_true (h y hy)), List.filter_eq_nil_iff.2 (fun y hy => by have := h y hy; simp; omega)]
theorem PtI.len {l : List DEntry} {x : DEntry} {put : Bool} {o : List DEntry} {i : Nat} (h : PtI l x put o i) (hs : le_ l) : o.length ≤ i + 1 := by
  cases put
  · rw [(h.no rfl).1, List.length_take]; omega
  · rw [(h.yes rfl).1, putGo_len (List.Pairwise.sublist (List.take_sublist _ _) hs), List.length_take]; split <;> omega
theorem PtI.small {l : List DEntry} {x : DEntry} {o : List DEntry} {i : Nat} (h : PtI l x false o i) (hi : i < l.length) (hk : l[i].key < x.key) : PtI l x false (o ++ [l[i]]) (i + 1) :=
  ⟨by omega, fun _ => ⟨by rw [(h.no rfl).1, List.take_succ_eq_append_getElem hi], fun j hj hlt => by
    by_cases e : j = i
    · subst e; exact hk
    · exact (h.no rfl).2 j hj (by omega)⟩, fun h => by cases h⟩
theorem PtI.all {l : List DEntry} {x : DEntry} {o : List DEntry} {i : Nat} (h : PtI l x false o i) : putGo (l.take i) x = o ++ [x] := by
  rw [(h.no rfl).1, putGo_all]; intro y hy
  obtain ⟨j, hj, rfl⟩ := List.getElem_of_mem hy
  rw [List.length_take] at hj; rw [List.getElem_take]
  exact (h.no rfl).2 j (by omega) (by omega)
theorem PtI.first {l : List DEntry} {x : DEntry} {o : List DEntry} {i : Nat} (h : PtI l x false o i) (hi : i < l.length) (hk : x.key ≤ l[i].key) (hne : l[i].key ≠ x.key) : PtI l x true (o ++ [x] ++ [l[i]]) (i + 1) :=
  ⟨by omega, fun h => (by cases h), fun _ => ⟨by rw [List.take_succ_eq_append_getElem hi, putGo_snoc (by omega), h.all], i, hi, by omega, hk⟩⟩
theorem PtI.same {l : List DEntry} {x : DEntry} {o : List DEntry} {i : Nat} (h : PtI l x false o i) (hi : i < l.length) (he : l[i].key = x.key) : PtI l x true (o ++ [x]) (i + 1) :=
  ⟨by omega, fun h => (by cases h), fun _ => ⟨by rw [List.take_succ_eq_append_getElem hi, putGo_eq he.symm, h.all], i, hi, by omega, by omega⟩⟩
theorem PtI.above {l : List DEntry} {x : DEntry} {o : List DEntry} {i : Nat} (h : PtI l x true o i) (hs : le_ l) (hi : i < l.length) : x.key < l[i].key := by
  obtain ⟨_, j, hj, hlt, hk⟩ := h.yes rfl
  have := sorted_at hs hj hi hlt; omega
theorem PtI.rest {l : List DEntry} {x : DEntry} {o : List DEntry} {i : Nat} (h : PtI l x true o i) (hs : le_ l) (hi : i < l.length) : PtI l x true (o ++ [l[i]]) (i + 1) :=
  ⟨by omega, fun h => (by cases h), fun _ => ⟨by rw [List.take_succ_eq_append_getElem hi, putGo_snoc (h.above hs hi), (h.yes rfl).1], i, hi, by omega, by have := h.above hs hi; omega⟩⟩
theorem PtI.done {l : List DEntry} {x : DEntry} {o : List DEntry} {i : Nat} (h : PtI l x true o i) (hi : (l.length : Int) ≤ i) : o = putGo l x := by
  have := (h.yes rfl).1; rwa [List.take_of_length_le (by omega)] at this
theorem PtI.done' {l : List DEntry} {x : DEntry} {o : List DEntry} {i : Nat} (h : PtI l x false o i) (hi : (l.length : Int) ≤ i) : o ++ [x] = putGo l x := by
  have := h.all; rw [List.take_of_length_le (by omega)] at this; exact this.symm
def refPut (s : DStore) (key n now : Int) : DStore := if 40 < (putGo (live now s.entries) ⟨key, n, now + s.life⟩).length then zero else ⟨s.life, putGo (live now s.entries) ⟨key, n, now + s.life⟩⟩
def refErr (s : DStore) (key n now : Int) : Int := if 40 < (putGo (live now s.entries) ⟨key, n, now + s.life⟩).length then 8 else 0
theorem rput1 {s : DStore} {key n now : Int} {o : List DEntry} (h : o = putGo (live now s.entries) ⟨key, n, now + s.life⟩) (h2 : 40 < (o.length : Int)) : refPut s key n now = zero ∧ refErr s key n now = 8 := by
  subst h; unfold refPut refErr; rw [if_pos (by omega), if_pos (by omega)]; exact ⟨rfl, rfl⟩
theorem rput2 {s : DStore} {key n now : Int} {o : List DEntry} (h : o = putGo (live now s.entries) ⟨key, n, now + s.life⟩) (h2 : (o.length : Int) ≤ 40) : refPut s key n now = ⟨s.life, o⟩ ∧ refErr s key n now = 0 := by
  subst h; unfold refPut refErr; rw [if_neg (by omega), if_neg (by omega)]; exact ⟨rfl, rfl⟩
/- the program's storing -/
theorem live_len (s : DStore) (now : Int) : (live now s.entries).length ≤ s.entries.length := List.length_filter_le _ _
theorem put_err {s : DStore} {key n now : Int} (h : getErr s key now ≠ 0) : put s key n now = zero ∧ putErr s key n now = getErr s key now := by
  have e : putErr s key n now = getErr s key now := if_neg h
  exact ⟨if_neg (by rw [e]; exact h), e⟩
theorem put_val {s : DStore} {key n now : Int} (h : getErr s key now = 0) (h2 : okValue n = false) : put s key n now = zero ∧ putErr s key n now = 3 := by
  have e : putErr s key n now = 3 := by unfold putErr; rw [if_pos h, if_neg (by simp [h2])]
  exact ⟨if_neg (by rw [e]; decide), e⟩
theorem put_go {s : DStore} {key n now : Int} (h : getErr s key now = 0) (h2 : okValue n = true) : put s key n now = refPut s key n now ∧ putErr s key n now = refErr s key n now := by
  have e : putErr s key n now = refErr s key n now := by unfold putErr refErr; rw [if_pos h, if_pos h2]
  refine ⟨?_, e⟩
  unfold put; rw [e]; unfold refErr refPut
  by_cases h3 : 40 < (putGo (live now s.entries) ⟨key, n, now + s.life⟩).length
  · rw [if_pos h3, if_pos h3]; rfl
  · rw [if_neg h3, if_neg h3]; rfl
theorem pok {s : DStore} {key now : Int} (h : getErr s key now = 0) : Ok s ∧ le_ (live now s.entries) ∧ (live now s.entries).length ≤ 40 ∧ (0 ≤ now ∧ now ≤ 1099511627776) ∧ (1 ≤ s.life ∧ s.life ≤ 1073741824) := by
  obtain ⟨h1, _⟩ := get_ok h
  obtain ⟨ho, hn⟩ := now_ok h1
  have := live_len s now; have := ho.len
  exact ⟨ho, live_sorted ho.sorted now, by omega, hn, ho.life⟩
theorem set_put {s : DStore} {key n now u : Int} (h : getErr s key now = 0) (h2 : okValue n = true) (h3 : findIs (live now s.entries) key = true) (hu : u = now + s.life) : (⟨s.life, (live now s.entries).set (findAt (live now s.entries) key) ⟨key, n, u⟩⟩ : DStore) = put s key n now ∧ 0 = putErr s key n now := by
  subst hu
  obtain ⟨_, hs, hl, _⟩ := pok h
  have e := put_is hs (x := ⟨key, n, now + s.life⟩) h3
  have e2 := putGo_len hs ⟨key, n, now + s.life⟩
  rw [if_pos h3] at e2
  obtain ⟨a, b⟩ := put_go (n := n) h h2
  obtain ⟨d, f⟩ := rput2 (s := s) (key := key) (n := n) (now := now) rfl (by omega)
  exact ⟨by rw [a, d, ← e], by rw [b, f]⟩
theorem full_put {s : DStore} {key n now : Int} (h : getErr s key now = 0) (h2 : okValue n = true) (h3 : findIs (live now s.entries) key = false) (hf : ((live now s.entries).length : Int) = 40) : zero = put s key n now ∧ 8 = putErr s key n now := by
  obtain ⟨_, hs, hl, _⟩ := pok h
  have e2 := putGo_len hs ⟨key, n, now + s.life⟩
  rw [if_neg (by simp [h3])] at e2
  obtain ⟨a, b⟩ := put_go (n := n) h h2
  obtain ⟨d, f⟩ := rput1 (s := s) (key := key) (n := n) (now := now) rfl (by omega)
  exact ⟨by rw [a, d], by rw [b, f]⟩
theorem ins_put {s : DStore} {key n now u : Int} (h : getErr s key now = 0) (h2 : okValue n = true) (h3 : findIs (live now s.entries) key = false) (hf : ((live now s.entries).length : Int) ≠ 40) (hu : u = now + s.life) : (⟨s.life, (live now s.entries).take (findAt (live now s.entries) key) ++ [⟨key, n, u⟩] ++ (live now s.entries).drop (findAt (live now s.entries) key)⟩ : DStore) = put s key n now ∧ 0 = putErr s key n now := by
  subst hu
  obtain ⟨_, hs, hl, _⟩ := pok h
  have e := put_not hs (x := ⟨key, n, now + s.life⟩) h3
  have e2 := putGo_len hs ⟨key, n, now + s.life⟩
  rw [if_neg (by simp [h3])] at e2
  obtain ⟨a, b⟩ := put_go (n := n) h h2
  obtain ⟨d, f⟩ := rput2 (s := s) (key := key) (n := n) (now := now) rfl (by omega)
  exact ⟨by rw [a, d, ← e], by rw [b, f]⟩
/- the next tick -/
theorem least_min (l : List DEntry) : ∀ m : Int, l.foldl (fun m y => min m y.till) m ≤ m ∧ (∀ y ∈ l, l.foldl (fun m y => min m y.till) m ≤ y.till) ∧ (l.foldl (fun m y => min m y.till) m = m ∨ ∃ y ∈ l, l.foldl (fun m y => min m y.till) m = y.till) := by
  induction l with
  | nil => intro m; simp
  | cons x l ih =>
    intro m
    obtain ⟨h1, h2, h3⟩ := ih (min m x.till)
    simp only [List.foldl_cons]
    refine ⟨by omega, ?_, ?_⟩
    · intro y hy
      rcases List.mem_cons.1 hy with rfl | hy
      · omega
      · exact h2 y hy
    · rcases h3 with h3 | ⟨y, hy, h3⟩
      · by_cases h : m ≤ x.till
        · left; omega
        · right; exact ⟨x, List.mem_cons_self, by omega⟩
      · right; exact ⟨y, List.mem_cons_of_mem _ hy, h3⟩
theorem least_spec {l : List DEntry} (h : 0 < l.length) : (∀ y ∈ l, least l ≤ y.till) ∧ ∃ y ∈ l, least l = y.till := by
  cases l with
  | nil => simp at h
  | cons x l =>
    obtain ⟨h1, h2, h3⟩ := least_min l x.till
    unfold least
    refine ⟨fun y hy => ?_, ?_⟩
    · rcases List.mem_cons.1 hy with rfl | hy
      · exact h1
      · exact h2 y hy
    · rcases h3 with h3 | ⟨y, hy, h3⟩
      · exact ⟨x, List.mem_cons_self, h3⟩
      · exact ⟨y, List.mem_cons_of_mem _ hy, h3⟩
theorem least_eq {l : List DEntry} {m : Int} (h0 : 0 < l.length) (h : ∀ y ∈ l, m ≤ y.till) (h2 : ∃ y ∈ l, m = y.till) : m = least l := by
  obtain ⟨a, x, hx, e⟩ := least_spec h0
  obtain ⟨y, hy, e2⟩ := h2
  have := h x hx; have := a y hy; omega
theorem least_snoc {l : List DEntry} (x : DEntry) (h : 0 < l.length) : least (l ++ [x]) = min (least l) x.till := by
  cases l with
  | nil => simp at h
  | cons y l => simp [least]
theorem min_least {l : List DEntry} (h : 0 < l.length) : (minF (fun a b : DEntry => cmpI a.till b.till) l).till = least l := by
  have key : ∀ i, i < l.length → (minTo (fun a b : DEntry => cmpI a.till b.till) l i).till = least (l.take (i + 1)) := by
    intro i
    induction i with
    | zero =>
      intro hi
      rw [List.take_succ_eq_append_getElem hi, minTo, ← getd_at hi default]; rfl
    | succ i ih =>
      intro hi
      rw [List.take_succ_eq_append_getElem hi, least_snoc _ (by rw [List.length_take]; omega), ← ih (by omega), minTo, ← getd_at hi default]
      by_cases h1 : l[i + 1].till < (minTo (fun a b : DEntry => cmpI a.till b.till) l i).till
      · rw [if_pos (cmpI_neg.2 h1)]; omega
      · rw [if_neg (fun h2 => h1 (cmpI_neg.1 h2))]; omega
  have := key (l.length - 1) (by omega)
  rw [minF, this, Nat.sub_add_cancel (by omega), List.take_length]
theorem nxt1 {s : DStore} (h : check s ≠ 0) : 0 = next s ∧ check s = nextErr s := by
  have e : nextErr s = check s := if_neg h
  exact ⟨by rw [next, if_neg (by rw [e]; exact h)], e.symm⟩
theorem nxt2 {s : DStore} (h : check s = 0) (h2 : (s.entries.length : Int) = 0) : 0 = next s ∧ 5 = nextErr s := by
  have e : nextErr s = 5 := by unfold nextErr; rw [if_pos h, if_pos (by omega)]
  exact ⟨by rw [next, if_neg (by rw [e]; decide)], e.symm⟩
theorem nxt3 {s : DStore} (h : check s = 0) (h2 : (s.entries.length : Int) ≠ 0) : (minF (fun a b : DEntry => cmpI a.till b.till) s.entries).till = next s ∧ 0 = nextErr s := by
  have e : nextErr s = 0 := by unfold nextErr; rw [if_pos h, if_neg (by omega)]
  exact ⟨by rw [next, if_pos e, min_least (by omega)], e.symm⟩
/-- the reference's least -/
def leastTo (l : List DEntry) (i : Nat) : Int := if i = 0 then 0 else least (l.take i)
theorem lt_next {l : List DEntry} {next : Int} {i : Nat} (h : next = leastTo l i) (hi : i < l.length) : (i = 0 ∨ l[i].till < next → l[i].till = leastTo l (i + 1)) ∧ (i ≠ 0 ∧ next ≤ l[i].till → next = leastTo l (i + 1)) := by
  have e : leastTo l (i + 1) = if i = 0 then l[i].till else min next l[i].till := by
    rw [leastTo, if_neg (by omega), List.take_succ_eq_append_getElem hi]
    split
    · rename_i h0; subst h0; rfl
    · rename_i h0; rw [least_snoc _ (by rw [List.length_take]; omega), h, leastTo, if_neg h0]
  rw [e]
  constructor
  · intro h1; split; rfl; omega
  · intro h1; rw [if_neg h1.1]; omega
theorem lt_end {l : List DEntry} {next : Int} {i : Nat} (h : next = leastTo l i) (hi : (l.length : Int) ≤ i) (h0 : 0 < l.length) : next = least l := by
  rw [h, leastTo, if_neg (by omega), List.take_of_length_le (by omega)]
theorem PtI.other {l : List DEntry} {x : DEntry} {put : Bool} {o : List DEntry} {i : Nat} (h : PtI l x put o i) (hs : le_ l) (hi : i < l.length) (hb : put = true ∨ l[i].key < x.key) : PtI l x put (o ++ [l[i]]) (i + 1) := by
  cases put
  · exact h.small hi (hb.resolve_left (by simp))
  · exact h.rest hs hi
theorem PtI.no_same {l : List DEntry} {x : DEntry} {put : Bool} {o : List DEntry} {i : Nat} (h : PtI l x put o i) (hs : le_ l) (hi : i < l.length) (hb : put = true ∨ l[i].key < x.key) (he : l[i].key = x.key) : False := by
  rcases hb with hb | hb
  · subst hb; have := h.above hs hi; omega
  · omega
theorem PtI.first' {l : List DEntry} {x : DEntry} {put : Bool} {o : List DEntry} {i : Nat} (h : PtI l x put o i) (hp : put = false) (hi : i < l.length) (hk : x.key ≤ l[i].key) (hne : l[i].key ≠ x.key) : PtI l x true (o ++ [x] ++ [l[i]]) (i + 1) := by subst hp; exact h.first hi hk hne
theorem PtI.same' {l : List DEntry} {x : DEntry} {put : Bool} {o : List DEntry} {i : Nat} (h : PtI l x put o i) (hp : put = false) (hi : i < l.length) (he : l[i].key = x.key) : PtI l x true (o ++ [x]) (i + 1) := by subst hp; exact h.same hi he
/- the laws -/
theorem spec_a (s : DStore) (key n now : Int) : (nowErr s now ≠ 0 ∧ put s key n now = zero ∧ putErr s key n now = nowErr s now ∧ get s key now = (0, false) ∧ getErr s key now = nowErr s now) ∨ (nowErr s now = 0 ∧ (key < 0 ∨ 1048576 < key) ∧ put s key n now = zero ∧ putErr s key n now = 3 ∧ get s key now = (0, false) ∧ getErr s key now = 3)
    ∨ (nowErr s now = 0 ∧ (0 ≤ key ∧ key ≤ 1048576) ∧ (n < -1099511627776 ∨ 1099511627776 < n) ∧ put s key n now = zero ∧ putErr s key n now = 3 ∧ get s key now = getGo s.entries key now ∧ getErr s key now = 0)
    ∨ (nowErr s now = 0 ∧ (0 ≤ key ∧ key ≤ 1048576) ∧ (-1099511627776 ≤ n ∧ n ≤ 1099511627776) ∧ put s key n now = refPut s key n now ∧ putErr s key n now = refErr s key n now ∧ get s key now = getGo s.entries key now ∧ getErr s key now = 0) := by
  by_cases h : nowErr s now = 0
  · by_cases h1 : Lru.okKey key = true
    · have hg : getErr s key now = 0 := by unfold getErr; rw [if_pos h, if_pos h1]
      have hk := Lru.key_ok h1
      by_cases h2 : okValue n = true
      · obtain ⟨a, b⟩ := put_go hg h2
        simp [okValue] at h2
        exact .inr (.inr (.inr ⟨h, hk, h2, a, b, get2 hg, hg⟩))
      · have h2' : okValue n = false := by simpa using h2
        obtain ⟨a, b⟩ := put_val hg h2'
        simp [okValue] at h2'
        exact .inr (.inr (.inl ⟨h, hk, by omega, a, b, get2 hg, hg⟩))
    · have hg : getErr s key now = 3 := by unfold getErr; rw [if_pos h, if_neg h1]
      obtain ⟨a, b⟩ := put_err (n := n) (by rw [hg]; decide : getErr s key now ≠ 0)
      simp [Lru.okKey] at h1
      exact .inr (.inl ⟨h, by omega, a, by rw [b, hg], get1 (by rw [hg]; decide), hg⟩)
  · have hg : getErr s key now = nowErr s now := by unfold getErr; rw [if_neg h]
    obtain ⟨a, b⟩ := put_err (n := n) (by rw [hg]; exact h : getErr s key now ≠ 0)
    exact .inl ⟨h, a, by rw [b, hg], get1 (by rw [hg]; exact h), hg⟩
theorem spec_b (s : DStore) (now : Int) : (nowErr s now ≠ 0 ∧ sweep s now = (zero, [])) ∨ (nowErr s now = 0 ∧ sweep s now = (⟨s.life, live now s.entries⟩, over now s.entries)) := by
  by_cases h : nowErr s now = 0
  · exact .inr ⟨h, sweep2 h⟩
  · exact .inl ⟨h, sweep1 h⟩
theorem spec_c (s : DStore) : (check s ≠ 0 ∧ next s = 0 ∧ nextErr s = check s) ∨ (check s = 0 ∧ s.entries.length = 0 ∧ next s = 0 ∧ nextErr s = 5) ∨ (check s = 0 ∧ 0 < s.entries.length ∧ next s = least s.entries ∧ nextErr s = 0) := by
  by_cases h : check s = 0
  · by_cases h2 : s.entries.length = 0
    · obtain ⟨a, b⟩ := nxt2 h (by omega); exact .inr (.inl ⟨h, h2, a.symm, b.symm⟩)
    · obtain ⟨a, b⟩ := nxt3 h (by omega)
      exact .inr (.inr ⟨h, by omega, by rw [← a, min_least (by omega)], b.symm⟩)
  · obtain ⟨a, b⟩ := nxt1 h; exact .inl ⟨h, a.symm, b.symm⟩
theorem put_entries {s : DStore} {key n now : Int} (h : putErr s key n now = 0) : (put s key n now).life = s.life ∧ (put s key n now).entries = putGo (live now s.entries) ⟨key, n, now + s.life⟩ := by
  rw [put, if_pos h]; exact ⟨rfl, rfl⟩
theorem put_Ok {s : DStore} {key n now : Int} (h : putErr s key n now = 0) : Ok (put s key n now) := by
  obtain ⟨h1, h2, h3⟩ := put_ok h
  obtain ⟨ho, hs, hl, hn, hlf⟩ := pok h1
  obtain ⟨h4, h5⟩ := get_ok h1
  obtain ⟨e1, e2⟩ := put_entries h
  refine ⟨by rw [e1]; exact ho.life, by rw [e2]; exact h3, ?_, by rw [e2]; exact put_sorted hs _⟩
  rw [e2]; intro x hx
  rcases mem_put.1 hx with rfl | ⟨hx, _⟩
  · rw [okEntry_iff]
    have := Lru.key_ok h5
    simp [okValue] at h2
    exact ⟨this, h2, by constructor <;> simp only <;> omega⟩
  · exact ho.entry x (mem_live.1 hx).1
theorem getErr_of {s : DStore} {key now : Int} (h : Ok s) : getErr s key now = (if okNow now = true then (if Lru.okKey key = true then 0 else 3) else 3) := by
  unfold getErr nowErr
  rw [if_pos (check_ok.2 h)]
  by_cases h1 : okNow now = true
  · rw [if_pos h1, if_pos h1]; rfl
  · rw [if_neg h1, if_neg h1]; rfl
theorem life_err {s : DStore} {key n now later : Int} (h : putErr s key n now = 0) (h2 : getErr (put s key n now) key later ≠ 0) : later < 0 ∨ 1099511627776 < later := by
  obtain ⟨h1, _, _⟩ := put_ok h
  have hk := (get_ok h1).2
  rw [getErr_of (put_Ok h), hk] at h2
  by_cases e : okNow later = true
  · simp [e] at h2
  · simp [okNow] at e; omega
theorem life_get {s : DStore} {key n now later : Int} (h : putErr s key n now = 0) (h2 : getErr (put s key n now) key later = 0) : (later - now < s.life → get (put s key n now) key later = (n, true)) ∧ (s.life ≤ later - now → get (put s key n now) key later = (0, false)) := by
  have ho := put_Ok h
  obtain ⟨e1, e2⟩ := put_entries h
  rw [Exp.get2 h2]
  constructor
  · intro hl
    have hm : (⟨key, n, now + s.life⟩ : DEntry) ∈ (put s key n now).entries := by rw [e2]; exact mem_put.2 (.inl rfl)
    exact getGo_some ho.sorted hm (show later < now + s.life by omega)
  · intro hl
    refine getGo_none fun x hx hk => ?_
    rw [e2] at hx
    rcases mem_put.1 hx with rfl | ⟨_, hne⟩
    · show now + s.life ≤ later; omega
    · exact absurd hk hne
theorem life_nums {s : DStore} {key n now later : Int} (h : putErr s key n now = 0) (h2 : getErr (put s key n now) key later = 0) : (0 ≤ now ∧ now ≤ 1099511627776) ∧ (0 ≤ later ∧ later ≤ 1099511627776) := by
  exact ⟨(pok (put_ok h).1).2.2.2.1, (pok h2).2.2.2.1⟩
theorem life_bad {s : DStore} {key n now later : Int} (h : putErr s key n now = 0) (h2 : getErr (put s key n now) key later = 0) (h3 : (decide (later - now < s.life) != (get (put s key n now) key later).2) = true ∨ (get (put s key n now) key later).2 = true ∧ (get (put s key n now) key later).1 ≠ n) : False := by
  obtain ⟨a, b⟩ := life_get h h2
  rcases Int.lt_or_le (later - now) s.life with h4 | h4
  · rw [a h4] at h3; simp [h4] at h3
  · rw [b h4] at h3; simp at h3; omega
theorem life_sweep {s : DStore} {key n now : Int} (h : putErr s key n now = 0) : nowErr (put s key n now) now = 0 ∧ (sweep (put s key n now) now).2 = [] ∧ check (put s key n now) = 0 := by
  have ho := put_Ok h
  obtain ⟨e1, e2⟩ := put_entries h
  obtain ⟨h1, _, _⟩ := put_ok h
  obtain ⟨_, _, _, hn, hlf⟩ := pok h1
  have hc := check_ok.2 ho
  have hnow : nowErr (put s key n now) now = 0 := by
    unfold nowErr; rw [if_pos hc, if_pos]; simp [okNow]; omega
  refine ⟨hnow, ?_, hc⟩
  rw [sweep2 hnow, over, e2]
  show List.map _ (List.filter _ _) = []
  rw [List.filter_eq_nil_iff.2, List.map_nil]
  intro x hx
  rcases mem_put.1 hx with rfl | ⟨hx, _⟩
  · simp; omega
  · have := (mem_live.1 hx).2; simp; omega
theorem sw_Ok {s : DStore} {now : Int} (h : nowErr s now = 0) : Ok (sweep s now).1 := by
  obtain ⟨ho, _⟩ := now_ok h
  rw [sweep2 h]
  exact ⟨ho.life, by have := live_len s now; have := ho.len; show (live now s.entries).length ≤ 40; omega, fun x hx => ho.entry x (mem_live.1 hx).1, live_sorted ho.sorted now⟩
theorem live_live {l : List DEntry} {now later : Int} (h : now ≤ later) : live later (live now l) = live later l := by
  unfold live; rw [List.filter_filter]; apply List.filter_congr; intro x _; simp; omega
theorem over_live {l : List DEntry} {now : Int} : over now (live now l) = [] := by
  unfold over live; rw [List.filter_filter, List.filter_eq_nil_iff.2, List.map_nil]; intro x _; simp; try omega
theorem sweeps {s : DStore} {key now later : Int} (h : nowErr s now = 0) (h2 : now ≤ later) :
    getErr s key later = getErr (sweep s now).1 key later ∧ get s key later = get (sweep s now).1 key later ∧ nowErr (sweep s now).1 now = 0 ∧ (sweep (sweep s now).1 now).2 = [] ∧ (sweep (sweep s now).1 now).1 = (sweep s now).1 ∧ (nextErr (sweep s now).1 = 0 → now < next (sweep s now).1) := by
  obtain ⟨ho, hn1, hn2⟩ := now_ok h
  have ho2 := sw_Ok h
  have e := sweep2 h
  have g1 : getErr s key later = getErr (sweep s now).1 key later := by rw [getErr_of ho, getErr_of ho2]
  have g3 : nowErr (sweep s now).1 now = 0 := by
    unfold nowErr; rw [if_pos (check_ok.2 ho2), if_pos]; simp [okNow]; omega
  refine ⟨g1, ?_, g3, ?_, ?_, ?_⟩
  · unfold get; rw [← g1, e]; unfold getGo; rw [live_live h2]
  · rw [sweep2 g3, e]; exact over_live
  · rw [sweep2 g3, e]; simp only [live_live (Int.le_refl now)]
  · intro h5
    unfold next; rw [if_pos h5, e]
    unfold nextErr at h5
    rw [if_pos (check_ok.2 ho2)] at h5
    have hl : 0 < (live now s.entries).length := by
      rcases Nat.eq_zero_or_pos (live now s.entries).length with h6 | h6
      · rw [e] at h5; simp only [h6] at h5; simp at h5
      · exact h6
    obtain ⟨_, y, hy, e3⟩ := least_spec hl
    rw [e3]; exact (mem_live.1 hy).2
theorem sweep_bad {s : DStore} {now : Int} (h : nowErr s now ≠ 0) : (sweep s now).2 = [] := by rw [sweep1 h]
theorem others {s : DStore} {key n now other later : Int} (h : putErr s key n now = 0) (h1 : other ≠ key) (h2 : now ≤ later) : getErr s other later = getErr (put s key n now) other later ∧ get s other later = get (put s key n now) other later := by
  have ho2 := put_Ok h
  obtain ⟨e1, e2⟩ := put_entries h
  obtain ⟨h3, _, _⟩ := put_ok h
  obtain ⟨ho, _⟩ := pok h3
  have g1 : getErr s other later = getErr (put s key n now) other later := by rw [getErr_of ho, getErr_of ho2]
  refine ⟨g1, ?_⟩
  unfold get; rw [← g1]
  split
  · refine getGo_same ho.sorted ho2.sorted fun x hk ht => ?_
    rw [e2, mem_put]
    constructor
    · intro hx; exact .inr ⟨mem_live.2 ⟨hx, by omega⟩, by simp only; omega⟩
    · rintro (rfl | ⟨hx, _⟩)
      · exact absurd hk.symm h1
      · exact (mem_live.1 hx).1
  · rfl
end Go.Sx.Exp
namespace Go.Sx.Exp
theorem ge1 {s : DStore} {key now : Int} (h : nowErr s now ≠ 0) : get s key now = (0, false) ∧ nowErr s now = getErr s key now := by
  have hg : getErr s key now = nowErr s now := if_neg h
  exact ⟨get1 (by rw [hg]; exact h), hg.symm⟩
theorem ge2 {s : DStore} {key now : Int} (h : nowErr s now = 0) (h1 : Lru.okKey key = false) : get s key now = (0, false) ∧ 3 = getErr s key now := by
  have hg : getErr s key now = 3 := by unfold getErr; rw [if_pos h, if_neg (by simp [h1])]
  exact ⟨get1 (by rw [hg]; decide), hg.symm⟩
theorem ge3 {s : DStore} {key now : Int} (h : nowErr s now = 0) (h1 : Lru.okKey key = true) : getErr s key now = 0 := by unfold getErr; rw [if_pos h, if_pos h1]
theorem ge4 {s : DStore} {key now : Int} (ho : Ok s) (h : getErr s key now = 0) (h1 : findIs s.entries key = true ∧ now < (s.entries.getD ((findAt s.entries key : Int)).toNat default).till) : get s key now = ((s.entries.getD ((findAt s.entries key : Int)).toNat default).value, true) ∧ 0 = getErr s key now := by
  refine ⟨?_, h.symm⟩
  obtain ⟨h2, _⟩ := findIs_iff.1 h1.1
  have h3 := h1.2
  simp only [Int.toNat_natCast] at h3 ⊢
  rw [← getd_at h2 default] at h3 ⊢
  rw [get2 h]; exact got ho.sorted h1.1 h2 h3
theorem ge5 {s : DStore} {key now : Int} (ho : Ok s) (h : getErr s key now = 0) (h1 : findIs s.entries key = false ∨ (s.entries.getD ((findAt s.entries key : Int)).toNat default).till ≤ now) : get s key now = (0, false) ∧ 0 = getErr s key now := by
  refine ⟨?_, h.symm⟩
  rw [get2 h]; refine got_no ho.sorted (h1.imp id fun h3 hl => ?_)
  simp only [Int.toNat_natCast] at h3
  rw [getd_at hl default]; exact h3
theorem pe1 {s : DStore} {key n now : Int} (h : getErr s key now ≠ 0) : zero = put s key n now ∧ getErr s key now = putErr s key n now := by
  obtain ⟨a, b⟩ := put_err (n := n) h; exact ⟨a.symm, b.symm⟩
theorem pe2 {s : DStore} {key n now : Int} (h : getErr s key now = 0) (h2 : okValue n = false) : zero = put s key n now ∧ 3 = putErr s key n now := by
  obtain ⟨a, b⟩ := put_val h h2; exact ⟨a.symm, b.symm⟩
theorem put_zero {s : DStore} {key n now : Int} (h : putErr s key n now ≠ 0) : put s key n now = zero := if_neg h
theorem entry_eq {f g : DEntry} (h : f.key = g.key ∧ f.value = g.value ∧ f.till = g.till) : f = g := by cases f; cases g; simp_all
theorem same_no {a b : DStore} (h : a.life ≠ b.life ∨ (a.entries.length : Int) ≠ b.entries.length) : false = decide (a = b) := by
  symm; apply decide_eq_false; rintro rfl; simp at h
theorem same_no2 {a b : DStore} {i : Nat} {h1 : i < a.entries.length} {h2 : i < b.entries.length} (h : a.entries[i].key ≠ b.entries[i].key ∨ a.entries[i].value ≠ b.entries[i].value ∨ a.entries[i].till ≠ b.entries[i].till) : false = decide (a = b) := by
  symm; apply decide_eq_false; rintro rfl; simp at h
theorem same_yes {a b : DStore} (h1 : a.life = b.life) (h3 : (a.entries.length : Int) = b.entries.length) (h : ∀ j (h1 : j < a.entries.length) (h2 : j < b.entries.length), a.entries[j] = b.entries[j]) : true = decide (a = b) := by
  symm; apply decide_eq_true
  cases a; cases b; simp only [DStore.mk.injEq]
  exact ⟨h1, List.ext_getElem (Int.ofNat.inj h3) fun j h1 h2 => h j h1 h2⟩
end Go.Sx.Exp
