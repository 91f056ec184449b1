/- The text form of traces: writing; what is reckoned at fixed inputs. -/
import Derived.Test.YtgkihbbeimhmbaaDoorTrLaw5
namespace Go.Sx
theorem Rd_drop {α : Type} {T : Ty α} {w : World} {a : Option Addr} {cap : Nat} {L : List α} {n : Nat} (h : Rd T w a cap L) (hn : n ≤ L.length) : Rd T w (sa a cap n T.k) (cap - n) (L.drop n) := by
  have := SlR.part h (l := n) (m := cap) (hi := L.length) hn (Nat.le_refl _) h.1 (Nat.le_refl _)
  exact (by simpa using this : SlR T (fun b => b < w.heap.size) w (sa a cap n T.k) (cap - n) (L.drop n))
namespace Trc
theorem fmt_bad {l : List Int} (h : ¬ Lru.trace l = 0) : ByteArray.mk #[] = format l := by unfold format; rw [if_neg h]; rfl
theorem len_pos {l : List Int} (h : 0 < (l.length : Int)) : l ≠ [] := fun e => by rw [e] at h; simp at h
structure FI (l l2 : List Int) (out : List ByteArray) : Prop where
  keys : ∀ k ∈ l2, Lru.okKey k = true
  len : l2.length ≤ 200
  eq : out ++ (pieces l2).map ofL = (pieces l).map ofL
  all : Lru.trace l = 0
theorem FI.start {l : List Int} (h : Lru.trace l = 0) : FI l l [] := ⟨(trace_ok.1 h).2, (trace_ok.1 h).1, rfl, h⟩
theorem FI.olen {l l2 : List Int} {out : List ByteArray} (h : FI l l2 out) : out.length ≤ 200 := by
  have h1 := congrArg List.length h.eq
  obtain ⟨t1, t2⟩ := trace_ok.1 h.all
  have h2 := (pieces_len _ l rfl t1 t2).2
  rw [List.length_append, List.length_map, List.length_map] at h1
  omega
theorem FI.next {l l2 : List Int} {out : List ByteArray} (h : FI l l2 out) (hne : l2 ≠ []) {p : ByteArray} {n : Nat} (hn : n = itemN l2) (hp : p = ofL (itemL l2)) : FI l (l2.drop n) (out ++ [p]) :=
  ⟨fun k hk => h.keys k (List.mem_of_mem_drop hk), by rw [List.length_drop]; have := h.len; omega, by
    rw [← h.eq, pieces_cons hne, hn, hp, List.append_assoc]; rfl, h.all⟩
theorem FI.star {l l2 : List Int} {out : List ByteArray} (h : FI l l2 out) (hne : l2 ≠ []) (hs : 1 < (run 0 l2 : Int)) :
    FI l (l2.drop (run 0 l2 : Int).toNat) (out ++ [decS (l2.getD 0 default) ++ ((ByteArray.mk #[42]) ++ decS (run 0 l2 : Int))]) := by
  obtain ⟨e1, e2⟩ := item_star_eq (l := l2) (by omega)
  refine h.next hne (by rw [e1]; omega) ?_
  rw [e2]; unfold decS; rw [sign_add]
theorem FI.dash {l l2 : List Int} {out : List ByteArray} (h : FI l l2 out) (hne : l2 ≠ []) (hs : (run 0 l2 : Int) ≤ 1) (hd : 2 < (run 1 l2 : Int)) :
    FI l (l2.drop (run 1 l2 : Int).toNat) (out ++ [decS (l2.getD 0 default) ++ ((ByteArray.mk #[45]) ++ decS (l2.getD ((run 1 l2 : Int) - 1).toNat default))]) := by
  obtain ⟨e1, e2⟩ := item_dash_eq (l := l2) (by omega) (by omega)
  refine h.next hne (by rw [e1]; omega) ?_
  have hle := run_le hne 1
  have e3 : l2.getD ((run 1 l2 : Int) - 1).toNat default = l2.getD 0 default + (run 1 l2 : Int) - 1 := by
    have e4 : ((run 1 l2 : Int) - 1).toNat = run 1 l2 - 1 := by omega
    rw [e4, getD_eq (by omega), run_get (d := 1) (by omega) (by omega)]
    show l2.getD 0 default + ((run 1 l2 - 1 : Nat) : Int) * 1 = _; omega
  rw [e2, e3]; unfold decS; rw [sign_add]
theorem FI.one {l l2 : List Int} {out : List ByteArray} (h : FI l l2 out) (hne : l2 ≠ []) (hs : (run 0 l2 : Int) ≤ 1) (hd : (run 1 l2 : Int) ≤ 2) : FI l (l2.drop 1) (out ++ [decS (l2.getD 0 default)]) := by
  obtain ⟨e1, e2⟩ := item_one_eq (l := l2) (by omega) (by omega)
  exact h.next hne e1.symm (by rw [e2]; rfl)
theorem join_append_le (a b : List (List UInt8)) : (Go.Lib.join a [32]).length ≤ ((a ++ b).map (fun p => p.length + 1)).sum := by
  have := join_len_le a
  rw [List.map_append, List.sum_append]; omega
theorem FI.out_eq {l l2 : List Int} {out : List ByteArray} (h : FI l l2 out) : out.map (fun x => x.data.toList) ++ pieces l2 = pieces l := by
  have := congrArg (List.map (fun x : ByteArray => x.data.toList)) h.eq
  rw [List.map_append, List.map_map, List.map_map] at this
  have e : ∀ q : List (List UInt8), q.map ((fun x : ByteArray => x.data.toList) ∘ ofL) = q := fun q => List.map_id'' (fun x => rfl) _
  rw [e, e] at this; exact this
theorem FI.size {l l2 : List Int} {out : List ByteArray} (h : FI l l2 out) : (joinB out (ByteArray.mk #[32])).size ≤ 140737488355328 := by
  obtain ⟨t1, t2⟩ := trace_ok.1 h.all
  have h2 := (pieces_len _ l rfl t1 t2).1
  rw [← h.out_eq] at h2
  have h3 := join_append_le (out.map (fun x => x.data.toList)) (pieces l2)
  unfold joinB; rw [ofL_size]
  show (Go.Lib.join (out.map (fun x => x.data.toList)) [32]).length ≤ _
  omega
theorem FI.done {l l2 : List Int} {out : List ByteArray} (h : FI l l2 out) (ht : Lru.trace l = 0) (h0 : (l2.length : Int) ≤ 0) : joinB out (ByteArray.mk #[32]) = format l := by
  have e : l2 = [] := List.eq_nil_of_length_eq_zero (by omega)
  have h1 := h.out_eq
  rw [e, pieces_nil, List.append_nil] at h1
  unfold format joinB write
  rw [if_pos ht, h1]
/-! ### reckoned -/
def decF : Nat → Nat → List UInt8
  | 0, n => [UInt8.ofNat (48 + n)]
  | f + 1, n => if n < 10 then [UInt8.ofNat (48 + n)] else decF f (n / 10) ++ [UInt8.ofNat (48 + n % 10)]
theorem decF_eq : ∀ (f n : Nat), n ≤ f → Go.Lib.decDigits n = decF f n
  | 0, n, h => dec_small (by omega)
  | f + 1, n, h => by
    rw [decF]; split
    · rename_i h1; exact dec_small h1
    · rename_i h1; rw [dec_big h1, decF_eq f (n / 10) (by omega)]
def decG (n : Int) : List UInt8 := decF n.toNat n.toNat
theorem dec_G (n : Int) : dec n = decG n := decF_eq _ _ (Nat.le_refl _)
def itemF (l : List Int) : List UInt8 := if 1 < run 0 l then decG (l.getD 0 0) ++ 42 :: decG (run 0 l) else if 2 < run 1 l then decG (l.getD 0 0) ++ 45 :: decG (l.getD 0 0 + (run 1 l : Int) - 1) else decG (l.getD 0 0)
theorem item_F (l : List Int) : itemL l = itemF l := by unfold itemL itemF; simp only [dec_G]
def piecesF : Nat → List Int → List (List UInt8)
  | 0, _ => []
  | f + 1, l => if l = [] then [] else itemF l :: piecesF f (l.drop (itemN l))
theorem pieces_F : ∀ (f : Nat) (l : List Int), l.length ≤ f → pieces l = piecesF f l
  | 0, l, h => by
    have e : l = [] := List.eq_nil_of_length_eq_zero (by omega)
    rw [e, pieces_nil]; rfl
  | f + 1, l, h => by
    rw [piecesF]; split
    · rename_i e; rw [e, pieces_nil]
    · rename_i e
      have := itemN_pos l; have := List.length_pos_iff.2 e
      rw [pieces_cons e, item_F, pieces_F f _ (by rw [List.length_drop]; omega)]
def formatF (l : List Int) : ByteArray := if Lru.trace l = 0 then ofL (Go.Lib.join (piecesF l.length l) [32]) else ByteArray.empty
theorem format_F (l : List Int) : format l = formatF l := by unfold format formatF write; rw [pieces_F l.length l (Nat.le_refl _)]
def compactF (s : ByteArray) : ByteArray := if (parse s).2 = 0 then formatF (parse s).1 else ByteArray.empty
theorem compact_F (s : ByteArray) : compact s = compactF s := by unfold compact compactF; rw [format_F]
end Trc
end Go.Sx
