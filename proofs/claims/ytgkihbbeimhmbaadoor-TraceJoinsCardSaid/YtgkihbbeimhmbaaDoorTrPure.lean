/- The text form of traces: the plain functions. -/
import Derived.Test.YtgkihbbeimhmbaaDoorSx27
import Derived.Test.YtgkihbbeimhmbaaDoorLbPure
import Derived.Lib.SplitLaws
import Derived.Lib.SlTrimSet
import Derived.Lib.ItoaNum
import Derived.Lib.IndexAny
import Derived.Lib.Join
import Derived.Lib.AtoiTie
namespace Go.Sx.Trc
/-! ### bytes and texts -/
def ofL (l : List UInt8) : ByteArray := ⟨l.toArray⟩
theorem ofL_data (l : List UInt8) : (ofL l).data.toList = l := rfl
theorem data_ofL (s : ByteArray) : ofL s.data.toList = s := by obtain ⟨⟨l⟩⟩ := s; rfl
theorem ofL_size (l : List UInt8) : (ofL l).size = l.length := by rw [Go.Lib.size_eq]; rfl
theorem ofL_inj {a b : List UInt8} (h : ofL a = ofL b) : a = b := by have := congrArg (fun s : ByteArray => s.data.toList) h; exact this
theorem ofL_append (a b : List UInt8) : ofL a ++ ofL b = ofL (a ++ b) := by
  apply ByteArray.ext
  show (ofL a ++ ofL b).data = (a ++ b).toArray
  rw [ByteArray.data_append]; simp [ofL]
theorem ofL_extract (l : List UInt8) (a b : Nat) : (ofL l).extract a b = ofL ((l.drop a).take (b - a)) := by
  rw [← data_ofL ((ofL l).extract a b), Go.Lib.extract_data]; rfl
theorem empty_ofL : ByteArray.empty = ofL [] := rfl
theorem eq_empty {l : List UInt8} : ofL l = ByteArray.empty ↔ l = [] := ⟨fun h => ofL_inj h, fun h => by rw [h]; rfl⟩
theorem byteAt_ofL {l : List UInt8} {i : Nat} : byteAt (ofL l) i = l.getD i 0 := by
  show (l.toArray).getD i 0 = _
  simp [Array.getD_eq_getD_getElem?]
/-! ### numbers -/
def digs : List UInt8 := [48, 49, 50, 51, 52, 53, 54, 55, 56, 57]
def isD (b : UInt8) : Bool := decide (48 ≤ b.toNat) && decide (b.toNat ≤ 57)
theorem digs_fin : ∀ b : Fin 256, digs.contains (UInt8.ofNat b.val) = isD (UInt8.ofNat b.val) := by decide +kernel
theorem digs_isD (b : UInt8) : digs.contains b = isD b := by
  have h := digs_fin ⟨b.toNat, b.toNat_lt⟩
  simpa using h
def value (l : List UInt8) : Nat := l.foldl (fun n b => 10 * n + (b.toNat - 48)) 0
/-- a number of one to seven digits without zeros ahead -/
def numOk (l : List UInt8) : Prop := l ≠ [] ∧ l.length ≤ 7 ∧ ¬ (1 < l.length ∧ l.getD 0 0 = 48) ∧ l.all isD = true
instance (l : List UInt8) : Decidable (numOk l) := by unfold numOk; infer_instance
def numL (l : List UInt8) : Int := if numOk l then (value l : Int) else -1
def num (s : ByteArray) : Int := numL s.data.toList
theorem num_ofL (l : List UInt8) : num (ofL l) = numL l := rfl
theorem dropWhile_nil {α : Type} {p : α → Bool} {l : List α} : l.dropWhile p = [] ↔ l.all p = true := by
  induction l with
  | nil => simp
  | cons x r ih =>
    by_cases h : p x = true
    · rw [List.dropWhile_cons_of_pos h, ih]; simp [h]
    · rw [List.dropWhile_cons_of_neg h]; simp [h]
theorem all_dropWhile {α : Type} {p : α → Bool} {l : List α} (h : l.all p = true) : (l.dropWhile p) = [] := dropWhile_nil.2 h
theorem trim_nil {l : List UInt8} : Go.Lib.trimS l digs = [] ↔ l.all isD = true := by
  have e : (digs.contains ·) = isD := funext digs_isD
  unfold Go.Lib.trimS Go.Lib.trimLeftS Go.Lib.trimRightS
  rw [e, dropWhile_nil, List.all_reverse]
  constructor
  · intro h
    rw [List.all_eq_true] at h ⊢
    have hs := List.takeWhile_append_dropWhile (p := isD) (l := l.reverse)
    intro x hx
    rw [← List.mem_reverse, ← hs, List.mem_append] at hx
    rcases hx with hx | hx
    · have h9 := List.all_eq_true.1 (List.all_takeWhile (p := isD) (l := l.reverse)) x hx
      exact h9
    · exact h x hx
  · intro h
    rw [List.all_eq_true] at h ⊢
    intro x hx
    exact h x (List.mem_reverse.1 ((List.dropWhile_sublist isD).subset hx))
theorem decFrom_all : ∀ (l : List UInt8) (n : Nat), l.all isD = true → Go.Lib.decFrom n l = some (l.foldl (fun n b => 10 * n + (b.toNat - 48)) n)
  | [], n, _ => rfl
  | b :: r, n, h => by
    simp only [List.all_cons, Bool.and_eq_true] at h
    have hb : 48 ≤ b.toNat ∧ b.toNat ≤ 57 := by simpa [isD] using h.1
    rw [Go.Lib.decFrom, Go.Lib.digitVal, if_pos hb]
    show Go.Lib.decFrom (n * 10 + (b.toNat - 48)) r = _
    rw [decFrom_all r _ h.2, List.foldl_cons, Nat.mul_comm]
theorem atoi_all {l : List UInt8} (h0 : l ≠ []) (h : l.all isD = true) : Go.Lib.atoi l = some (value l : Int) := by
  match l, h0 with
  | b :: r, _ =>
    have hb : 48 ≤ b.toNat ∧ b.toNat ≤ 57 := by
      simp only [List.all_cons, Bool.and_eq_true] at h
      simpa [isD] using h.1
    have e1 : (b == 45) = false := beq_eq_false_iff_ne.2 (fun e => by rw [e] at hb; exact absurd hb.1 (by decide))
    have e2 : (b == 43) = false := beq_eq_false_iff_ne.2 (fun e => by rw [e] at hb; exact absurd hb.1 (by decide))
    rw [Go.Lib.atoi, e1, e2]
    simp only [Bool.false_eq_true, if_false]
    rw [Go.Lib.decNat]
    simp only [List.isEmpty_cons, Bool.false_eq_true, if_false]
    rw [decFrom_all _ _ h]
    rfl
theorem value_snoc (l : List UInt8) (b : UInt8) : value (l ++ [b]) = 10 * value l + (b.toNat - 48) := by
  unfold value; rw [List.foldl_append]; rfl
theorem foldl_lt : ∀ (l : List UInt8) (n k : Nat), l.all isD = true → n < 10 ^ k → l.foldl (fun n b => 10 * n + (b.toNat - 48)) n < 10 ^ (k + l.length)
  | [], n, k, _, h => h
  | b :: r, n, k, h, hn => by
    simp only [List.all_cons, Bool.and_eq_true] at h
    have hb : 48 ≤ b.toNat ∧ b.toNat ≤ 57 := by simpa [isD] using h.1
    have := foldl_lt r (10 * n + (b.toNat - 48)) (k + 1) h.2 (by rw [Nat.pow_succ]; omega)
    rw [List.foldl_cons, List.length_cons]
    rw [show k + 1 + r.length = k + (r.length + 1) by omega] at this
    exact this
theorem value_lt {l : List UInt8} (h : l.all isD = true) : value l < 10 ^ l.length := by
  have := foldl_lt l 0 0 h (by decide)
  rwa [Nat.zero_add] at this
theorem num_cases (l : List UInt8) : numL l = -1 ∨ (0 ≤ numL l ∧ numL l ≤ 9999999) := by
  unfold numL
  split
  · rename_i h
    have h1 := value_lt h.2.2.2
    have h2 : 10 ^ l.length ≤ 10 ^ 7 := Nat.pow_le_pow_right (by decide) h.2.1
    right; omega
  · exact .inl rfl
theorem num_ge (s : ByteArray) : -1 ≤ num s ∧ num s ≤ 9999999 := by
  rcases num_cases s.data.toList with h | h <;> unfold num <;> omega
/-! ### decimal digits -/
def dec (n : Int) : List UInt8 := Go.Lib.decDigits n.toNat
def decS (n : Int) : ByteArray := ofL (dec n)
theorem itoa_dec {n : Int} (h : 0 ≤ n) : Go.Lib.itoa n = dec n := by unfold Go.Lib.itoa dec; rw [if_neg (by omega)]
theorem dec_small {n : Nat} (h : n < 10) : Go.Lib.decDigits n = [UInt8.ofNat (48 + n)] := by rw [Go.Lib.decDigits, dif_pos h]
theorem dec_big {n : Nat} (h : ¬ n < 10) : Go.Lib.decDigits n = Go.Lib.decDigits (n / 10) ++ [UInt8.ofNat (48 + n % 10)] := by rw [Go.Lib.decDigits, dif_neg h]
theorem isD_digit {n : Nat} (h : n < 10) : isD (UInt8.ofNat (48 + n)) = true ∧ (UInt8.ofNat (48 + n)).toNat - 48 = n := by
  have e : (UInt8.ofNat (48 + n)).toNat = 48 + n := by rw [UInt8.toNat_ofNat']; omega
  unfold isD; rw [e]; simp; omega
theorem dec_ok (n : Nat) : Go.Lib.decDigits n ≠ [] ∧ (Go.Lib.decDigits n).all isD = true ∧ value (Go.Lib.decDigits n) = n ∧ ((Go.Lib.decDigits n).getD 0 0 = 48 → n = 0) := by
  induction n using Nat.strongRecOn with
  | ind n ih =>
    by_cases h : n < 10
    · have hd := isD_digit h
      rw [dec_small h]
      refine ⟨by simp, by simpa using hd.1, ?_, fun e => ?_⟩
      · show 10 * 0 + ((UInt8.ofNat (48 + n)).toNat - 48) = n
        rw [hd.2]; omega
      · have e2 : UInt8.ofNat (48 + n) = 48 := e
        have h9 := hd.2; rw [e2] at h9; exact h9.symm
    · obtain ⟨i1, i2, i3, i4⟩ := ih (n / 10) (by omega)
      have hd := isD_digit (n := n % 10) (by omega)
      rw [dec_big h]
      refine ⟨by simp, by rw [List.all_append, i2]; simpa using hd.1, by rw [value_snoc, i3, hd.2]; omega, fun e => ?_⟩
      have e2 : (Go.Lib.decDigits (n / 10) ++ [UInt8.ofNat (48 + n % 10)]).getD 0 0 = (Go.Lib.decDigits (n / 10)).getD 0 0 := by
        cases hq : Go.Lib.decDigits (n / 10) with
        | nil => exact absurd hq i1
        | cons x r => rfl
      rw [e2] at e
      have := i4 e; omega
theorem dec_len : ∀ (k n : Nat), n < 10 ^ (k + 1) → (Go.Lib.decDigits n).length ≤ k + 1
  | 0, n, h => by rw [dec_small (by simpa using h)]; simp
  | k + 1, n, h => by
    by_cases h1 : n < 10
    · rw [dec_small h1]; simp
    · rw [dec_big h1, List.length_append, List.length_singleton]
      have := dec_len k (n / 10) (by rw [Nat.pow_succ] at h; omega)
      omega
theorem numL_dec {n : Int} (h0 : 0 ≤ n) (h : n < 10000000) : numL (dec n) = n := by
  obtain ⟨h1, h2, h3, h4⟩ := dec_ok n.toNat
  have hl := dec_len 6 n.toNat (by omega)
  unfold numL dec
  rw [if_pos ⟨h1, hl, fun ⟨q1, q2⟩ => by have := h4 q2; rw [this, dec_small (by decide)] at q1; simp at q1, h2⟩, h3]
  omega
/-! ### pieces -/
def sepB (b : UInt8) : Bool := b == 42 || b == 45
/-- where the first sign stands; behind the last byte: there is none -/
def cutN (w : ByteArray) : Nat := w.data.toList.findIdx sepB
def cutI (w : ByteArray) : Int := idxF sepB w.data.toList
theorem contains_sep (b : UInt8) : [42, 45].contains b = sepB b := by
  simp only [List.contains, List.elem, sepB]
  cases (b == 42) <;> cases (b == 45) <;> rfl
theorem indexAny_eq : ∀ (l : List UInt8), Go.Lib.indexAny l [42, 45] = idxF sepB l
  | [] => rfl
  | b :: r => by
    rw [Go.Lib.indexAny, contains_sep]
    have ih := indexAny_eq r
    unfold idxF
    rw [List.findIdx_cons]
    cases hb : sepB b with
    | true => simp
    | false =>
      simp only [Bool.false_eq_true, if_false, cond_false, List.length_cons]
      rw [ih]; unfold idxF
      by_cases h : r.findIdx sepB < r.length
      · rw [if_pos h, if_neg (by rw [beq_iff_eq]; omega), if_pos (by omega)]; omega
      · rw [if_neg h, if_pos (by rfl), if_neg (by omega)]
theorem cutI_lt (w : ByteArray) : -1 ≤ cutI w ∧ cutI w < (w.size : Int) := by
  have h := idxF_lt sepB w.data.toList
  rw [← Go.Lib.size_eq] at h
  exact ⟨h.2, h.1⟩
def pk (w : ByteArray) : Int := if cutI w < 0 then num w else num (w.extract 0 (cutI w).toNat)
def pm (w : ByteArray) : Int := if cutI w < 0 then 1 else num (w.extract ((cutI w).toNat + 1) w.size)
def star (w : ByteArray) : Prop := 0 ≤ cutI w ∧ byteAt w (cutI w).toNat = 42
def dash (w : ByteArray) : Prop := 0 ≤ cutI w ∧ byteAt w (cutI w).toNat = 45
instance (w : ByteArray) : Decidable (star w) := by unfold star; infer_instance
instance (w : ByteArray) : Decidable (dash w) := by unfold dash; infer_instance
def pErr (w : ByteArray) : Int :=
  if pk w < 0 ∨ pm w < 0 then 1 else if (star w ∧ pm w < 2) ∨ (dash w ∧ pm w < pk w + 2) then 1 else if Lru.okKey (if dash w then pm w else pk w) then 0 else 3
def pKey (w : ByteArray) : Int := if pErr w = 0 then pk w else 0
def pBy (w : ByteArray) : Int := if pErr w = 0 ∧ dash w then 1 else 0
def pMany (w : ByteArray) : Int := if pErr w = 0 then (if dash w then pm w - pk w + 1 else pm w) else 0
/-! ### the text in words -/
def wordsL : List UInt8 → List (List UInt8)
  | [] => [[]]
  | b :: l => if b = 32 then [] :: wordsL l else match wordsL l with
    | [] => [[b]]
    | w :: r => (b :: w) :: r
def words (s : ByteArray) : List ByteArray := (wordsL s.data.toList).map ofL
theorem wordsL_ne : ∀ l : List UInt8, wordsL l ≠ []
  | [] => by simp [wordsL]
  | b :: l => by
    rw [wordsL]; split
    · simp
    · split <;> simp
theorem wordsL_plain : ∀ {l : List UInt8}, (32 : UInt8) ∉ l → wordsL l = [l]
  | [], _ => rfl
  | b :: l, h => by
    have h1 : b ≠ 32 := fun e => h (by simp [e])
    rw [wordsL, if_neg h1, wordsL_plain (fun q => h (List.mem_cons_of_mem _ q))]
theorem wordsL_cut : ∀ {a : List UInt8} (r : List UInt8), (32 : UInt8) ∉ a → wordsL (a ++ 32 :: r) = a :: wordsL r
  | [], r, _ => by show wordsL (32 :: r) = _; rw [wordsL, if_pos rfl]
  | b :: a, r, h => by
    have h1 : b ≠ 32 := fun e => h (by simp [e])
    show wordsL (b :: (a ++ 32 :: r)) = _
    rw [wordsL, if_neg h1, wordsL_cut r (fun q => h (List.mem_cons_of_mem _ q))]
theorem wordsL_sp (b : List UInt8) : wordsL (32 :: b) = [] :: wordsL b := by rw [wordsL, if_pos rfl]
theorem wordsL_join (a b : List UInt8) : wordsL (a ++ 32 :: b) = wordsL a ++ wordsL b := by
  induction a with
  | nil => exact wordsL_sp b
  | cons x a ih =>
    show wordsL (x :: (a ++ 32 :: b)) = _
    rw [wordsL, ih]
    by_cases h : x = 32
    · rw [if_pos h, wordsL, if_pos h]; rfl
    · rw [if_neg h, wordsL, if_neg h]
      cases hq : wordsL a with
      | nil => exact absurd hq (wordsL_ne a)
      | cons w r => rfl
/-- what strings.Split gives -/
theorem index_sp : ∀ l : List UInt8, Go.Lib.index l [32] = idxF (fun b => b == 32) l
  | [] => rfl
  | b :: r => by
    have ih := index_sp r
    rw [Go.Lib.index]
    have hp : ([32] : List UInt8).isPrefixOf (b :: r) = ((32 : UInt8) == b) := by simp [List.isPrefixOf]
    rw [hp]
    unfold idxF
    rw [List.findIdx_cons]
    by_cases hb : b = 32
    · subst hb; simp
    · have e1 : ((32 : UInt8) == b) = false := beq_eq_false_iff_ne.2 (fun e => hb e.symm)
      have e2 : (b == (32 : UInt8)) = false := beq_eq_false_iff_ne.2 hb
      rw [e1, e2]
      simp only [Bool.false_eq_true, if_false, cond_false, List.length_cons]
      rw [ih]; unfold idxF
      by_cases h : r.findIdx (fun b => b == 32) < r.length
      · rw [if_pos h, if_neg (by rw [beq_iff_eq]; omega), if_pos (by omega)]; omega
      · rw [if_neg h, if_pos (by rfl), if_neg (by omega)]
theorem splitK_words : ∀ (k : Nat) (l : List UInt8), l.count 32 = k → Go.Lib.splitK [32] 0 k l = wordsL l
  | 0, l, h => by
    rw [wordsL_plain (List.count_eq_zero.1 h)]; rfl
  | k + 1, l, h => by
    have hm : (32 : UInt8) ∈ l := List.count_pos_iff.1 (by omega)
    have hx : l.findIdx (fun b => b == 32) < l.length := List.findIdx_lt_length.2 ⟨32, hm, rfl⟩
    have e : Go.Lib.index l [32] = (l.findIdx (fun b => b == 32) : Int) := by rw [index_sp]; unfold idxF; rw [if_pos hx]
    have hb := List.findIdx_getElem (w := hx)
    have hn : (32 : UInt8) ∉ l.take (l.findIdx (fun b => b == 32)) := by
      intro hq
      obtain ⟨j, hj, e2⟩ := List.mem_iff_getElem.1 hq
      rw [List.length_take] at hj
      rw [List.getElem_take] at e2
      have := List.not_of_lt_findIdx (p := fun b : UInt8 => b == 32) (xs := l) (i := j) (by omega)
      simp [e2] at this
    have hl : l = l.take (l.findIdx (fun b => b == 32)) ++ 32 :: l.drop (l.findIdx (fun b => b == 32) + 1) := by
      have h9 : l[l.findIdx (fun b => b == 32)] = 32 := by simpa using hb
      conv => lhs; rw [← List.take_append_drop (l.findIdx (fun b => b == 32)) l, List.drop_eq_getElem_cons hx, h9]
    rw [Go.Lib.splitK, e, if_neg (by rw [beq_iff_eq]; omega)]
    simp only [Int.toNat_natCast, Nat.add_zero, List.length_singleton]
    generalize l.findIdx (fun b => b == 32) = i at *
    have hc : (l.drop (i + 1)).count 32 = k := by
      have h2 := congrArg (List.count (32 : UInt8)) hl
      rw [List.count_append, List.count_cons_self, List.count_eq_zero.2 hn] at h2
      omega
    rw [splitK_words k _ hc]
    conv => rhs; rw [hl]
    rw [wordsL_cut _ hn]
theorem split_words (s : ByteArray) : Go.Lib.splitB ⟨#[32]⟩ 0 (Go.Lib.countB s ⟨#[32]⟩) s = words s := by
  have hd := Go.Lib.splitB_data ⟨#[32]⟩ 0 (Go.Lib.countB s ⟨#[32]⟩) s
  have hc : Go.Lib.countB s ⟨#[32]⟩ = s.data.toList.count 32 := by
    show Go.Lib.count s.data.toList [32] = _
    exact Go.Lib.count_one 32 _
  have e : (Go.Lib.splitB ⟨#[32]⟩ 0 (Go.Lib.countB s ⟨#[32]⟩) s).map (fun x => x.data.toList) = wordsL s.data.toList := by
    rw [hd]; exact splitK_words _ _ hc.symm
  unfold words
  rw [← e, List.map_map]
  exact (List.map_id'' (fun x => data_ofL x) _).symm
/-! ### parsing -/
def steps (key by_ many : Int) : List Int := (List.range many.toNat).map (fun i : Nat => key + (i : Int) * by_)
def go : List ByteArray → List Int → List Int × Int
  | [], out => (out, 0)
  | w :: ws, out => if pErr w ≠ 0 then ([], pErr w) else if 200 < (out.length : Int) + pMany w then ([], 2) else go ws (out ++ steps (pKey w) (pBy w) (pMany w))
def parse (s : ByteArray) : List Int × Int := if 2000 < s.size then ([], 2) else if s = ByteArray.empty then ([], 0) else go (words s) []
/-! ### formatting -/
def runLen : Int → Int → List Int → Nat
  | _, _, [] => 0
  | p, d, y :: r => if y = p + d then 1 + runLen y d r else 0
def run (d : Int) : List Int → Nat
  | [] => 1
  | x :: r => 1 + runLen x d r
/-- how many keys the first item takes -/
def itemN (l : List Int) : Nat := if 1 < run 0 l then run 0 l else if 2 < run 1 l then run 1 l else 1
def itemL (l : List Int) : List UInt8 := if 1 < run 0 l then dec (l.getD 0 0) ++ 42 :: dec (run 0 l) else if 2 < run 1 l then dec (l.getD 0 0) ++ 45 :: dec (l.getD 0 0 + (run 1 l : Int) - 1) else dec (l.getD 0 0)
theorem run_pos (d : Int) (l : List Int) : 1 ≤ run d l := by cases l <;> simp only [run] <;> omega
theorem itemN_pos (l : List Int) : 1 ≤ itemN l := by unfold itemN; split; omega; split <;> omega
def pieces (l : List Int) : List (List UInt8) := if h : l = [] then [] else itemL l :: pieces (l.drop (itemN l))
termination_by l.length
decreasing_by
  have := itemN_pos l
  have := List.length_pos_iff.2 h
  rw [List.length_drop]; omega
def write (l : List Int) : List UInt8 := Go.Lib.join (pieces l) [32]
def formatE (l : List Int) : Int := Lru.trace l
def format (l : List Int) : ByteArray := if Lru.trace l = 0 then ofL (write l) else ByteArray.empty
def compactE (s : ByteArray) : Int := (parse s).2
def compact (s : ByteArray) : ByteArray := if (parse s).2 = 0 then format (parse s).1 else ByteArray.empty
end Go.Sx.Trc
