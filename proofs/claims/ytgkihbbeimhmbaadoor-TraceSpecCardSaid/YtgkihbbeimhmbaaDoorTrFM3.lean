/- Closed facts of the program. -/
import Derived.Test.YtgkihbbeimhmbaaDoorProg
import Derived.Test.YtgkihbbeimhmbaaDoorSx31M4
import Derived.Test.YtgkihbbeimhmbaaDoorSx12M17
import Derived.Lib.SplitLaws
import Derived.Lib.SlTrimSet
import Derived.Lib.ItoaNum
import Derived.Lib.IndexAny
import Derived.Lib.Join
import Derived.Lib.AtoiTie
namespace Go.Proofs.YtgkihbbeimhmbaaDoor
open Go.Sx Go.RowKit
theorem hf27 : HasFn Tryd.prog 27 := ⟨_, _, Tryd.func27, rfl, by kernel_rfl⟩
theorem sz3 : sizeIs Tryd.prog 3 = some 1 := by kernel_rfl
theorem sh3 : shp Tryd.prog 3 = some none := by kernel_rfl
theorem hf35 : HasFn Tryd.prog 35 := ⟨_, _, Tryd.func35, rfl, by kernel_rfl⟩
theorem hf26 : HasFn Tryd.prog 26 := ⟨_, _, Tryd.func26, rfl, by kernel_rfl⟩
theorem hf25 : HasFn Tryd.prog 25 := ⟨_, _, Tryd.func25, rfl, by kernel_rfl⟩
theorem hmix : Tryd.prog.follows .mixedOrders = true := by kernel_rfl
theorem hf46 : HasFn Tryd.prog 46 := ⟨_, _, Tryd.func46, rfl, by kernel_rfl⟩
theorem hf47 : HasFn Tryd.prog 47 := ⟨_, _, Tryd.func47, rfl, by kernel_rfl⟩
theorem hf33 : HasFn Tryd.prog 33 := ⟨_, _, Tryd.func33, rfl, by kernel_rfl⟩
theorem hf34 : HasFn Tryd.prog 34 := ⟨_, _, Tryd.func34, rfl, by kernel_rfl⟩
theorem hf19 : HasFn Tryd.prog 19 := ⟨_, _, Tryd.func19, rfl, by kernel_rfl⟩
theorem sz9 : sizeIs Tryd.prog 9 = some 1 := by kernel_rfl
theorem sh9 : shp Tryd.prog 9 = some none := by kernel_rfl
theorem hf20 : HasFn Tryd.prog 20 := ⟨_, _, Tryd.func20, rfl, by kernel_rfl⟩
theorem ze3 : zeroOf Tryd.prog 3 = some [.int .i64 0] := by kernel_rfl
theorem el3 : elemIs Tryd.prog 3 1 8 := elemIs_of (by kernel_rfl)
theorem hf21 : HasFn Tryd.prog 21 := ⟨_, _, Tryd.func21, rfl, by kernel_rfl⟩
theorem hf15 : HasFn Tryd.prog 15 := ⟨_, _, Tryd.func15, rfl, by kernel_rfl⟩
theorem hf16 : HasFn Tryd.prog 16 := ⟨_, _, Tryd.func16, rfl, by kernel_rfl⟩
theorem hf17 : HasFn Tryd.prog 17 := ⟨_, _, Tryd.func17, rfl, by kernel_rfl⟩
theorem ze9 : zeroOf Tryd.prog 9 = some [.string ByteArray.empty] := by kernel_rfl
theorem el9 : elemIs Tryd.prog 9 1 16 := elemIs_of (by kernel_rfl)
theorem hf18 : HasFn Tryd.prog 18 := ⟨_, _, Tryd.func18, rfl, by kernel_rfl⟩
theorem hf8 : HasFn Tryd.prog 8 := ⟨_, _, Tryd.func8, rfl, by kernel_rfl⟩
theorem hf7 : HasFn Tryd.prog 7 := ⟨_, _, Tryd.func7, rfl, by kernel_rfl⟩
theorem hf24 : HasFn Tryd.prog 24 := ⟨_, _, Tryd.func24, rfl, by kernel_rfl⟩
theorem hf23 : HasFn Tryd.prog 23 := ⟨_, _, Tryd.func23, rfl, by kernel_rfl⟩
theorem hf12 : HasFn Tryd.prog 12 := ⟨_, _, Tryd.func12, rfl, by kernel_rfl⟩
theorem hf22 : HasFn Tryd.prog 22 := ⟨_, _, Tryd.func22, rfl, by kernel_rfl⟩
theorem hf9 : HasFn Tryd.prog 9 := ⟨_, _, Tryd.func9, rfl, by kernel_rfl⟩
theorem hf14 : HasFn Tryd.prog 14 := ⟨_, _, Tryd.func14, rfl, by kernel_rfl⟩
theorem hf13 : HasFn Tryd.prog 13 := ⟨_, _, Tryd.func13, rfl, by kernel_rfl⟩
theorem hf10 : HasFn Tryd.prog 10 := ⟨_, _, Tryd.func10, rfl, by kernel_rfl⟩
theorem hf11 : HasFn Tryd.prog 11 := ⟨_, _, Tryd.func11, rfl, by kernel_rfl⟩
end Go.Proofs.YtgkihbbeimhmbaaDoor

/- The text form of traces: the plain functions. -/
namespace Go.Sx.Trc
/-! ### bytes and texts -/
def ofL (l : List UInt8) : ByteArray := ⟨l.toArray⟩
theorem ofL_data (l : List UInt8) : (ofL l).data.toList = l := rfl
theorem data_ofL (s : ByteArray) : ofL s.data.toList = s := by obtain ⟨⟨l⟩⟩ := s; rfl
theorem ofL_size (l : List UInt8) : (ofL l).size = l.length := by rw [Go.Lib.size_eq]; rfl
theorem ofL_inj {a b : List UInt8} (h : ofL a = ofL b) : a = b := by have := congrArg (fun s : ByteArray => s.data.toList) h; exact this
theorem ofL_append (a b : List UInt8) : ofL a ++ ofL b = ofL (a ++ b) := by
  apply ByteArray.ext
  show (ofL a ++ ofL b).data = (a ++ b).toArray
  rw [ByteArray.data_append]; simp [ofL]
theorem ofL_extract (l : List UInt8) (a b : Nat) : (ofL l).extract a b = ofL ((l.drop a).take (b - a)) := by
  rw [← data_ofL ((ofL l).extract a b), Go.Lib.extract_data]; rfl
theorem empty_ofL : ByteArray.empty = ofL [] := rfl
theorem eq_empty {l : List UInt8} : ofL l = ByteArray.empty ↔ l = [] := ⟨fun h => ofL_inj h, fun h => by rw [h]; rfl⟩
theorem byteAt_ofL {l : List UInt8} {i : Nat} : byteAt (ofL l) i = l.getD i 0 := by
  show (l.toArray).getD i 0 = _
  simp [Array.getD_eq_getD_getElem?]
/-! ### numbers -/
def digs : List UInt8 := [48, 49, 50, 51, 52, 53, 54, 55, 56, 57]
def isD (b : UInt8) : Bool := decide (48 ≤ b.toNat) && decide (b.toNat ≤ 57)
theorem digs_fin : ∀ b : Fin 256, digs.contains (UInt8.ofNat b.val) = isD (UInt8.ofNat b.val) := by decide +kernel
theorem digs_isD (b : UInt8) : digs.contains b = isD b := by
  have h := digs_fin ⟨b.toNat, b.toNat_lt⟩
  simpa using h
def value (l : List UInt8) : Nat := l.foldl (fun n b => 10 * n + (b.toNat - 48)) 0
/-- a number of one to seven digits without zeros ahead -/
def numOk (l : List UInt8) : Prop := l ≠ [] ∧ l.length ≤ 7 ∧ ¬ (1 < l.length ∧ l.getD 0 0 = 48) ∧ l.all isD = true
instance (l : List UInt8) : Decidable (numOk l) := by unfold numOk; infer_instance
def numL (l : List UInt8) : Int := if numOk l then (value l : Int) else -1
def num (s : ByteArray) : Int := numL s.data.toList
theorem num_ofL (l : List UInt8) : num (ofL l) = numL l := rfl
theorem dropWhile_nil {α : Type} {p : α → Bool} {l : List α} : l.dropWhile p = [] ↔ l.all p = true := by
  induction l with
  | nil => simp
  | cons x r ih =>
    by_cases h : p x = true
    · rw [List.dropWhile_cons_of_pos h, ih]; simp [h]
    · rw [List.dropWhile_cons_of_neg h]; simp [h]
theorem all_dropWhile {α : Type} {p : α → Bool} {l : List α} (h : l.all p = true) : (l.dropWhile p) = [] := dropWhile_nil.2 h
theorem trim_nil {l : List UInt8} : Go.Lib.trimS l digs = [] ↔ l.all isD = true := by
  have e : (digs.contains ·) = isD := funext digs_isD
  unfold Go.Lib.trimS Go.Lib.trimLeftS Go.Lib.trimRightS
  rw [e, dropWhile_nil, List.all_reverse]
  constructor
  · intro h
    rw [List.all_eq_true] at h ⊢
    have hs := List.takeWhile_append_dropWhile (p := isD) (l := l.reverse)
    intro x hx
    rw [← List.mem_reverse, ← hs, List.mem_append] at hx
    rcases hx with hx | hx
    · have h9 := List.all_eq_true.1 (List.all_takeWhile (p := isD) (l := l.reverse)) x hx
      exact h9
    · exact h x hx
  · intro h
    rw [List.all_eq_true] at h ⊢
    intro x hx
    exact h x (List.mem_reverse.1 ((List.dropWhile_sublist isD).subset hx))
theorem decFrom_all : ∀ (l : List UInt8) (n : Nat), l.all isD = true → Go.Lib.decFrom n l = some (l.foldl (fun n b => 10 * n + (b.toNat - 48)) n)
  | [], n, _ => rfl
  | b :: r, n, h => by
    simp only [List.all_cons, Bool.and_eq_true] at h
    have hb : 48 ≤ b.toNat ∧ b.toNat ≤ 57 := by simpa [isD] using h.1
    rw [Go.Lib.decFrom, Go.Lib.digitVal, if_pos hb]
    show Go.Lib.decFrom (n * 10 + (b.toNat - 48)) r = _
    rw [decFrom_all r _ h.2, List.foldl_cons, Nat.mul_comm]
theorem atoi_all {l : List UInt8} (h0 : l ≠ []) (h : l.all isD = true) : Go.Lib.atoi l = some (value l : Int) := by
  match l, h0 with
  | b :: r, _ =>
    have hb : 48 ≤ b.toNat ∧ b.toNat ≤ 57 := by
      simp only [List.all_cons, Bool.and_eq_true] at h
      simpa [isD] using h.1
    have e1 : (b == 45) = false := beq_eq_false_iff_ne.2 (fun e => by rw [e] at hb; exact absurd hb.1 (by decide))
    have e2 : (b == 43) = false := beq_eq_false_iff_ne.2 (fun e => by rw [e] at hb; exact absurd hb.1 (by decide))
    rw [Go.Lib.atoi, e1, e2]
    simp only [Bool.false_eq_true, if_false]
    rw [Go.Lib.decNat]
    simp only [List.isEmpty_cons, Bool.false_eq_true, if_false]
    rw [decFrom_all _ _ h]
    rfl
theorem value_snoc (l : List UInt8) (b : UInt8) : value (l ++ [b]) = 10 * value l + (b.toNat - 48) := by
  unfold value; rw [List.foldl_append]; rfl
theorem foldl_lt : ∀ (l : List UInt8) (n k : Nat), l.all isD = true → n < 10 ^ k → l.foldl (fun n b => 10 * n + (b.toNat - 48)) n < 10 ^ (k + l.length)
  | [], n, k, _, h => h
  | b :: r, n, k, h, hn => by
    simp only [List.all_cons, Bool.and_eq_true] at h
    have hb : 48 ≤ b.toNat ∧ b.toNat ≤ 57 := by simpa [isD] using h.1
    have := foldl_lt r (10 * n + (b.toNat - 48)) (k + 1) h.2 (by rw [Nat.pow_succ]; omega)
    rw [List.foldl_cons, List.length_cons]
    rw [show k + 1 + r.length = k + (r.length + 1) by omega] at this
    exact this
theorem value_lt {l : List UInt8} (h : l.all isD = true) : value l < 10 ^ l.length := by
  have := foldl_lt l 0 0 h (by decide)
  rwa [Nat.zero_add] at this
theorem num_cases (l : List UInt8) : numL l = -1 ∨ (0 ≤ numL l ∧ numL l ≤ 9999999) := by
  unfold numL
  split
  · rename_i h
    have h1 := value_lt h.2.2.2
    have h2 : 10 ^ l.length ≤ 10 ^ 7 := Nat.pow_le_pow_right (by decide) h.2.1
    right; omega
  · exact .inl rfl
theorem num_ge (s : ByteArray) : -1 ≤ num s ∧ num s ≤ 9999999 := by
  rcases num_cases s.data.toList with h | h <;> unfold num <;> omega
/-! ### decimal digits -/
def dec (n : Int) : List UInt8 := Go.Lib.decDigits n.toNat
def decS (n : Int) : ByteArray := ofL (dec n)
theorem itoa_dec {n : Int} (h : 0 ≤ n) : Go.Lib.itoa n = dec n := by unfold Go.Lib.itoa dec; rw [if_neg (by omega)]
theorem dec_small {n : Nat} (h : n < 10) : Go.Lib.decDigits n = [UInt8.ofNat (48 + n)] := by rw [Go.Lib.decDigits, dif_pos h]
theorem dec_big {n : Nat} (h : ¬ n < 10) : Go.Lib.decDigits n = Go.Lib.decDigits (n / 10) ++ [UInt8.ofNat (48 + n % 10)] := by rw [Go.Lib.decDigits, dif_neg h]
theorem isD_digit {n : Nat} (h : n < 10) : isD (UInt8.ofNat (48 + n)) = true ∧ (UInt8.ofNat (48 + n)).toNat - 48 = n := by
  have e : (UInt8.ofNat (48 + n)).toNat = 48 + n := by rw [UInt8.toNat_ofNat']; omega
  unfold isD; rw [e]; simp; omega
theorem dec_ok (n : Nat) : Go.Lib.decDigits n ≠ [] ∧ (Go.Lib.decDigits n).all isD = true ∧ value (Go.Lib.decDigits n) = n ∧ ((Go.Lib.decDigits n).getD 0 0 = 48 → n = 0) := by
  induction n using Nat.strongRecOn with
  | ind n ih =>
    by_cases h : n < 10
    · have hd := isD_digit h
      rw [dec_small h]
      refine ⟨by simp, by simpa using hd.1, ?_, fun e => ?_⟩
      · show 10 * 0 + ((UInt8.ofNat (48 + n)).toNat - 48) = n
        rw [hd.2]; omega
      · have e2 : UInt8.ofNat (48 + n) = 48 := e
        have h9 := hd.2; rw [e2] at h9; exact h9.symm
    · obtain ⟨i1, i2, i3, i4⟩ := ih (n / 10) (by omega)
      have hd := isD_digit (n := n % 10) (by omega)
      rw [dec_big h]
      refine ⟨by simp, by rw [List.all_append, i2]; simpa using hd.1, by rw [value_snoc, i3, hd.2]; omega, fun e => ?_⟩
      have e2 : (Go.Lib.decDigits (n / 10) ++ [UInt8.ofNat (48 + n % 10)]).getD 0 0 = (Go.Lib.decDigits (n / 10)).getD 0 0 := by
        cases hq : Go.Lib.decDigits (n / 10) with
        | nil => exact absurd hq i1
        | cons x r => rfl
      rw [e2] at e
      have := i4 e; omega
theorem dec_len : ∀ (k n : Nat), n < 10 ^ (k + 1) → (Go.Lib.decDigits n).length ≤ k + 1
  | 0, n, h => by rw [dec_small (by simpa using h)]; simp
  | k + 1, n, h => by
    by_cases h1 : n < 10
    · rw [dec_small h1]; simp
    · rw [dec_big h1, List.length_append, List.length_singleton]
      have := dec_len k (n / 10) (by rw [Nat.pow_succ] at h; omega)
      omega
theorem numL_dec {n : Int} (h0 : 0 ≤ n) (h : n < 10000000) : numL (dec n) = n := by
  obtain ⟨h1, h2, h3, h4⟩ := dec_ok n.toNat
  have hl := dec_len 6 n.toNat (by omega)
  unfold numL dec
  rw [if_pos ⟨h1, hl, fun ⟨q1, q2⟩ => by have := h4 q2; rw [this, dec_small (by decide)] at q1; simp at q1, h2⟩, h3]
  omega
/-! ### pieces -/
def sepB (b : UInt8) : Bool := b == 42 || b == 45
/-- where the first sign stands; behind the last byte: there is none -/
def cutN (w : ByteArray) : Nat := w.data.toList.findIdx sepB
def cutI (w : ByteArray) : Int := idxF sepB w.data.toList
theorem contains_sep (b : UInt8) : [42, 45].contains b = sepB b := by
  simp only [List.contains, List.elem, sepB]
  cases (b == 42) <;> cases (b == 45) <;> rfl
theorem indexAny_eq : ∀ (l : List UInt8), Go.Lib.indexAny l [42, 45] = idxF sepB l
  | [] => rfl
  | b :: r => by
    rw [Go.Lib.indexAny, contains_sep]
    have ih := indexAny_eq r
    unfold idxF
    rw [List.findIdx_cons]
    cases hb : sepB b with
    | true => simp
    | false =>
      simp only [Bool.false_eq_true, if_false, cond_false, List.length_cons]
      rw [ih]; unfold idxF
      by_cases h : r.findIdx sepB < r.length
      · rw [if_pos h, if_neg (by rw [beq_iff_eq]; omega), if_pos (by omega)]; omega
      · rw [if_neg h, if_pos (by rfl), if_neg (by omega)]
theorem cutI_lt (w : ByteArray) : -1 ≤ cutI w ∧ cutI w < (w.size : Int) := by
  have h := idxF_lt sepB w.data.toList
  rw [← Go.Lib.size_eq] at h
  exact ⟨h.2, h.1⟩
def pk (w : ByteArray) : Int := if cutI w < 0 then num w else num (w.extract 0 (cutI w).toNat)
def pm (w : ByteArray) : Int := if cutI w < 0 then 1 else num (w.extract ((cutI w).toNat + 1) w.size)
def star (w : ByteArray) : Prop := 0 ≤ cutI w ∧ byteAt w (cutI w).toNat = 42
def dash (w : ByteArray) : Prop := 0 ≤ cutI w ∧ byteAt w (cutI w).toNat = 45
instance (w : ByteArray) : Decidable (star w) := by unfold star; infer_instance
instance (w : ByteArray) : Decidable (dash w) := by unfold dash; infer_instance
def pErr (w : ByteArray) : Int :=
  if pk w < 0 ∨ pm w < 0 then 1 else if (star w ∧ pm w < 2) ∨ (dash w ∧ pm w < pk w + 2) then 1 else if Lru.okKey (if dash w then pm w else pk w) then 0 else 3
def pKey (w : ByteArray) : Int := if pErr w = 0 then pk w else 0
def pBy (w : ByteArray) : Int := if pErr w = 0 ∧ dash w then 1 else 0
def pMany (w : ByteArray) : Int := if pErr w = 0 then (if dash w then pm w - pk w + 1 else pm w) else 0
/-! ### the text in words -/
def wordsL : List UInt8 → List (List UInt8)
  | [] => [[]]
  | b :: l => if b = 32 then [] :: wordsL l else match wordsL l with
    | [] => [[b]]
    | w :: r => (b :: w) :: r
def words (s : ByteArray) : List ByteArray := (wordsL s.data.toList).map ofL
theorem wordsL_ne : ∀ l : List UInt8, wordsL l ≠ []
  | [] => by simp [wordsL]
  | b :: l => by
    rw [wordsL]; split
    · simp
    · split <;> simp
theorem wordsL_plain : ∀ {l : List UInt8}, (32 : UInt8) ∉ l → wordsL l = [l]
  | [], _ => rfl
  | b :: l, h => by
    have h1 : b ≠ 32 := fun e => h (by simp [e])
    rw [wordsL, if_neg h1, wordsL_plain (fun q => h (List.mem_cons_of_mem _ q))]
theorem wordsL_cut : ∀ {a : List UInt8} (r : List UInt8), (32 : UInt8) ∉ a → wordsL (a ++ 32 :: r) = a :: wordsL r
  | [], r, _ => by show wordsL (32 :: r) = _; rw [wordsL, if_pos rfl]
  | b :: a, r, h => by
    have h1 : b ≠ 32 := fun e => h (by simp [e])
    show wordsL (b :: (a ++ 32 :: r)) = _
    rw [wordsL, if_neg h1, wordsL_cut r (fun q => h (List.mem_cons_of_mem _ q))]
theorem wordsL_sp (b : List UInt8) : wordsL (32 :: b) = [] :: wordsL b := by rw [wordsL, if_pos rfl]
theorem wordsL_join (a b : List UInt8) : wordsL (a ++ 32 :: b) = wordsL a ++ wordsL b := by
  induction a with
  | nil => exact wordsL_sp b
  | cons x a ih =>
    show wordsL (x :: (a ++ 32 :: b)) = _
    rw [wordsL, ih]
    by_cases h : x = 32
    · rw [if_pos h, wordsL, if_pos h]; rfl
    · rw [if_neg h, wordsL, if_neg h]
      cases hq : wordsL a with
      | nil => exact absurd hq (wordsL_ne a)
      | cons w r => rfl
/-- what strings.Split gives -/
theorem index_sp : ∀ l : List UInt8, Go.Lib.index l [32] = idxF (fun b => b == 32) l
  | [] => rfl
  | b :: r => by
    have ih := index_sp r
    rw [Go.Lib.index]
    have hp : ([32] : List UInt8).isPrefixOf (b :: r) = ((32 : UInt8) == b) := by simp [List.isPrefixOf]
    rw [hp]
    unfold idxF
    rw [List.findIdx_cons]
    by_cases hb : b = 32
    · subst hb; simp
    · have e1 : ((32 : UInt8) == b) = false := beq_eq_false_iff_ne.2 (fun e => hb e.symm)
      have e2 : (b == (32 : UInt8)) = false := beq_eq_false_iff_ne.2 hb
      rw [e1, e2]
      simp only [Bool.false_eq_true, if_false, cond_false, List.length_cons]
      rw [ih]; unfold idxF
      by_cases h : r.findIdx (fun b => b == 32) < r.length
      · rw [if_pos h, if_neg (by rw [beq_iff_eq]; omega), if_pos (by omega)]; omega
      · rw [if_neg h, if_pos (by rfl), if_neg (by omega)]
theorem splitK_words : ∀ (k : Nat) (l : List UInt8), l.count 32 = k → Go.Lib.splitK [32] 0 k l = wordsL l
  | 0, l, h => by
    rw [wordsL_plain (List.count_eq_zero.1 h)]; rfl
  | k + 1, l, h => by
    have hm : (32 : UInt8) ∈ l := List.count_pos_iff.1 (by omega)
    have hx : l.findIdx (fun b => b == 32) < l.length := List.findIdx_lt_length.2 ⟨32, hm, rfl⟩
    have e : Go.Lib.index l [32] = (l.findIdx (fun b => b == 32) : Int) := by rw [index_sp]; unfold idxF; rw [if_pos hx]
    have hb := List.findIdx_getElem (w := hx)
    have hn : (32 : UInt8) ∉ l.take (l.findIdx (fun b => b == 32)) := by
      intro hq
      obtain ⟨j, hj, e2⟩ := List.mem_iff_getElem.1 hq
      rw [List.length_take] at hj
      rw [List.getElem_take] at e2
      have := List.not_of_lt_findIdx (p := fun b : UInt8 => b == 32) (xs := l) (i := j) (by omega)
      simp [e2] at this
    have hl : l = l.take (l.findIdx (fun b => b == 32)) ++ 32 :: l.drop (l.findIdx (fun b => b == 32) + 1) := by
      have h9 : l[l.findIdx (fun b => b == 32)] = 32 := by simpa using hb
      conv => lhs; rw [← List.take_append_drop (l.findIdx (fun b => b == 32)) l, List.drop_eq_getElem_cons hx, h9]
    rw [Go.Lib.splitK, e, if_neg (by rw [beq_iff_eq]; omega)]
    simp only [Int.toNat_natCast, Nat.add_zero, List.length_singleton]
    generalize l.findIdx (fun b => b == 32) = i at *
    have hc : (l.drop (i + 1)).count 32 = k := by
      have h2 := congrArg (List.count (32 : UInt8)) hl
      rw [List.count_append, List.count_cons_self, List.count_eq_zero.2 hn] at h2
      omega
    rw [splitK_words k _ hc]
    conv => rhs; rw [hl]
    rw [wordsL_cut _ hn]
theorem split_words (s : ByteArray) : Go.Lib.splitB ⟨#[32]⟩ 0 (Go.Lib.countB s ⟨#[32]⟩) s = words s := by
  have hd := Go.Lib.splitB_data ⟨#[32]⟩ 0 (Go.Lib.countB s ⟨#[32]⟩) s
  have hc : Go.Lib.countB s ⟨#[32]⟩ = s.data.toList.count 32 := by
    show Go.Lib.count s.data.toList [32] = _
    exact Go.Lib.count_one 32 _
  have e : (Go.Lib.splitB ⟨#[32]⟩ 0 (Go.Lib.countB s ⟨#[32]⟩) s).map (fun x => x.data.toList) = wordsL s.data.toList := by
    rw [hd]; exact splitK_words _ _ hc.symm
  unfold words
  rw [← e, List.map_map]
  exact (List.map_id'' (fun x => data_ofL x) _).symm
/-! ### parsing -/
def steps (key by_ many : Int) : List Int := (List.range many.toNat).map (fun i : Nat => key + (i : Int) * by_)
def go : List ByteArray → List Int → List Int × Int
  | [], out => (out, 0)
  | w :: ws, out => if pErr w ≠ 0 then ([], pErr w) else if 200 < (out.length : Int) + pMany w then ([], 2) else go ws (out ++ steps (pKey w) (pBy w) (pMany w))
def parse (s : ByteArray) : List Int × Int := if 2000 < s.size then ([], 2) else if s = ByteArray.empty then ([], 0) else go (words s) []
/-! ### formatting -/
def runLen : Int → Int → List Int → Nat
  | _, _, [] => 0
  | p, d, y :: r => if y = p + d then 1 + runLen y d r else 0
def run (d : Int) : List Int → Nat
  | [] => 1
  | x :: r => 1 + runLen x d r
/-- how many keys the first item takes -/
def itemN (l : List Int) : Nat := if 1 < run 0 l then run 0 l else if 2 < run 1 l then run 1 l else 1
def itemL (l : List Int) : List UInt8 := if 1 < run 0 l then dec (l.getD 0 0) ++ 42 :: dec (run 0 l) else if 2 < run 1 l then dec (l.getD 0 0) ++ 45 :: dec (l.getD 0 0 + (run 1 l : Int) - 1) else dec (l.getD 0 0)
theorem run_pos (d : Int) (l : List Int) : 1 ≤ run d l := by cases l <;> simp only [run] <;> omega
theorem itemN_pos (l : List Int) : 1 ≤ itemN l := by unfold itemN; split; omega; split <;> omega
def pieces (l : List Int) : List (List UInt8) := if h : l = [] then [] else itemL l :: pieces (l.drop (itemN l))
termination_by l.length
decreasing_by
  have := itemN_pos l
  have := List.length_pos_iff.2 h
  rw [List.length_drop]; omega
def write (l : List Int) : List UInt8 := Go.Lib.join (pieces l) [32]
def formatE (l : List Int) : Int := Lru.trace l
def format (l : List Int) : ByteArray := if Lru.trace l = 0 then ofL (write l) else ByteArray.empty
def compactE (s : ByteArray) : Int := (parse s).2
def compact (s : ByteArray) : ByteArray := if (parse s).2 = 0 then format (parse s).1 else ByteArray.empty
end Go.Sx.Trc

/- The text form of traces: what is written is read again; texts in succession. -/
namespace Go.Sx.Trc
/-! ### one item -/
theorem isD_sep {b : UInt8} (h : isD b = true) : sepB b = false ∧ b ≠ 32 := by
  have hb : 48 ≤ b.toNat ∧ b.toNat ≤ 57 := by simpa [isD] using h
  refine ⟨?_, fun e => by rw [e] at hb; exact absurd hb.1 (by decide)⟩
  unfold sepB
  have e1 : (b == 42) = false := beq_eq_false_iff_ne.2 (fun e => by rw [e] at hb; exact absurd hb.1 (by decide))
  have e2 : (b == 45) = false := beq_eq_false_iff_ne.2 (fun e => by rw [e] at hb; exact absurd hb.1 (by decide))
  rw [e1, e2]; rfl
theorem cut_none {A : List UInt8} (h : A.all isD = true) : cutI (ofL A) = -1 := by
  show idxF sepB A = -1
  exact (idxF_none fun j hj => (isD_sep (List.all_eq_true.1 h _ (List.getElem_mem hj))).1).symm
theorem cut_at {A B : List UInt8} {c : UInt8} (h : A.all isD = true) (hc : sepB c = true) : cutI (ofL (A ++ c :: B)) = (A.length : Int) := by
  show idxF sepB (A ++ c :: B) = _
  refine (idxF_found (k := A.length) (by simp) (by simpa using hc) (fun j hj hlt => ?_)).symm
  rw [List.getElem_append_left hlt]
  exact (isD_sep (List.all_eq_true.1 h _ (List.getElem_mem hlt))).1
theorem parts_at {A B : List UInt8} {c : UInt8} (h : A.all isD = true) (hc : sepB c = true) :
    pk (ofL (A ++ c :: B)) = numL A ∧ pm (ofL (A ++ c :: B)) = numL B ∧ byteAt (ofL (A ++ c :: B)) (cutI (ofL (A ++ c :: B))).toNat = c := by
  have e := cut_at (B := B) h hc
  have e2 : (cutI (ofL (A ++ c :: B))).toNat = A.length := by omega
  refine ⟨?_, ?_, ?_⟩
  · unfold pk; rw [if_neg (by omega), e2, ofL_extract, num_ofL]
    simp
  · unfold pm; rw [if_neg (by omega), e2, ofL_extract, num_ofL, ofL_size]
    congr 1
    rw [List.drop_append, List.drop_of_length_le (by omega)]
    have : A.length + 1 - A.length = 1 := by omega
    rw [this]
    simp
    rw [List.take_of_length_le (by omega)]
  · rw [e2, byteAt_ofL]
    simp [List.getD_eq_getElem?_getD]
theorem okKey_iff {n : Int} : Lru.okKey n = true ↔ 0 ≤ n ∧ n ≤ 1048576 := by simp [Lru.okKey]
theorem item_plain {k : Int} (hk : Lru.okKey k = true) : pErr (ofL (dec k)) = 0 ∧ pKey (ofL (dec k)) = k ∧ pBy (ofL (dec k)) = 0 ∧ pMany (ofL (dec k)) = 1 := by
  have h := okKey_iff.1 hk
  have hd := (dec_ok k.toNat).2.1
  have c := cut_none hd
  have ek : pk (ofL (dec k)) = k := by
    unfold pk; unfold dec; rw [if_pos (by omega)]; exact numL_dec h.1 (by omega)
  have em : pm (ofL (dec k)) = 1 := by unfold pm; unfold dec; rw [if_pos (by omega)]
  have hs : ¬ star (ofL (dec k)) := fun q => by have := q.1; unfold dec at this; omega
  have hda : ¬ dash (ofL (dec k)) := fun q => by have := q.1; unfold dec at this; omega
  have e : pErr (ofL (dec k)) = 0 := by
    unfold pErr
    rw [if_neg (by omega), if_neg (by rintro (q | q); exact hs q.1; exact hda q.1), if_neg hda, ek, if_pos hk]
  refine ⟨e, ?_, ?_, ?_⟩
  · unfold pKey; rw [if_pos e, ek]
  · unfold pBy; rw [if_neg (fun q => hda q.2)]
  · unfold pMany; rw [if_pos e, if_neg hda, em]
theorem item_star {k n : Int} (hk : Lru.okKey k = true) (h2 : 2 ≤ n) (hn : n < 10000000) :
    pErr (ofL (dec k ++ 42 :: dec n)) = 0 ∧ pKey (ofL (dec k ++ 42 :: dec n)) = k ∧ pBy (ofL (dec k ++ 42 :: dec n)) = 0 ∧ pMany (ofL (dec k ++ 42 :: dec n)) = n := by
  have h := okKey_iff.1 hk
  have hd : (dec k).all isD = true := (dec_ok k.toNat).2.1
  obtain ⟨ek, em, eb⟩ := parts_at (A := dec k) (B := dec n) (c := 42) hd rfl
  rw [numL_dec h.1 (by omega)] at ek
  rw [numL_dec (by omega) hn] at em
  have c := cut_at (A := dec k) (B := dec n) (c := 42) hd rfl
  have hda : ¬ dash (ofL (dec k ++ 42 :: dec n)) := fun q => by have := q.2; rw [eb] at this; exact absurd this (by decide)
  generalize ofL (dec k ++ 42 :: dec n) = w at *
  have e : pErr w = 0 := by
    unfold pErr
    rw [if_neg (by omega), if_neg (by rintro (q | q); have := q.2; omega; exact hda q.1), if_neg hda, ek, if_pos hk]
  refine ⟨e, ?_, ?_, ?_⟩
  · unfold pKey; rw [if_pos e, ek]
  · unfold pBy; rw [if_neg (fun q => hda q.2)]
  · unfold pMany; rw [if_pos e, if_neg hda, em]
theorem item_dash {k m : Int} (hk : 0 ≤ k) (h2 : k + 2 ≤ m) (hm : Lru.okKey m = true) :
    pErr (ofL (dec k ++ 45 :: dec m)) = 0 ∧ pKey (ofL (dec k ++ 45 :: dec m)) = k ∧ pBy (ofL (dec k ++ 45 :: dec m)) = 1 ∧ pMany (ofL (dec k ++ 45 :: dec m)) = m - k + 1 := by
  have h := okKey_iff.1 hm
  have hd : (dec k).all isD = true := (dec_ok k.toNat).2.1
  obtain ⟨ek, em, eb⟩ := parts_at (A := dec k) (B := dec m) (c := 45) hd rfl
  rw [numL_dec hk (by omega)] at ek
  rw [numL_dec (by omega) (by omega)] at em
  have c := cut_at (A := dec k) (B := dec m) (c := 45) hd rfl
  have hda : dash (ofL (dec k ++ 45 :: dec m)) := ⟨by omega, eb⟩
  have hst : ¬ star (ofL (dec k ++ 45 :: dec m)) := fun q => by have := q.2; rw [eb] at this; exact absurd this (by decide)
  generalize ofL (dec k ++ 45 :: dec m) = w at *
  have e : pErr w = 0 := by
    unfold pErr
    rw [if_neg (by omega), if_neg (by rintro (q | q); exact hst q.1; have := q.2; omega), if_pos hda, em, if_pos hm]
  refine ⟨e, ?_, ?_, ?_⟩
  · unfold pKey; rw [if_pos e, ek]
  · unfold pBy; rw [if_pos ⟨e, hda⟩]
  · unfold pMany; rw [if_pos e, if_pos hda, em, ek]
/-! ### runs -/
theorem runLen_le : ∀ (r : List Int) (p d : Int), runLen p d r ≤ r.length
  | [], _, _ => Nat.le_refl _
  | y :: r, p, d => by
    rw [runLen]; split
    · have := runLen_le r y d; simp only [List.length_cons]; omega
    · simp
theorem run_le {l : List Int} (h : l ≠ []) (d : Int) : run d l ≤ l.length := by
  match l, h with
  | x :: r, _ => have := runLen_le r x d; simp only [run, List.length_cons]; omega
theorem runLen_get : ∀ (r : List Int) (p d : Int) (i : Nat) (h : i < r.length), i < runLen p d r → r[i] = p + ((i : Int) + 1) * d
  | y :: r, p, d, i, h, hi => by
    rw [runLen] at hi
    split at hi
    · rename_i e
      cases i with
      | zero => simp; omega
      | succ i =>
        have hl : i < r.length := by simpa using h
        have := runLen_get r y d i hl (by omega)
        rw [List.getElem_cons_succ, this, e]
        have e3 : ((i + 1 : Nat) : Int) = (i : Int) + 1 := by omega
        rw [e3]
        simp only [Int.add_mul, Int.one_mul]; omega
    · omega
theorem run_get {l : List Int} {d : Int} {i : Nat} (h : i < l.length) (hi : i < run d l) : l[i] = l.getD 0 0 + (i : Int) * d := by
  match l, h with
  | x :: r, h =>
    cases i with
    | zero => simp
    | succ i =>
      have hl : i < r.length := by simpa using h
      have := runLen_get r x d i hl (by simp only [run] at hi; omega)
      rw [List.getElem_cons_succ, this]
      have e3 : ((i + 1 : Nat) : Int) = (i : Int) + 1 := by omega
      rw [e3]; simp
theorem runLen_stop : ∀ (r : List Int) (p d : Int), (h : runLen p d r < r.length) → r[runLen p d r] ≠ p + ((runLen p d r : Int) + 1) * d
  | [], _, _, h => by simp [runLen] at h
  | y :: r, p, d, h => by
    intro hq
    by_cases e : y = p + d
    · have e2 : runLen p d (y :: r) = runLen y d r + 1 := by rw [runLen, if_pos e]; omega
      simp only [e2] at h hq
      have hl : runLen y d r < r.length := by simpa using h
      rw [List.getElem_cons_succ] at hq
      refine runLen_stop r y d hl (hq.trans ?_)
      rw [e]
      have e3 : ((runLen y d r + 1 : Nat) : Int) = (runLen y d r : Int) + 1 := by omega
      rw [e] at e3
      rw [e3]
      simp only [Int.add_mul, Int.one_mul]; omega
    · have e2 : runLen p d (y :: r) = 0 := by rw [runLen, if_neg e]
      simp only [e2] at hq
      simp at hq
      omega
theorem run_stop {l : List Int} {d : Int} (hl : l ≠ []) (h : run d l < l.length) : l[run d l] ≠ l.getD 0 0 + (run d l : Int) * d := by
  match l, hl with
  | x :: r, _ =>
    have e2 : run d (x :: r) = runLen x d r + 1 := by rw [run]; omega
    intro hq
    simp only [e2] at h hq
    have h3 : runLen x d r < r.length := by simpa using h
    rw [List.getElem_cons_succ] at hq
    refine runLen_stop r x d h3 (hq.trans ?_)
    have e3 : ((runLen x d r + 1 : Nat) : Int) = (runLen x d r : Int) + 1 := by omega
    rw [e3]; rfl
/-- what a loop finds is the run -/
theorem run_eq {l : List Int} {d : Int} {n : Nat} (hl : l ≠ []) (h1 : 1 ≤ n) (hn : n ≤ l.length) (hg : ∀ i (h : i < l.length), i < n → l[i] = l.getD 0 0 + (i : Int) * d) (hs : ∀ h : n < l.length, l[n] ≠ l.getD 0 0 + (n : Int) * d) : run d l = n := by
  have hle := run_le hl d
  rcases Nat.lt_trichotomy (run d l) n with h | h | h
  · exact absurd (hg (run d l) (by omega) h) (run_stop hl (by omega))
  · exact h
  · exact absurd (run_get (by omega) h) (hs (by omega))
theorem steps_len (k d n : Int) : (steps k d n).length = n.toNat := by simp [steps]
theorem steps_run {l : List Int} (hl : l ≠ []) (d : Int) : steps (l.getD 0 0) d (run d l : Int) = l.take (run d l) := by
  have hle := run_le hl d
  apply List.ext_getElem
  · rw [steps_len, List.length_take]; omega
  · intro i h1 h2
    rw [List.getElem_take]
    rw [List.length_take] at h2
    have e := run_get (l := l) (d := d) (i := i) (by omega) (by omega)
    refine Eq.trans ?_ e.symm
    simp [steps]
theorem steps_zero {k : Int} (n : Int) (d : Int) (h : n = 1) : steps k d n = [k] := by subst h; simp [steps, List.range_succ]
/-! ### the items of a trace -/
theorem pieces_nil : pieces [] = [] := by rw [pieces, dif_pos rfl]
theorem pieces_cons {l : List Int} (h : l ≠ []) : pieces l = itemL l :: pieces (l.drop (itemN l)) := by rw [pieces, dif_neg h]
theorem itemN_le {l : List Int} (h : l ≠ []) : itemN l ≤ l.length := by
  have h0 := run_le h 0; have h1 := run_le h 1
  have := List.length_pos_iff.2 h
  unfold itemN; split
  · exact h0
  · split
    · exact h1
    · omega
theorem keys_at {l : List Int} (hk : ∀ k ∈ l, Lru.okKey k = true) {i : Nat} (h : i < l.length) : 0 ≤ l[i] ∧ l[i] ≤ 1048576 := okKey_iff.1 (hk _ (List.getElem_mem h))
theorem rise_last {l : List Int} (hl : l ≠ []) (hk : ∀ k ∈ l, Lru.okKey k = true) : Lru.okKey (l.getD 0 0 + (run 1 l : Int) - 1) = true := by
  have hle := run_le hl 1; have hp := run_pos 1 l
  have h := run_get (l := l) (d := 1) (i := run 1 l - 1) (by omega) (by omega)
  have h9 := hk _ (List.getElem_mem (show run 1 l - 1 < l.length by omega))
  rw [h] at h9
  have e : l.getD 0 0 + (run 1 l : Int) - 1 = l.getD 0 0 + ((run 1 l - 1 : Nat) : Int) * 1 := by omega
  rw [e]; exact h9
theorem first_ok {l : List Int} (hl : l ≠ []) (hk : ∀ k ∈ l, Lru.okKey k = true) : Lru.okKey (l.getD 0 0) = true := by
  match l, hl with
  | x :: r, _ => exact hk x (by simp)
theorem item_law {l : List Int} (hl : l ≠ []) (hk : ∀ k ∈ l, Lru.okKey k = true) (hn : l.length < 10000000) :
    pErr (ofL (itemL l)) = 0 ∧ pMany (ofL (itemL l)) = (itemN l : Int) ∧ steps (pKey (ofL (itemL l))) (pBy (ofL (itemL l))) (pMany (ofL (itemL l))) = l.take (itemN l) := by
  have hf := first_ok hl hk
  have h0 := run_le hl 0
  unfold itemL itemN
  by_cases h1 : 1 < run 0 l
  · simp only [if_pos h1]
    obtain ⟨e1, e2, e3, e4⟩ := item_star hf (n := (run 0 l : Int)) (by omega) (by omega)
    refine ⟨e1, e4, ?_⟩
    rw [e2, e3, e4]; exact steps_run hl 0
  · simp only [if_neg h1]
    by_cases h2 : 2 < run 1 l
    · simp only [if_pos h2]
      have hz := (okKey_iff.1 hf)
      obtain ⟨e1, e2, e3, e4⟩ := item_dash (k := l.getD 0 0) (m := l.getD 0 0 + (run 1 l : Int) - 1) hz.1 (by omega) (rise_last hl hk)
      have e5 : l.getD 0 0 + (run 1 l : Int) - 1 - l.getD 0 0 + 1 = (run 1 l : Int) := by omega
      rw [e5] at e4
      refine ⟨e1, e4, ?_⟩
      rw [e2, e3, e4]; exact steps_run hl 1
    · simp only [if_neg h2]
      obtain ⟨e1, e2, e3, e4⟩ := item_plain hf
      refine ⟨e1, e4, ?_⟩
      rw [e2, e3, e4, steps_zero 1 0 rfl]
      match l, hl with
      | x :: r, _ => rfl
theorem go_pieces : ∀ (n : Nat) (l : List Int), l.length = n → (∀ k ∈ l, Lru.okKey k = true) → ∀ out : List Int, out.length + l.length ≤ 200 → go ((pieces l).map ofL) out = (out ++ l, 0) := by
  intro n
  induction n using Nat.strongRecOn with
  | ind n ih =>
    intro l hn hk out ho
    by_cases hl : l = []
    · subst hl; rw [pieces_nil]; simp [go]
    · rw [pieces_cons hl, List.map_cons, go]
      have hp := itemN_pos l; have hle := itemN_le hl
      obtain ⟨e1, e2, e3⟩ := item_law hl hk (by omega)
      rw [if_neg (fun q => q e1), if_neg (by omega), e3]
      have := ih (l.drop (itemN l)).length (by rw [List.length_drop]; omega) (l.drop (itemN l)) rfl (fun k hm => hk k (List.mem_of_mem_drop hm)) (out ++ l.take (itemN l)) (by simp only [List.length_append, List.length_take, List.length_drop]; omega)
      rw [this, List.append_assoc, List.take_append_drop]
/-! ### the text -/
theorem dec_digit {n : Int} {b : UInt8} (h : b ∈ dec n) : isD b = true := List.all_eq_true.1 (dec_ok n.toNat).2.1 b h
theorem item_nospace (l : List Int) : (32 : UInt8) ∉ itemL l ∧ itemL l ≠ [] := by
  have hd : ∀ n : Int, (32 : UInt8) ∉ dec n := fun n h => (isD_sep (dec_digit h)).2 rfl
  have hne : ∀ n : Int, dec n ≠ [] := fun n => (dec_ok n.toNat).1
  unfold itemL
  split
  · exact ⟨by simp [hd], by simp⟩
  · split
    · exact ⟨by simp [hd], by simp⟩
    · exact ⟨hd _, hne _⟩
theorem pieces_nospace : ∀ (n : Nat) (l : List Int), l.length = n → ∀ p ∈ pieces l, (32 : UInt8) ∉ p := by
  intro n
  induction n using Nat.strongRecOn with
  | ind n ih =>
    intro l hn p hp
    by_cases hl : l = []
    · subst hl; rw [pieces_nil] at hp; cases hp
    · rw [pieces_cons hl] at hp
      rcases List.mem_cons.1 hp with e | e
      · rw [e]; exact (item_nospace l).1
      · have h1 := itemN_pos l; have h2 := List.length_pos_iff.2 hl
        exact ih (l.drop (itemN l)).length (by rw [List.length_drop]; omega) _ rfl p e
theorem join_two (x y : List UInt8) (r : List (List UInt8)) : Go.Lib.join (x :: y :: r) [32] = x ++ 32 :: Go.Lib.join (y :: r) [32] := by
  rw [Go.Lib.join_cons, Go.Lib.join_cons]
  simp [Go.Lib.joinTail]
theorem wordsL_pieces : ∀ {ps : List (List UInt8)}, ps ≠ [] → (∀ p ∈ ps, (32 : UInt8) ∉ p) → wordsL (Go.Lib.join ps [32]) = ps
  | [x], _, h => by rw [Go.Lib.join_one]; exact wordsL_plain (h x (by simp))
  | x :: y :: r, _, h => by
    rw [join_two, wordsL_cut _ (h x (by simp)), wordsL_pieces (ps := y :: r) (by simp) (fun p hp => h p (by simp [hp]))]
theorem dec_len7 {n : Int} (h : n < 10000000) : (dec n).length ≤ 7 := dec_len 6 n.toNat (by omega)
theorem dec_len3 {n : Int} (h : n < 1000) : (dec n).length ≤ 3 := dec_len 2 n.toNat (by omega)
theorem item_len {l : List Int} (hl : l ≠ []) (hk : ∀ k ∈ l, Lru.okKey k = true) (hn : l.length ≤ 200) : (itemL l).length + 1 ≤ 8 * itemN l := by
  have hf := okKey_iff.1 (first_ok hl hk)
  have h7 := dec_len7 (n := l.getD 0 0) (by omega)
  have h0 := run_le hl 0
  unfold itemL itemN
  split
  · have h3 := dec_len3 (n := (run 0 l : Int)) (by omega)
    simp only [List.length_append, List.length_cons]; omega
  · split
    · have hr := okKey_iff.1 (rise_last hl hk)
      have h8 := dec_len7 (n := l.getD 0 0 + (run 1 l : Int) - 1) (by omega)
      simp only [List.length_append, List.length_cons]; omega
    · omega
theorem joinTail_len (ps : List (List UInt8)) : (Go.Lib.joinTail [32] ps).length = (ps.map (fun p => p.length + 1)).sum := by
  induction ps with
  | nil => rfl
  | cons x r ih =>
    have : Go.Lib.joinTail [32] (x :: r) = 32 :: x ++ Go.Lib.joinTail [32] r := by simp [Go.Lib.joinTail]
    rw [this]; simp only [List.length_append, List.length_cons, ih, List.map_cons, List.sum_cons]
theorem join_len_le (ps : List (List UInt8)) : (Go.Lib.join ps [32]).length ≤ (ps.map (fun p => p.length + 1)).sum := by
  cases ps with
  | nil => simp [Go.Lib.join_nil]
  | cons x r => rw [Go.Lib.join_cons, List.length_append, joinTail_len]; simp only [List.map_cons, List.sum_cons]; omega
theorem pieces_len : ∀ (n : Nat) (l : List Int), l.length = n → l.length ≤ 200 → (∀ k ∈ l, Lru.okKey k = true) → ((pieces l).map (fun p => p.length + 1)).sum ≤ 8 * l.length ∧ (pieces l).length ≤ l.length := by
  intro n
  induction n using Nat.strongRecOn with
  | ind n ih =>
    intro l hn h2 hk
    by_cases hl : l = []
    · subst hl; rw [pieces_nil]; simp
    · have h1 := itemN_pos l; have h3 := List.length_pos_iff.2 hl; have hle := itemN_le hl
      have hi := item_len hl hk h2
      obtain ⟨i1, i2⟩ := ih (l.drop (itemN l)).length (by rw [List.length_drop]; omega) (l.drop (itemN l)) rfl (by rw [List.length_drop]; omega) (fun k hm => hk k (List.mem_of_mem_drop hm))
      rw [pieces_cons hl]
      rw [List.length_drop] at i1 i2
      simp only [List.map_cons, List.sum_cons, List.length_cons]
      omega
theorem write_len {l : List Int} (hn : l.length ≤ 200) (hk : ∀ k ∈ l, Lru.okKey k = true) : (write l).length ≤ 8 * l.length := Nat.le_trans (join_len_le _) (pieces_len _ l rfl hn hk).1
theorem write_nil : write [] = [] := by unfold write; rw [pieces_nil]; rfl
theorem write_ne {l : List Int} (hl : l ≠ []) : write l ≠ [] := by
  unfold write
  rw [pieces_cons hl, Go.Lib.join_cons]
  have := (item_nospace l).2
  simp [this]
theorem trace_ok {l : List Int} : Lru.trace l = 0 ↔ l.length ≤ 200 ∧ ∀ k ∈ l, Lru.okKey k = true := by
  unfold Lru.trace
  split
  · constructor
    · intro h; omega
    · intro h; omega
  · split
    · rename_i h
      obtain ⟨x, hx, h2⟩ := List.any_eq_true.1 h
      constructor
      · intro q; omega
      · intro q; have := q.2 x hx; simp [this] at h2
    · rename_i h1 h
      refine ⟨fun _ => ⟨by omega, fun k hk => ?_⟩, fun _ => rfl⟩
      cases hq : Lru.okKey k with
      | true => rfl
      | false => exact absurd (List.any_eq_true.2 ⟨k, hk, by simp [hq]⟩) h
/-- parsing what was written -/
theorem round_trip {l : List Int} (h : Lru.trace l = 0) : parse (ofL (write l)) = (l, 0) := by
  obtain ⟨hn, hk⟩ := trace_ok.1 h
  have hw := write_len hn hk
  unfold parse
  rw [if_neg (by rw [ofL_size]; omega)]
  by_cases hl : l = []
  · subst hl; rw [write_nil, if_pos empty_ofL.symm]
  · rw [if_neg (fun e => write_ne hl (eq_empty.1 e))]
    have e : words (ofL (write l)) = (pieces l).map ofL := by
      show (wordsL (write l)).map ofL = _
      unfold write
      rw [wordsL_pieces (by rw [pieces_cons hl]; simp) (pieces_nospace _ l rfl)]
    rw [e, go_pieces _ l rfl hk [] (by simpa using hn)]; rfl
/-! ### what parsing gives is a right trace -/
theorem cut_sign {w : ByteArray} (hs : 0 ≤ cutI w) : star w ∨ dash w := by
  have hsep : sepB (byteAt w (cutI w).toNat) = true := by
    have hs' := hs
    unfold cutI at hs' ⊢
    rcases idxF_cases sepB w.data.toList with ⟨k, hk, e, e2, _⟩ | ⟨e, _⟩
    · rw [e]
      have : byteAt w k = w.data.toList[k] := by
        conv => lhs; rw [← data_ofL w]
        rw [byteAt_ofL, List.getD_eq_getElem?_getD, List.getElem?_eq_getElem hk]; rfl
      rw [show ((k : Int)).toNat = k by omega, this]; exact e2
    · omega
  unfold sepB at hsep
  rw [Bool.or_eq_true] at hsep
  rcases hsep with q | q
  · exact .inl ⟨hs, by simpa using q⟩
  · exact .inr ⟨hs, by simpa using q⟩
theorem pErr_parts {w : ByteArray} (h : pErr w = 0) : 0 ≤ pk w ∧ 0 ≤ pm w ∧ (star w → 2 ≤ pm w) ∧ (dash w → pk w + 2 ≤ pm w ∧ pm w ≤ 1048576) ∧ (¬ dash w → pk w ≤ 1048576) := by
  unfold pErr at h
  by_cases h1 : pk w < 0 ∨ pm w < 0
  · rw [if_pos h1] at h; omega
  · rw [if_neg h1] at h
    by_cases h2 : (star w ∧ pm w < 2) ∨ (dash w ∧ pm w < pk w + 2)
    · rw [if_pos h2] at h; omega
    · rw [if_neg h2] at h
      have h3 : Lru.okKey (if dash w then pm w else pk w) = true := by
        cases hq : Lru.okKey (if dash w then pm w else pk w) with
        | true => rfl
        | false => rw [hq] at h; exact absurd h (by decide)
      have hst : star w → 2 ≤ pm w := fun q => by
        by_cases hx : pm w < 2
        · exact absurd (.inl ⟨q, hx⟩) h2
        · omega
      have hds : dash w → pk w + 2 ≤ pm w := fun q => by
        by_cases hx : pm w < pk w + 2
        · exact absurd (.inr ⟨q, hx⟩) h2
        · omega
      refine ⟨by omega, by omega, hst, fun q => ?_, fun q => ?_⟩
      · rw [if_pos q] at h3
        have := okKey_iff.1 h3
        exact ⟨hds q, this.2⟩
      · rw [if_neg q] at h3
        exact (okKey_iff.1 h3).2
theorem pErr_ok {w : ByteArray} (h : pErr w = 0) : 0 ≤ pKey w ∧ 1 ≤ pMany w ∧ (pBy w = 0 ∨ pBy w = 1) ∧ pKey w + (pMany w - 1) * pBy w ≤ 1048576 := by
  obtain ⟨h1, h2, h3, h4, h5⟩ := pErr_parts h
  unfold pKey pMany pBy
  rw [if_pos h, if_pos h]
  by_cases hd : dash w
  · rw [if_pos hd, if_pos ⟨h, hd⟩]
    have := h4 hd
    refine ⟨h1, by omega, .inr rfl, by omega⟩
  · rw [if_neg hd, if_neg (fun q => hd q.2)]
    have h6 := h5 hd
    refine ⟨h1, ?_, .inl rfl, by omega⟩
    by_cases hs : 0 ≤ cutI w
    · rcases cut_sign hs with q | q
      · have := h3 q; omega
      · exact absurd q hd
    · have : pm w = 1 := by unfold pm; rw [if_pos (by omega)]
      omega
theorem steps_ok {w : ByteArray} (h : pErr w = 0) : ∀ k ∈ steps (pKey w) (pBy w) (pMany w), Lru.okKey k = true := by
  obtain ⟨h1, h2, h3, h4⟩ := pErr_ok h
  intro k hk
  obtain ⟨i, hi, rfl⟩ := List.mem_map.1 hk
  have hi' := List.mem_range.1 hi
  rw [okKey_iff]
  rcases h3 with e | e <;> rw [e] at h4 ⊢ <;> omega
theorem go_ok : ∀ (ws : List ByteArray) (out : List Int), out.length ≤ 200 → (∀ k ∈ out, Lru.okKey k = true) → (go ws out).2 = 0 → (go ws out).1.length ≤ 200 ∧ ∀ k ∈ (go ws out).1, Lru.okKey k = true
  | [], out, h1, h2, _ => ⟨h1, h2⟩
  | w :: ws, out, h1, h2, h3 => by
    rw [go] at h3 ⊢
    by_cases e : pErr w = 0
    · rw [if_neg (fun q => q e)] at h3 ⊢
      by_cases e2 : 200 < (out.length : Int) + pMany w
      · rw [if_pos e2] at h3; exact absurd h3 (by decide)
      · rw [if_neg e2] at h3 ⊢
        refine go_ok ws _ ?_ ?_ h3
        · rw [List.length_append, steps_len]
          obtain ⟨q1, q2, q3, q4⟩ := pErr_ok e
          omega
        · intro k hk
          rcases List.mem_append.1 hk with hk | hk
          · exact h2 k hk
          · exact steps_ok e k hk
    · rw [if_pos e] at h3; exact absurd h3 e
theorem parse_ok {s : ByteArray} (h : (parse s).2 = 0) : Lru.trace (parse s).1 = 0 := by
  rw [trace_ok]
  unfold parse at h ⊢
  split at h
  · exact absurd h (by decide)
  · rename_i h1
    rw [if_neg h1]
    split
    · exact ⟨by simp, by simp⟩
    · rename_i h2
      rw [if_neg h2] at h
      exact go_ok _ [] (by simp) (by simp) h
theorem go_bad : ∀ (ws : List ByteArray) (out : List Int), (go ws out).2 ≠ 0 → (go ws out).1 = []
  | [], _, h => absurd rfl h
  | w :: ws, out, h => by
    rw [go] at h ⊢
    split
    · rfl
    · rename_i h1
      rw [if_neg h1] at h
      split
      · rfl
      · rename_i h2
        rw [if_neg h2] at h
        exact go_bad ws _ h
theorem parse_bad {s : ByteArray} (h : (parse s).2 ≠ 0) : (parse s).1 = [] := by
  unfold parse at h ⊢
  split
  · rfl
  · rename_i h1
    rw [if_neg h1] at h
    split
    · rfl
    · rename_i h2
      rw [if_neg h2] at h
      exact go_bad _ _ h
/-! ### compact -/
theorem compact_law {s : ByteArray} (h : (parse s).2 = 0) : parse (compact s) = ((parse s).1, 0) ∧ compact (compact s) = compact s := by
  have hp := parse_ok h
  have e : compact s = ofL (write (parse s).1) := by unfold compact format; rw [if_pos h, if_pos hp]
  have hr := round_trip hp
  rw [← e] at hr
  refine ⟨hr, ?_⟩
  have e2 : compact (compact s) = format (parse (compact s)).1 := by rw [compact, if_pos (by rw [hr])]
  rw [e2, hr]
  conv => rhs; rw [compact, if_pos h]
/-! ### joins -/
theorem go_cons {w : ByteArray} (ws : List ByteArray) (out : List Int) (e : pErr w = 0) (e2 : ¬ 200 < (out.length : Int) + pMany w) : go (w :: ws) out = go ws (out ++ steps (pKey w) (pBy w) (pMany w)) := by
  rw [go, if_neg (fun q => q e), if_neg e2]
theorem go_head {w : ByteArray} {ws : List ByteArray} {out : List Int} (h : (go (w :: ws) out).2 = 0) : pErr w = 0 ∧ ¬ 200 < (out.length : Int) + pMany w := by
  rw [go] at h
  by_cases e : pErr w = 0
  · refine ⟨e, fun e2 => ?_⟩
    rw [if_neg (fun q => q e), if_pos e2] at h
    exact absurd h (by decide)
  · rw [if_pos e] at h; exact absurd h e
theorem go_append : ∀ (v ws : List ByteArray) (out : List Int), (go v out).2 = 0 → go (v ++ ws) out = go ws (go v out).1
  | [], ws, out, _ => rfl
  | w :: v, ws, out, h => by
    obtain ⟨e, e2⟩ := go_head h
    rw [go_cons v out e e2] at h ⊢
    rw [List.cons_append, go_cons (v ++ ws) out e e2]
    exact go_append v ws _ h
theorem go_grow : ∀ (ws : List ByteArray) (o : List Int), (go ws o).2 = 0 → ∃ q, (go ws o).1 = o ++ q
  | [], o, _ => ⟨[], by simp [go]⟩
  | w :: ws, o, h => by
    obtain ⟨e, e2⟩ := go_head h
    rw [go_cons ws o e e2] at h ⊢
    obtain ⟨q, hq⟩ := go_grow ws _ h
    exact ⟨steps (pKey w) (pBy w) (pMany w) ++ q, by rw [hq, List.append_assoc]⟩
theorem go_shift : ∀ (ws : List ByteArray) (o out : List Int), (go ws o).2 = 0 → out.length + (go ws o).1.length ≤ 200 → go ws (out ++ o) = (out ++ (go ws o).1, 0)
  | [], o, out, _, _ => rfl
  | w :: ws, o, out, h, hl => by
    obtain ⟨e, e2⟩ := go_head h
    obtain ⟨q1, q2, q3, q4⟩ := pErr_ok e
    have hsl := steps_len (pKey w) (pBy w) (pMany w)
    rw [go_cons ws o e e2] at h hl ⊢
    obtain ⟨q, hq⟩ := go_grow ws _ h
    have hl2 := hl
    rw [hq] at hl2
    simp only [List.length_append] at hl2
    rw [go_cons ws (out ++ o) e (by rw [List.length_append]; omega), List.append_assoc]
    exact go_shift ws _ out h hl
theorem go_over : ∀ (ws : List ByteArray) (o out : List Int), (go ws o).2 = 0 → out.length + o.length ≤ 200 → 200 < out.length + (go ws o).1.length → (go ws (out ++ o)).2 = 2
  | [], o, out, _, h1, h2 => by simp only [go] at h2; omega
  | w :: ws, o, out, h, h1, h2 => by
    obtain ⟨e, e2⟩ := go_head h
    obtain ⟨q1, q2, q3, q4⟩ := pErr_ok e
    have hsl := steps_len (pKey w) (pBy w) (pMany w)
    rw [go_cons ws o e e2] at h h2
    by_cases e3 : 200 < ((out ++ o).length : Int) + pMany w
    · rw [go, if_neg (fun q => q e), if_pos e3]
    · rw [go_cons ws (out ++ o) e e3, List.append_assoc]
      refine go_over ws _ out h ?_ h2
      simp only [List.length_append] at e3 ⊢
      omega
theorem words_ne (s : ByteArray) : words s ≠ [] := by unfold words; simp [wordsL_ne]
theorem words_join (s t : ByteArray) : words (s ++ ofL [32] ++ t) = words s ++ words t := by
  have e : s ++ ofL [32] ++ t = ofL (s.data.toList ++ 32 :: t.data.toList) := by
    conv => lhs; rw [← data_ofL s, ← data_ofL t]
    rw [ofL_append, ofL_append]; simp
  rw [e]
  show (wordsL (s.data.toList ++ 32 :: t.data.toList)).map ofL = _
  rw [wordsL_join, List.map_append]; rfl
theorem parse_pos {s : ByteArray} (h0 : s ≠ ByteArray.empty) (hs : s.size ≤ 2000) : parse s = go (words s) [] := by
  unfold parse; rw [if_neg (by omega), if_neg h0]
theorem parse_small {s : ByteArray} (h : (parse s).2 = 0) : s.size ≤ 2000 := by
  unfold parse at h
  split at h
  · exact absurd h (by decide)
  · omega
theorem joins {s t : ByteArray} (hs : (parse s).2 = 0) (ht : (parse t).2 = 0) (h1 : s ≠ ByteArray.empty) (h2 : t ≠ ByteArray.empty) :
    if (200 < (parse s).1.length + (parse t).1.length ∨ 2000 ≤ s.size + t.size) then (parse (s ++ ofL [32] ++ t)).2 = 2 else parse (s ++ ofL [32] ++ t) = ((parse s).1 ++ (parse t).1, 0) := by
  have hsz : (s ++ ofL [32] ++ t).size = s.size + 1 + t.size := by rw [ByteArray.size_append, ByteArray.size_append, ofL_size]; rfl
  have hne : s ++ ofL [32] ++ t ≠ ByteArray.empty := fun e => by have := congrArg ByteArray.size e; rw [hsz] at this; simp at this
  have hso := trace_ok.1 (parse_ok hs)
  have p1 := parse_pos h1 (parse_small hs); have p2 := parse_pos h2 (parse_small ht)
  by_cases hb : 2000 ≤ s.size + t.size
  · rw [if_pos (.inr hb)]; unfold parse; rw [if_pos (by omega)]
  · rw [parse_pos hne (by omega), words_join]
    have hg := go_append (words s) (words t) [] (by rw [← p1]; exact hs)
    rw [← p1] at hg
    have ht' : (go (words t) []).2 = 0 := by rw [← p2]; exact ht
    rw [hg]
    by_cases hl : 200 < (parse s).1.length + (parse t).1.length
    · rw [if_pos (.inl hl)]
      have hf := go_over (words t) [] (parse s).1 ht' (by simpa using hso.1) (by rw [← p2]; exact hl)
      rw [List.append_nil] at hf
      exact hf
    · rw [if_neg (by rintro (q | q); exact hl q; exact hb q)]
      have hf := go_shift (words t) [] (parse s).1 ht' (by rw [← p2]; omega)
      rw [List.append_nil, ← p2] at hf
      exact hf
end Go.Sx.Trc
