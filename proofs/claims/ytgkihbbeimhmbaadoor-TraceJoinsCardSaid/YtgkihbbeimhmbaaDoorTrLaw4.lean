/- The text form of traces: how the reference cuts a text. -/
import Derived.Test.YtgkihbbeimhmbaaDoorTrLaw3
namespace Go.Sx.Trc
structure KI (w : ByteArray) (cut k : Int) : Prop where
  lo : -1 ≤ k
  kc : k < cut
  hi : cut ≤ (w.size : Int)
  no : ∀ j : Nat, k < (j : Int) → (j : Int) < cut → sepB (byteAt w j) = false
  at_ : cut < (w.size : Int) → sepB (byteAt w cut.toNat) = true
theorem KI.start (w : ByteArray) : KI w (w.size : Int) ((w.size : Int) - 1) := ⟨by omega, by omega, by omega, fun j h1 h2 => by omega, fun h => by omega⟩
theorem sep_iff {b : UInt8} : sepB b = true ↔ (b.toNat : Int) = 42 ∨ (b.toNat : Int) = 45 := by
  unfold sepB
  rw [Bool.or_eq_true, beq_iff_eq, beq_iff_eq, byte_eq (c := 42) (n := 42) rfl, byte_eq (c := 45) (n := 45) rfl]
theorem KI.hit {w : ByteArray} {cut k : Int} (h : KI w cut k) (h0 : 0 ≤ k) (hb : ((byteAt w k.toNat).toNat : Int) = 42 ∨ ((byteAt w k.toNat).toNat : Int) = 45) : KI w k (k - 1) :=
  ⟨by omega, by omega, by have := h.kc; have := h.hi; omega, fun j h1 h2 => by omega, fun _ => sep_iff.2 hb⟩
theorem KI.miss {w : ByteArray} {cut k : Int} (h : KI w cut k) (h0 : 0 ≤ k) (hb : ¬ ((byteAt w k.toNat).toNat : Int) = 42 ∧ ¬ ((byteAt w k.toNat).toNat : Int) = 45) : KI w cut (k - 1) :=
  ⟨by omega, by have := h.kc; omega, h.hi, fun j h1 h2 => by
    by_cases hk : k < (j : Int)
    · exact h.no j hk h2
    · have e : j = k.toNat := by omega
      rw [e]
      cases hq : sepB (byteAt w k.toNat) with
      | false => rfl
      | true => have := sep_iff.1 hq; omega, h.at_⟩
structure RW (w : ByteArray) (cut : Int) : Prop where
  lo : 0 ≤ cut
  hi : cut ≤ (w.size : Int)
  eq : cutI w = if cut < (w.size : Int) then cut else -1
theorem KI.done {w : ByteArray} {cut k : Int} (h : KI w cut k) (hk : k < 0) : RW w cut := by
  have hlo := h.lo; have hkc := h.kc; have hhi := h.hi
  have hs := size_len w
  refine ⟨by omega, hhi, ?_⟩
  have hget : ∀ j (hj : j < w.data.toList.length), w.data.toList[j] = byteAt w j := fun j hj => byte_get (by rw [hs]; exact hj)
  split
  · rename_i hc
    have e : cut = ((cut.toNat : Nat) : Int) := by omega
    rw [e]
    refine (idxF_found (by omega) ?_ (fun j hj hlt => ?_)).symm
    · rw [hget]; exact h.at_ hc
    · rw [hget]; exact h.no j (by omega) (by omega)
  · rename_i hc
    exact (idxF_none fun j hj => by rw [hget]; exact h.no j (by omega) (by omega)).symm
section
variable {w : ByteArray} {cut b : Int} (h : RW w cut)
include h
theorem rw_pk : num (w.extract 0 cut.toNat) = pk w := by
  have he := h.eq
  unfold pk
  by_cases hc : cut < (w.size : Int)
  · rw [if_pos hc] at he
    rw [he, if_neg (by have := h.lo; omega)]
  · rw [if_neg hc] at he
    rw [he, if_pos (by decide)]
    have : cut.toNat = w.size := by have := h.hi; omega
    rw [this, ByteArray.extract_zero_size]
theorem rw_pm (hb : b = if cut < (w.size : Int) then num (w.extract (cut + 1).toNat w.size) else 0) : pm w = if cut < (w.size : Int) then b else 1 := by
  have he := h.eq
  unfold pm
  by_cases hc : cut < (w.size : Int)
  · rw [if_pos hc] at he hb ⊢
    rw [he, if_neg (by have := h.lo; omega), hb, show (cut + 1).toNat = cut.toNat + 1 by have := h.lo; omega]
  · rw [if_neg hc] at he ⊢
    rw [he, if_pos (by decide)]
theorem rw_star : star w ↔ cut < (w.size : Int) ∧ ((byteAt w cut.toNat).toNat : Int) = 42 := by
  have he := h.eq; have hlo := h.lo
  rw [← star_of]
  by_cases hc : cut < (w.size : Int)
  · rw [if_pos hc] at he; rw [he]; constructor
    · rintro ⟨_, q⟩; exact ⟨hc, q⟩
    · rintro ⟨_, q⟩; exact ⟨hlo, q⟩
  · rw [if_neg hc] at he; rw [he]; constructor
    · rintro ⟨q, _⟩; exact absurd q (by decide)
    · rintro ⟨q, _⟩; exact absurd q hc
theorem rw_dash : dash w ↔ cut < (w.size : Int) ∧ ((byteAt w cut.toNat).toNat : Int) = 45 := by
  have he := h.eq; have hlo := h.lo
  rw [← dash_iff]
  by_cases hc : cut < (w.size : Int)
  · rw [if_pos hc] at he; rw [he]; constructor
    · rintro ⟨_, q⟩; exact ⟨hc, q⟩
    · rintro ⟨_, q⟩; exact ⟨hlo, q⟩
  · rw [if_neg hc] at he; rw [he]; constructor
    · rintro ⟨q, _⟩; exact absurd q (by decide)
    · rintro ⟨q, _⟩; exact absurd q hc
variable (hb : b = if cut < (w.size : Int) then num (w.extract (cut + 1).toNat w.size) else 0)
include hb
theorem rw_form (hf : ((num (w.extract 0 cut.toNat) < 0 ∨ b < 0) ∨ (cut < (w.size : Int) ∧ ((byteAt w cut.toNat).toNat : Int) = 42) ∧ b < 2) ∨ (cut < (w.size : Int) ∧ ((byteAt w cut.toNat).toNat : Int) = 45) ∧ b < num (w.extract 0 cut.toNat) + 2) : pErr w = 1 := by
  rw [rw_pk h] at hf
  rw [← rw_star h, ← rw_dash h] at hf
  have hpm := rw_pm h hb
  unfold pErr
  by_cases h1 : pk w < 0 ∨ pm w < 0
  · rw [if_pos h1]
  · rw [if_neg h1, if_pos]
    have hcs : ∀ q : star w ∨ dash w, pm w = b := fun q => by
      rw [hpm, if_pos]
      rcases q with q | q
      · exact ((rw_star h).1 q).1
      · exact ((rw_dash h).1 q).1
    rcases hf with ((q | q) | q) | q
    · exact absurd (.inl q) h1
    · by_cases hc : cut < (w.size : Int)
      · rw [if_pos hc] at hpm; exfalso; omega
      · rw [if_neg hc] at hb; omega
    · exact .inl ⟨q.1, by rw [hcs (.inl q.1)]; exact q.2⟩
    · exact .inr ⟨q.1, by rw [hcs (.inr q.1)]; exact q.2⟩
variable (hf : ((0 ≤ num (w.extract 0 cut.toNat) ∧ 0 ≤ b) ∧ (((w.size : Int) ≤ cut ∨ ¬ ((byteAt w cut.toNat).toNat : Int) = 42) ∨ 2 ≤ b)) ∧ (((w.size : Int) ≤ cut ∨ ¬ ((byteAt w cut.toNat).toNat : Int) = 45) ∨ num (w.extract 0 cut.toNat) + 2 ≤ b))
include hf
theorem rw_err : pErr w = if Lru.okKey (if dash w then pm w else pk w) then 0 else 3 := by
  have hpm := rw_pm h hb
  have hs := rw_star h; have hd := rw_dash h
  rw [rw_pk h] at hf
  unfold pErr
  have hp : 0 ≤ pm w := by rw [hpm]; split <;> omega
  have hcs : ∀ q : star w ∨ dash w, pm w = b := fun q => by
    rw [hpm, if_pos]
    rcases q with q | q
    · exact (hs.1 q).1
    · exact (hd.1 q).1
  rw [if_neg (by omega), if_neg]
  rintro (⟨q1, q2⟩ | ⟨q1, q2⟩)
  · rw [hcs (.inl q1)] at q2; have := hs.1 q1; omega
  · rw [hcs (.inr q1)] at q2; have := hd.1 q1; omega
theorem rw_range (hr : 1048576 < num (w.extract 0 cut.toNat) ∨ (cut < (w.size : Int) ∧ ((byteAt w cut.toNat).toNat : Int) = 45) ∧ 1048576 < b) : pErr w = 3 := by
  have he := rw_err h hb hf
  have hpm := rw_pm h hb
  rw [rw_pk h] at hf hr
  rw [← rw_dash h] at hr
  have hd := rw_dash h
  rw [he]
  have : Lru.okKey (if dash w then pm w else pk w) = false := by
    cases hq : Lru.okKey (if dash w then pm w else pk w) with
    | false => rfl
    | true =>
      exfalso
      have hk := okKey_iff.1 hq
      by_cases q : dash w
      · rw [if_pos q, hpm, if_pos (hd.1 q).1] at hk
        have := hd.1 q
        rcases hr with r | r <;> omega
      · rw [if_neg q] at hk
        rcases hr with r | r
        · omega
        · exact q r.1
  rw [this]; rfl
variable (hr : num (w.extract 0 cut.toNat) ≤ 1048576 ∧ (((w.size : Int) ≤ cut ∨ ¬ ((byteAt w cut.toNat).toNat : Int) = 45) ∨ b ≤ 1048576))
include hr
theorem rw_ok : pErr w = 0 ∧ num (w.extract 0 cut.toNat) = pKey w := by
  have he := rw_err h hb hf
  have hpm := rw_pm h hb
  have hd := rw_dash h
  have hpk := rw_pk h
  rw [hpk] at hf hr
  have e0 : pErr w = 0 := by
    rw [he]
    have : Lru.okKey (if dash w then pm w else pk w) = true := by
      rw [okKey_iff]
      by_cases q : dash w
      · rw [if_pos q, hpm, if_pos (hd.1 q).1]
        have := hd.1 q; omega
      · rw [if_neg q]; omega
    rw [this]; rfl
  exact ⟨e0, by rw [hpk]; unfold pKey; rw [if_pos e0]⟩
theorem rw_many {m1 m2 : Int} (h1 : m1 = if (cut < (w.size : Int) ∧ ((byteAt w cut.toNat).toNat : Int) = 42) then b else 1) (h2 : m2 = if (cut < (w.size : Int) ∧ ((byteAt w cut.toNat).toNat : Int) = 45) then b - num (w.extract 0 cut.toNat) + 1 else m1) : m2 = pMany w := by
  obtain ⟨e0, e1⟩ := rw_ok h hb hf hr
  have hpm := rw_pm h hb
  have hs := rw_star h; have hd := rw_dash h
  unfold pMany
  rw [if_pos e0]
  by_cases q : dash w
  · rw [if_pos q, h2, if_pos (hd.1 q), rw_pk h, hpm, if_pos (hd.1 q).1]
  · rw [if_neg q, h2, if_neg (fun z => q (hd.2 z)), h1]
    by_cases q2 : star w
    · rw [if_pos (hs.1 q2), hpm, if_pos (hs.1 q2).1]
    · rw [if_neg (fun z => q2 (hs.2 z)), hpm]
      by_cases hc : cut < (w.size : Int)
      · exfalso
        have he := h.eq
        rw [if_pos hc] at he
        rcases cut_sign (w := w) (by rw [he]; exact h.lo) with z | z
        · exact q2 z
        · exact q z
      · rw [if_neg hc]
theorem rw_rise {out o2 : List Int} {m2 : Int} {j : Nat} (hI : AI out (pKey w) (pBy w) m2 o2 j) (hj : (j : Int) < m2) (hR : cut < (w.size : Int) ∧ ((byteAt w cut.toNat).toNat : Int) = 45) : AI out (pKey w) (pBy w) m2 (o2 ++ [num (w.extract 0 cut.toNat) + (j : Int)]) (j + 1) := by
  obtain ⟨e0, e1⟩ := rw_ok h hb hf hr
  have e : pBy w = 1 := by unfold pBy; rw [if_pos ⟨e0, (rw_dash h).2 hR⟩]
  rw [e] at hI ⊢; rw [e1]; exact hI.next1 hj
theorem rw_flat {out o2 : List Int} {m2 : Int} {j : Nat} (hI : AI out (pKey w) (pBy w) m2 o2 j) (hj : (j : Int) < m2) (hR : (w.size : Int) ≤ cut ∨ ¬ ((byteAt w cut.toNat).toNat : Int) = 45) : AI out (pKey w) (pBy w) m2 (o2 ++ [num (w.extract 0 cut.toNat)]) (j + 1) := by
  obtain ⟨e0, e1⟩ := rw_ok h hb hf hr
  have e : pBy w = 0 := by unfold pBy; rw [if_neg (fun q => by have := (rw_dash h).1 q.2; omega)]
  rw [e] at hI ⊢; rw [e1]; exact hI.next0 hj
end
/-! ### from word to word -/
structure LI (s : ByteArray) (out : List Int) (fr : Int) (i : Nat) : Prop where
  f0 : 0 ≤ fr
  fi : fr ≤ (i : Int)
  le : i ≤ s.size + 1
  last : i = s.size + 1 → fr = (i : Int)
  len : out.length ≤ 200
  no : ∀ j : Nat, fr ≤ (j : Int) → j < i → j < s.size → byteAt s j ≠ 32
  eq : (if fr ≤ (s.size : Int) then go (words (s.extract fr.toNat s.size)) out else (out, 0)) = parse s
theorem LI.start {s : ByteArray} (h1 : (s.size : Int) ≤ 2000) (h2 : ¬ s = ByteArray.mk #[]) : LI s [] 0 0 :=
  ⟨by decide, by decide, by omega, fun h => by omega, by simp, fun j _ h => by omega, by
    rw [if_pos (by omega), show ((0 : Int)).toNat = 0 from rfl, ByteArray.extract_zero_size]; exact (parse_pos h2 (by omega)).symm⟩
theorem LI.skip {s : ByteArray} {out : List Int} {fr : Int} {i : Nat} (h : LI s out fr i) (hc : (i : Int) < (s.size : Int) ∧ ¬ ((byteAt s i).toNat : Int) = 32) : LI s out fr (i + 1) :=
  ⟨h.f0, by have := h.fi; omega, by omega, fun e => by omega, h.len, fun j h1 h2 h3 => by
    by_cases hj : j < i
    · exact h.no j h1 hj h3
    · have : j = i := by omega
      subst this; exact fun e => hc.2 (by rw [e]; rfl), h.eq⟩
theorem ext_data (s : ByteArray) (a b : Nat) : (s.extract a b).data.toList = (s.data.toList.drop a).take (b - a) := Go.Lib.extract_data s a b
theorem LI.cut {s : ByteArray} {out : List Int} {fr : Int} {i : Nat} (h : LI s out fr i) (hi : (i : Int) ≤ (s.size : Int)) (hc : (s.size : Int) ≤ (i : Int) ∨ ((byteAt s i).toNat : Int) = 32) :
    go (s.extract fr.toNat i :: (if i < s.size then words (s.extract (i + 1) s.size) else [])) out = parse s := by
  have hf0 := h.f0; have hfi := h.fi; have hs := size_len s
  have he := h.eq
  rw [if_pos (by omega)] at he
  rw [← he]
  congr 1
  have hno : (32 : UInt8) ∉ (s.data.toList.drop fr.toNat).take (i - fr.toNat) := by
    intro hm
    obtain ⟨j, hj, e⟩ := List.mem_iff_getElem.1 hm
    rw [List.length_take, List.length_drop] at hj
    rw [List.getElem_take, List.getElem_drop, byte_get (by omega)] at e
    exact h.no (fr.toNat + j) (by omega) (by omega) (by omega) e
  by_cases hlt : i < s.size
  · rw [if_pos hlt]
    have hb : byteAt s i = 32 := by
      rcases hc with hc | hc
      · omega
      · exact (byte_eq (c := 32) (n := 32) rfl).1 hc
    have e : s.data.toList.drop fr.toNat = (s.data.toList.drop fr.toNat).take (i - fr.toNat) ++ 32 :: s.data.toList.drop (i + 1) := by
      conv => lhs; rw [← List.take_append_drop (i - fr.toNat) (s.data.toList.drop fr.toNat)]
      rw [List.drop_drop, show fr.toNat + (i - fr.toNat) = i by omega, show s.data.toList.drop i = 32 :: s.data.toList.drop (i + 1) by rw [List.drop_eq_getElem_cons (show i < s.data.toList.length by omega), byte_get hlt, hb]]
    unfold words
    rw [Go.Lib.extract_to_end, Go.Lib.extract_to_end]
    conv => rhs; rw [e]
    rw [wordsL_cut _ hno, List.map_cons, ← ext_data, data_ofL]
  · rw [if_neg hlt]
    have ei : i = s.size := by omega
    rw [ei] at hno ⊢
    unfold words
    rw [Go.Lib.extract_to_end, wordsL_plain (by rw [List.take_of_length_le (by rw [List.length_drop]; omega)] at hno; exact hno)]
    rw [List.map_cons, List.map_nil, ← Go.Lib.extract_to_end, data_ofL]
theorem LI.err {s : ByteArray} {out : List Int} {fr : Int} {i : Nat} (h : LI s out fr i) (hi : (i : Int) ≤ (s.size : Int)) (hc : (s.size : Int) ≤ (i : Int) ∨ ((byteAt s i).toNat : Int) = 32) {e : Int} (he : pErr (s.extract fr.toNat i) = e) (hn : e ≠ 0) : [] = (parse s).1 ∧ e = (parse s).2 := by
  rw [← h.cut hi hc, go, if_pos (by rw [he]; exact hn), he]; exact ⟨rfl, rfl⟩
theorem LI.many {s : ByteArray} {out : List Int} {fr : Int} {i : Nat} (h : LI s out fr i) (hi : (i : Int) ≤ (s.size : Int)) (hc : (s.size : Int) ≤ (i : Int) ∨ ((byteAt s i).toNat : Int) = 32) (he : pErr (s.extract fr.toNat i) = 0) {m2 : Int} (hm : m2 = pMany (s.extract fr.toNat i)) (h2 : 200 - (out.length : Int) < m2) : [] = (parse s).1 ∧ 2 = (parse s).2 := by
  rw [← h.cut hi hc, go, if_neg (fun q => q he), if_pos (by omega)]; exact ⟨rfl, rfl⟩
theorem LI.next {s : ByteArray} {out o2 : List Int} {fr : Int} {i j : Nat} (h : LI s out fr i) (hi : (i : Int) ≤ (s.size : Int)) (hc : (s.size : Int) ≤ (i : Int) ∨ ((byteAt s i).toNat : Int) = 32) (he : pErr (s.extract fr.toNat i) = 0) {m2 : Int} (hm : m2 = pMany (s.extract fr.toNat i)) (h2 : m2 ≤ 200 - (out.length : Int))
    (hA : AI out (pKey (s.extract fr.toNat i)) (pBy (s.extract fr.toNat i)) m2 o2 j) (hj : m2 ≤ (j : Int)) : LI s o2 ((i : Int) + 1) (i + 1) := by
  have hp := (pErr_ok he).2.1
  have ho := hA.done (by omega) hj
  have hcut := h.cut hi hc
  rw [go_cons _ _ he (by omega), ← hm, ← ho] at hcut
  have hl := hA.len
  have hle := hA.le
  refine ⟨by omega, by omega, by omega, fun _ => by omega, by omega, fun k h3 h4 => by omega, ?_⟩
  rw [← hcut]
  by_cases hlt : i < s.size
  · rw [if_pos (by omega), if_pos hlt, show ((i : Int) + 1).toNat = i + 1 by omega]
  · rw [if_neg (by omega), if_neg hlt]; rfl
theorem LI.done {s : ByteArray} {out : List Int} {fr : Int} {i : Nat} (h : LI s out fr i) (hi : (s.size : Int) < (i : Int)) : out = (parse s).1 ∧ 0 = (parse s).2 := by
  have := h.last (by have := h.le; omega)
  have he := h.eq
  rw [if_neg (by omega)] at he
  rw [← he]; exact ⟨rfl, rfl⟩
end Go.Sx.Trc
namespace Go.Sx.Trc
def joinB (l : List ByteArray) (sp : ByteArray) : ByteArray := ofL (Go.Lib.join (l.map (·.data.toList)) sp.data.toList)
theorem joinB_map (l : List (List UInt8)) : joinB (l.map ofL) (ByteArray.mk #[32]) = ofL (Go.Lib.join l [32]) := by
  unfold joinB
  rw [List.map_map]
  have : (l.map ((fun x : ByteArray => x.data.toList) ∘ ofL)) = l := List.map_id'' (fun x => rfl) _
  rw [this]
end Go.Sx.Trc
