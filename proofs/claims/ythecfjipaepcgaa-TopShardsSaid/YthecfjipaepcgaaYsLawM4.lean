
import Derived.Test.YthecfjipaepcgaaSx31M4
import Derived.Test.YthecfjipaepcgaaGdLawM14
import Derived.Test.YthecfjipaepcgaaYsF
namespace Go.Sx.Ys
/-! ### the parts of a trace -/
def dst (room : Int) (t : List Int) : DCache := (Lru.runGo ⟨room, []⟩ 0 t).1
def hts (room : Int) (t : List Int) : Int := (Lru.runGo ⟨room, []⟩ 0 t).2
def hsum (room : Int) (P : List (List Int)) : Nat → Int
  | 0 => 0
  | m + 1 => hsum room P m + hts room (P.getD m [])
theorem hts_bd (room : Int) (t : List Int) : 0 ≤ hts room t ∧ hts room t ≤ t.length := Lru.run_n t _
theorem dst_room (room : Int) (t : List Int) : (dst room t).room = room := Lru.runGo_room
theorem dst_snoc (room : Int) (t : List Int) (f : Int) : dst room (t ++ [f]) = (Lru.touch (dst room t) f).1 := Lru.runGo_snoc
theorem hts_snoc (room : Int) (t : List Int) (f : Int) : hts room (t ++ [f]) = if (Lru.touch (dst room t) f).2.1 then hts room t + 1 else hts room t := by
  unfold hts dst; rw [Lru.runGo_append]; rfl
theorem hsum_out (room : Int) {P : List (List Int)} {o : Nat} (t : List Int) : ∀ m : Nat, m ≤ o → hsum room (P.set o t) m = hsum room P m
  | 0, _ => rfl
  | m + 1, h => by
    have e : (P.set o t).getD m [] = P.getD m [] := getD_set_ne (by omega)
    rw [hsum, hsum, hsum_out room t m (by omega), e]
theorem hsum_set (room : Int) {P : List (List Int)} {o : Nat} (ho : o < P.length) (t : List Int) : ∀ m : Nat, o < m → hsum room (P.set o t) m = hsum room P m + (hts room t - hts room (P.getD o []))
  | 0, h => absurd h (Nat.not_lt_zero o)
  | m + 1, h => by
    rw [hsum, hsum]
    by_cases e : o = m
    · subst e
      rw [hsum_out room t o (Nat.le_refl _), getD_set_self ho]; omega
    · have e2 : (P.set o t).getD m [] = P.getD m [] := getD_set_ne (Ne.symm e)
      rw [hsum_set room ho t m (by omega), e2]; omega
/-- what the loop knows -/
structure TI (room : Int) (P : List (List Int)) (D : List DCache) (hits : Int) (i : Nat) : Prop where
  pl : P.length = 20
  dl : D.length = 20
  ii : i ≤ 40
  len : ∀ o, o < 20 → (P.getD o []).length ≤ i
  key : ∀ o, o < 20 → ∀ x ∈ P.getD o [], 0 ≤ x ∧ x < 40
  keys : ∀ o, o < 20 → (D.getD o default).keys = (dst room (P.getD o [])).keys
  rm : ∀ o, o < 20 → P.getD o [] ≠ [] → 1 ≤ room ∧ room ≤ 40
  sum : hits = hsum room P 20
  bd : 0 ≤ hits ∧ hits ≤ (i : Int)
theorem rep_get {o : Nat} : (List.replicate 20 ([] : List Int)).getD o [] = [] := by
  simp only [List.getD_eq_getElem?_getD, List.getElem?_replicate]; split <;> rfl
theorem rep_getC {o : Nat} : (List.replicate 20 (⟨0, []⟩ : DCache)).getD o default = ⟨0, []⟩ := by
  simp only [List.getD_eq_getElem?_getD, List.getElem?_replicate]; split <;> rfl
theorem hsum_nil (room : Int) : ∀ m : Nat, hsum room (List.replicate 20 []) m = 0
  | 0 => rfl
  | m + 1 => by rw [hsum, hsum_nil room m, rep_get]; rfl
theorem TI.start (room : Int) : TI room (List.replicate 20 []) (List.replicate 20 ⟨0, []⟩) 0 0 := by
  refine ⟨by simp, by simp, by omega, fun o _ => by rw [rep_get]; exact Nat.le_refl _, fun o _ x hx => ?_, fun o _ => by rw [rep_get, rep_getC]; rfl, fun o _ h => absurd rep_get h, (hsum_nil room 20).symm, by omega⟩
  rw [rep_get] at hx; cases hx
section
variable {room : Int} {P : List (List Int)} {D : List DCache} {hits f : Int} {i o : Nat}
/-- the cache that is accessed -/
theorem TI.cache (h : TI room P D hits i) (ho : o < 20) : (D.set o ⟨room, (D.getD o default).keys⟩).getD o default = dst room (P.getD o []) := by
  rw [getD_setC (by rw [h.dl]; exact ho), h.keys o ho]
  exact Lru.same_cache.2 ⟨(dst_room room _).symm, rfl⟩
theorem TI.small (h : TI room P D hits i) (ho : o < 20) : (P.getD o []).length ≤ 40 := Nat.le_trans (h.len o ho) h.ii
theorem TI.next (h : TI room P D hits i) (ho : o < 20) (hi : i < 40) (hf : 0 ≤ f ∧ f ≤ (i : Int)) (he : Lru.accessErr ((D.set o ⟨room, (D.getD o default).keys⟩).getD o default) f = 0) {hits' : Int}
    (hh : hits' = if (Lru.access ((D.set o ⟨room, (D.getD o default).keys⟩).getD o default) f).2.1 then hits + 1 else hits) :
    TI room (P.set o (P.getD o [] ++ [f])) ((D.set o ⟨room, (D.getD o default).keys⟩).set o (Lru.access ((D.set o ⟨room, (D.getD o default).keys⟩).getD o default) f).1) hits' (i + 1) := by
  rw [h.cache ho] at he hh ⊢
  obtain ⟨h1, h2, h3⟩ := Lru.acc_ok he
  rw [h3] at hh ⊢
  have hok := (Lru.check_ok.1 h1).room
  rw [dst_room] at hok
  have hs := h.len o ho
  have hp : o < P.length := by rw [h.pl]; exact ho
  have hd : o < D.length := by rw [h.dl]; exact ho
  have hsum : hits' = hsum room (P.set o (P.getD o [] ++ [f])) 20 := by
    rw [hsum_set room hp _ 20 ho, hts_snoc, hh, ← h.sum]
    split <;> omega
  refine ⟨by simpa using h.pl, by simpa using h.dl, hi, fun q hq => ?_, fun q hq x hx => ?_, fun q hq => ?_, fun q hq hne => ?_, hsum, ?_⟩
  · by_cases e : q = o
    · subst e; rw [getD_set_self hp, List.length_append, List.length_singleton]; omega
    · rw [getD_set_ne e]; have := h.len q hq; omega
  · by_cases e : q = o
    · subst e; rw [getD_set_self hp] at hx
      rcases List.mem_append.1 hx with hx | hx
      · exact h.key q hq x hx
      · rw [List.mem_singleton.1 hx]; omega
    · rw [getD_set_ne e] at hx; exact h.key q hq x hx
  · rw [List.set_set]
    by_cases e : q = o
    · subst e; rw [getD_setC hd, getD_set_self hp, dst_snoc]
    · rw [getD_setC_ne e, getD_set_ne e]; exact h.keys q hq
  · by_cases e : q = o
    · exact hok
    · rw [getD_set_ne e] at hne; exact h.rm q hq hne
  · have := h.bd
    rw [hh]; split <;> omega
theorem TI.hit (h : TI room P D hits i) (ho : o < 20) (hi : i < 40) (hf : 0 ≤ f ∧ f ≤ (i : Int)) (he : Lru.accessErr ((D.set o ⟨room, (D.getD o default).keys⟩).getD o default) f = 0) (hh : (Lru.access ((D.set o ⟨room, (D.getD o default).keys⟩).getD o default) f).2.1 = true) :
    TI room (P.set o (P.getD o [] ++ [f])) ((D.set o ⟨room, (D.getD o default).keys⟩).set o (Lru.access ((D.set o ⟨room, (D.getD o default).keys⟩).getD o default) f).1) (hits + 1) (i + 1) := h.next ho hi hf he (if_pos hh).symm
theorem TI.miss (h : TI room P D hits i) (ho : o < 20) (hi : i < 40) (hf : 0 ≤ f ∧ f ≤ (i : Int)) (he : Lru.accessErr ((D.set o ⟨room, (D.getD o default).keys⟩).getD o default) f = 0) (hh : (Lru.access ((D.set o ⟨room, (D.getD o default).keys⟩).getD o default) f).2.1 = false) :
    TI room (P.set o (P.getD o [] ++ [f])) ((D.set o ⟨room, (D.getD o default).keys⟩).set o (Lru.access ((D.set o ⟨room, (D.getD o default).keys⟩).getD o default) f).1) hits (i + 1) := h.next ho hi hf he (by rw [hh]; rfl)
/-- a part alone -/
theorem TI.alone (h : TI room P D hits i) (ho : o < 20) (hne : P.getD o [] ≠ []) : Lru.runErr ⟨room, []⟩ (P.getD o []) = 0 ∧ (Lru.run ⟨room, []⟩ (P.getD o [])).1.keys = (D.getD o default).keys ∧ (Lru.run ⟨room, []⟩ (P.getD o [])).2 = hts room (P.getD o []) := by
  have hr := h.rm o ho hne
  have h1 : Lru.check ⟨room, []⟩ = 0 := Lru.check_ok.2 ⟨hr, by simp; omega, by simp, List.nodup_nil⟩
  have h2 : Lru.trace (P.getD o []) = 0 := Lru.trace_ok.2 ⟨by have := h.small ho; omega, fun x hx => by
    have := h.key o ho x hx
    simp [Lru.okKey]; omega⟩
  obtain ⟨h3, h4⟩ := Lru.run3 h1 h2
  exact ⟨h4, by rw [h3, h.keys o ho]; rfl, by rw [h3]; rfl⟩
theorem sum_bd (h : TI room P D hits i) : ∀ m : Nat, m ≤ 20 → 0 ≤ hsum room P m ∧ hsum room P m ≤ 40 * (m : Int)
  | 0, _ => by simp [hsum]
  | m + 1, hm => by
    have h1 := sum_bd h m (by omega)
    have h2 := hts_bd room (P.getD m [])
    have h3 := h.small (o := m) (by omega)
    rw [hsum]; omega
theorem sum_next (room : Int) (P : List (List Int)) (m : Nat) : hsum room P (m + 1) = hsum room P m + hts room (P.getD m []) := rfl
theorem sum_skip (room : Int) {P : List (List Int)} {m : Nat} (h : ((P.getD m []).length : Int) = 0) : hsum room P (m + 1) = hsum room P m := by
  have e : P.getD m [] = [] := List.length_eq_zero_iff.1 (by omega)
  rw [hsum, e]; show _ + (0 : Int) = _; omega
theorem ne_of {m : Nat} (h : ¬ ((P.getD m []).length : Int) = 0) : P.getD m [] ≠ [] := fun e => h (by rw [e]; rfl)
end
/-! ### the ring -/
theorem ring_at {l : List DPoint} (h : Rg.shErr l 20 = 0) {i : Nat} (hi : i < l.length) : Rg.ownErr l (l.getD i default).at_ = 0 ∧ Rg.owner l (l.getD i default).at_ = (l.getD i default).shard ∧ (0 ≤ (l.getD i default).shard ∧ (l.getD i default).shard < 20) ∧ 0 < (Rg.shares l 20).getD (l.getD i default).shard.toNat default := by
  obtain ⟨h1, h2, h3⟩ := Rg.shares_ok h
  have e : l.getD i default = l[i] := by simp [List.getD_eq_getElem?_getD, hi]
  rw [e]
  have hp := Rg.okPoint_iff.1 (h2.fine.point _ (List.getElem_mem hi))
  have ha : Rg.okAt l[i].at_ = true := by simp [Rg.okAt]; omega
  obtain ⟨h4, h5⟩ := Rg.ow4 (Rg.check_ok.2 h2) ha h3
  have h6 : Rg.OInv l l[i].at_ i := ⟨by omega, fun j hj h9 => Rg.sorted_at h2.fine.sorted hj hi h9⟩
  refine ⟨h5, by rw [h4]; exact (h6.found hi (Int.le_refl _)).symm, hp.1, ?_⟩
  have h7 : ∀ d : Nat, i + 1 + d ≤ l.length → 0 < Rg.shGo l[i].shard (Rg.begun l) (l.take (i + 1 + d)) := fun d => by
    induction d with
    | zero =>
      intro _
      rw [Nat.add_zero, Rg.shGo_next _ hi, if_pos rfl]
      have := (Rg.take_bd h2.fine l[i].shard (k := i) (by omega)).1
      have := (Rg.bef_bd h2.fine hi).2.1
      omega
    | succ d ih =>
      intro hl
      have h8 := ih (by omega)
      have hk' : i + 1 + d < l.length := by omega
      rw [show i + 1 + (d + 1) = i + 1 + d + 1 by omega, Rg.shGo_next _ hk']
      have := (Rg.bef_bd h2.fine hk').2.1
      split <;> omega
  have h8 := h7 (l.length - (i + 1)) (by omega)
  rw [show i + 1 + (l.length - (i + 1)) = l.length by omega, List.take_length] at h8
  rw [h1]
  have h9 : l[i].shard.toNat < 20 := by omega
  have h10 : ((l[i].shard.toNat : Nat) : Int) = l[i].shard := by omega
  simp only [Rg.shares20, List.getD_eq_getElem?_getD, List.getElem?_map, List.getElem?_range h9, Option.map_some, Option.getD_some, Rg.share]
  rw [h10]; exact h8
end Go.Sx.Ys

/- The walks, printed by a program from the translation and a specification. -/
namespace Go.Proofs.Ythecfjipaepcgaa
open Go.Sx Go.RowKit
set_option maxHeartbeats 8000000 in
set_option maxRecDepth 100000 in
theorem mix_ok (n : UInt64) : Fn0 Try.prog 92 [.int .u64 (n.toNat : Int)] (fun _ => True) (.int .u64 ((Hash.mix n).toNat : Int)) := by
 refine fn0 (nt := 17) (F0 := [(0, .int .u64 (n.toNat : Int))]) Try.func92 rfl Try.ntmps92 rfl rfl (fun w0 hpre => ?_)
 refine c_seq (c_region ?_)
 refine o_as rfl rfl ?_
 refine o_nil (q_then (c_seq (c_region ?_)))
 refine o_mv rfl rfl ?_
 refine o_mv rfl rfl ?_
 refine o_p (pu_shr (p := n) (m := 30) rfl rfl (by decide)) ?_
 refine o_p (pu_xor (p := n) (q := (shrU n 30)) rfl rfl) ?_
 refine o_p (pu_mul (p := (n ^^^ (shrU n 30))) (q := (13787848793156543929 : UInt64)) rfl rfl) ?_
 refine o_as rfl rfl ?_
 refine o_nil (q_then (c_seq (c_region ?_)))
 refine o_mv rfl rfl ?_
 refine o_mv rfl rfl ?_
 refine o_p (pu_shr (p := ((n ^^^ (shrU n 30)) * (13787848793156543929 : UInt64))) (m := 27) rfl rfl (by decide)) ?_
 refine o_p (pu_xor (p := ((n ^^^ (shrU n 30)) * (13787848793156543929 : UInt64))) (q := (shrU ((n ^^^ (shrU n 30)) * (13787848793156543929 : UInt64)) 27)) rfl rfl) ?_
 refine o_p (pu_mul (p := (((n ^^^ (shrU n 30)) * (13787848793156543929 : UInt64)) ^^^ (shrU ((n ^^^ (shrU n 30)) * (13787848793156543929 : UInt64)) 27))) (q := (10723151780598845931 : UInt64)) rfl rfl) ?_
 refine o_as rfl rfl ?_
 refine o_nil (q_then (c_seq (c_region ?_)))
 refine o_mv rfl rfl ?_
 refine o_mv rfl rfl ?_
 refine o_p (pu_shr (p := ((((n ^^^ (shrU n 30)) * (13787848793156543929 : UInt64)) ^^^ (shrU ((n ^^^ (shrU n 30)) * (13787848793156543929 : UInt64)) 27)) * (10723151780598845931 : UInt64))) (m := 31) rfl rfl (by decide)) ?_
 refine o_p (pu_xor (p := ((((n ^^^ (shrU n 30)) * (13787848793156543929 : UInt64)) ^^^ (shrU ((n ^^^ (shrU n 30)) * (13787848793156543929 : UInt64)) 27)) * (10723151780598845931 : UInt64))) (q := (shrU ((((n ^^^ (shrU n 30)) * (13787848793156543929 : UInt64)) ^^^ (shrU ((n ^^^ (shrU n 30)) * (13787848793156543929 : UInt64)) 27)) * (10723151780598845931 : UInt64)) 31)) rfl rfl) ?_
 refine o_as rfl rfl ?_
 refine o_nil (q_then (c_ret ?_))
 refine q_end0 (v := .int .u64 ((((((n ^^^ (shrU n 30)) * (13787848793156543929 : UInt64)) ^^^ (shrU ((n ^^^ (shrU n 30)) * (13787848793156543929 : UInt64)) 27)) * (10723151780598845931 : UInt64)) ^^^ (shrU ((((n ^^^ (shrU n 30)) * (13787848793156543929 : UInt64)) ^^^ (shrU ((n ^^^ (shrU n 30)) * (13787848793156543929 : UInt64)) 27)) * (10723151780598845931 : UInt64)) 31)).toNat : Int)) (rt1 rfl (r_tmp rfl)) (i := 0) rfl ?_
 rfl

set_option maxHeartbeats 8000000 in
set_option maxRecDepth 100000 in
theorem raw_ok (s : ByteArray) : Fn0 Try.prog 72 [.string s] (fun w => s.size ≤ 9223372036854775807) (.int .u64 ((Hash.raw s).toNat : Int)) := by
 refine fn0 (nt := 19) (F0 := [(0, .string s)]) Try.func72 rfl Try.ntmps72 rfl rfl (fun w0 hpre => ?_)
 have hs := hpre
 refine c_seq (c_region ?_)
 refine o_as rfl rfl ?_
 refine o_nil (q_then (c_seq (c_region ?_)))
 refine o_as rfl rfl ?_
 refine o_nil (q_then (c_seq (c_seq (c_region ?_))))
 refine o_mv rfl rfl ?_
 refine o_p (p_len_string rfl rfl Try.underlying9) ?_
 refine o_mv rfl rfl ?_
 refine o_nil (q_then (c_block ?_))
 refine c_loop (St := UInt64 × Nat)
  (fun ⟨n, k⟩ => [(0, .string s), (3, .int .u64 (n.toNat : Int)), (6, Vi (s.size : Int)), (7, Vi (k : Int))])
  (fun ⟨n, k⟩ => [base w0])
  (fun ⟨n, k⟩ => k ≤ s.size ∧ n = Hash.rawTo s k)
  (fun ⟨n, k⟩ => s.size - k)
  ((14695981039346656037 : UInt64), 0) ?_ (sr (sr (sr (sr (Sub.nil _))))) (fun _ hw => hw) ?_
 ·exact ⟨Nat.zero_le _, rfl⟩
 rintro ⟨n, k⟩ hI K hK1
 obtain ⟨hk, ho⟩ := hI
 show SC _ _ Try.prog 19 w0 _ _ [(0, .string s), (3, .int .u64 (n.toNat : Int)), (6, Vi (s.size : Int)), (7, Vi (k : Int))] [base w0]
 refine c_seq (c_region ?_)
 refine o_p (p_lt rfl rfl) ?_
 refine o_nil (q_then (c_seq ?_))
 refine c_cond rfl (fun hc2 => ?_) (fun hc2 => ?_)
 ·simp only [decide_eq_true_eq] at hc2
  refine c_skip (q_then (c_seq (c_block (c_seq (c_region ?_)))))
  refine o_mv rfl rfl ?_
  refine o_as rfl rfl ?_
  refine o_nil (q_then (c_region ?_))
  refine o_mv rfl rfl ?_
  refine o_mv rfl rfl ?_
  refine o_mv rfl rfl ?_
  refine o_p (p_indexStr (z := (k : Int)) (i := k) rfl rfl Try.underlying9 (by omega) (by omega)) ?_
  refine o_p (pu_convB (c := (byteAt s k)) rfl Try.underlying5 Try.underlying59) ?_
  refine o_p (pu_xor (p := n) (q := (byteAt s k).toUInt64) rfl rfl) ?_
  refine o_p (pu_mul (p := (n ^^^ (byteAt s k).toUInt64)) (q := (1099511628211 : UInt64)) rfl rfl) ?_
  refine o_as rfl rfl ?_
  refine o_nil ?_
  refine q_block_normal (q_then ?_)
  refine c_region ?_
  refine o_p (p_addb rfl rfl (by omega)) ?_
  refine o_mv rfl rfl ?_
  refine o_nil ?_
  refine q_round hK1 (((n ^^^ (byteAt s k).toUInt64) * (1099511628211 : UInt64)), k + 1) ?_ ?_ ?_ ?_
  ·clear hK1
   exact ⟨by omega, by rw [ho]; rfl⟩
  ·(try dsimp only); omega
  ·exact sr (sr (sr (sr (Sub.nil _))))
  ·exact pk [0]
 ·simp only [decide_eq_false_iff_not, Int.not_lt] at hc2
  refine c_exit ?_
  refine q_then_exit (q_then_exit (q_block_exit (q_then ?_)))
  refine c_seq (c_region ?_)
  refine o_mv rfl rfl ?_
  refine o_as rfl rfl ?_
  refine o_nil (q_then (c_ret ?_))
  refine q_end0 (v := .int .u64 (n.toNat : Int)) (rt1 rfl (r_tmp rfl)) (i := 0) rfl ?_
  rw [show n = Hash.raw s by unfold Hash.raw; rw [ho]; congr 1; omega]

set_option maxHeartbeats 8000000 in
set_option maxRecDepth 100000 in
theorem isNaNU_ok (x : UInt64) : Fn0 Try.prog 114 [.int .u64 (x.toNat : Int)] (fun _ => True) (.bool false) := by
 refine fn0 (nt := 6) (F0 := [(0, .int .u64 (x.toNat : Int))]) Try.func114 rfl Try.ntmps114 rfl rfl (fun w0 hpre => ?_)
 refine c_seq (c_region ?_)
 refine o_as rfl rfl ?_
 refine o_nil (q_then (c_seq (c_region ?_)))
 refine o_mv rfl rfl ?_
 refine o_mv rfl rfl ?_
 refine o_p (pu_ne (p := x) (q := x) rfl rfl) ?_
 refine o_as rfl rfl ?_
 refine o_nil (q_then (c_ret ?_))
 have hr0 : ((x != x) : Bool) = false := by
  exact u64_irr x
 refine q_end0 (v := .bool (x != x)) (rt1 rfl (r_tmp rfl)) (i := 0) rfl ?_
 exact (by have hcc := congrArg (fun (y0 : Bool) => (.bool y0 : Value)) hr0; exact hcc)

set_option maxHeartbeats 8000000 in
set_option maxRecDepth 100000 in
theorem compareU_ok (x : UInt64) (y : UInt64) : Fn0 Try.prog 97 [.int .u64 (x.toNat : Int), .int .u64 (y.toNat : Int)] (fun _ => True) (Vi (cmpU x y)) := by
 refine fn0 (nt := 20) (F0 := [(0, .int .u64 (x.toNat : Int)), (1, .int .u64 (y.toNat : Int))]) Try.func97 rfl Try.ntmps97 rfl rfl (fun w0 hpre => ?_)
 refine c_seq (c_region ?_)
 refine o_as rfl rfl ?_
 refine o_nil (q_then (c_seq (c_region ?_)))
 refine o_mv rfl rfl ?_
 refine o_call0 (v := .bool false) rfl (isNaNU_ok x) hf114 (fun _ _ => trivial) rfl ?_
 refine o_as rfl rfl ?_
 refine o_nil (q_then (c_seq (c_region ?_)))
 refine o_mv rfl rfl ?_
 refine o_call0 (v := .bool false) rfl (isNaNU_ok y) hf114 (fun _ _ => trivial) rfl ?_
 refine o_as rfl rfl ?_
 refine o_nil (q_then (c_seq (c_seq (c_region ?_))))
 refine o_mv rfl rfl ?_
 refine o_nil (q_then ?_)
 refine c_false rfl ?_
 refine c_skip (q_then (c_seq (c_seq (c_region ?_))))
 refine o_mv rfl rfl ?_
 refine o_nil (q_then ?_)
 refine c_false rfl ?_
 refine c_skip (q_then (c_seq (c_seq (c_region ?_))))
 refine o_mv rfl rfl ?_
 refine o_mv rfl rfl ?_
 refine o_p (pu_lt (p := x) (q := y) rfl rfl) ?_
 refine o_nil (q_then ?_)
 refine c_cond rfl (fun hc1 => ?_) (fun hc1 => ?_)
 ·simp only [decide_eq_true_eq] at hc1
  refine c_seq (c_region ?_)
  refine o_as rfl rfl ?_
  refine o_nil (q_then (c_ret ?_))
  refine q_then_ret ?_
  have hr0 : ((-1) : Int) = (cmpU x y) := by
   first | exact (if_pos (by assumption)).symm | (unfold cmpU; rw [if_neg (by first | assumption | exact UInt64.not_lt.2 (by assumption)), if_pos (by assumption)]) | (unfold cmpU; rw [if_neg (by first | assumption | exact UInt64.not_lt.2 (by assumption)), if_neg (by first | assumption | exact UInt64.not_lt.2 (by assumption))])
  refine q_end0 (v := Vi (-1)) (rt1 rfl (r_tmp rfl)) (i := 0) rfl ?_
  exact (by have hcc := congrArg (fun (y0 : Int) => (.int .i64 y0 : Value)) hr0; exact hcc)
 ·simp only [decide_eq_false_iff_not, Int.not_lt] at hc1
  refine c_skip (q_then (c_seq (c_seq (c_region ?_))))
  refine o_mv rfl rfl ?_
  refine o_mv rfl rfl ?_
  refine o_p (pu_gt (p := x) (q := y) rfl rfl) ?_
  refine o_nil (q_then ?_)
  refine c_cond rfl (fun hc2 => ?_) (fun hc2 => ?_)
  ·simp only [decide_eq_true_eq] at hc2
   refine c_seq (c_region ?_)
   refine o_as rfl rfl ?_
   refine o_nil (q_then (c_ret ?_))
   refine q_then_ret ?_
   have hr0 : (1 : Int) = (cmpU x y) := by
    first | exact (if_pos (by assumption)).symm | (unfold cmpU; rw [if_neg (by first | assumption | exact UInt64.not_lt.2 (by assumption)), if_pos (by assumption)]) | (unfold cmpU; rw [if_neg (by first | assumption | exact UInt64.not_lt.2 (by assumption)), if_neg (by first | assumption | exact UInt64.not_lt.2 (by assumption))])
   refine q_end0 (v := Vi 1) (rt1 rfl (r_tmp rfl)) (i := 0) rfl ?_
   exact (by have hcc := congrArg (fun (y0 : Int) => (.int .i64 y0 : Value)) hr0; exact hcc)
  ·simp only [decide_eq_false_iff_not, Int.not_lt] at hc2
   refine c_skip (q_then (c_seq (c_region ?_)))
   refine o_as rfl rfl ?_
   refine o_nil (q_then (c_ret ?_))
   have hr0 : (0 : Int) = (cmpU x y) := by
    first | exact (if_pos (by assumption)).symm | (unfold cmpU; rw [if_neg (by first | assumption | exact UInt64.not_lt.2 (by assumption)), if_pos (by assumption)]) | (unfold cmpU; rw [if_neg (by first | assumption | exact UInt64.not_lt.2 (by assumption)), if_neg (by first | assumption | exact UInt64.not_lt.2 (by assumption))])
   refine q_end0 (v := Vi 0) (rt1 rfl (r_tmp rfl)) (i := 0) rfl ?_
   exact (by have hcc := congrArg (fun (y0 : Int) => (.int .i64 y0 : Value)) hr0; exact hcc)

set_option maxHeartbeats 8000000 in
set_option maxRecDepth 100000 in
theorem sright_ok (s : DShard) : Fn0 Try.prog 70 [.agg #[.string s.name, Vi s.weight]] (fun _ => True) (Vi (Shd.one s)) := by
 refine fn0 (nt := 17) (F0 := [(0, .agg #[.string s.name, Vi s.weight])]) Try.func70 rfl Try.ntmps70 rfl rfl (fun w0 hpre => ?_)
 refine c_seq (c_region ?_)
 refine o_box (v := .agg #[.string s.name, Vi s.weight]) rfl rfl (fun B1 => ?_)
 refine o_as rfl rfl ?_
 refine o_nil (q_then (c_seq (c_block (c_seq (c_region ?_)))))
 refine o_p (p_fieldAddr (j' := 1) rfl fo50_1 rfl) ?_
 refine o_p (p_load (i := 0) (v := Vi s.weight) rfl rfl sh3 rfl) ?_
 refine o_p (p_lt rfl rfl) ?_
 refine o_mv rfl rfl ?_
 refine o_or (p := 11) 4 (decide (8 < s.weight)) ?_ ?_ ?_
 ·intro hb2 hk
  simp only [decide_eq_false_iff_not, Int.not_lt] at hb2
  refine o_unguard 7 rfl rfl ?_
  refine o_p (p_fieldAddr (j' := 1) rfl fo50_1 rfl) ?_
  refine o_unguard 7 rfl rfl ?_
  refine o_p (p_load (i := 0) (v := Vi s.weight) rfl rfl sh3 rfl) ?_
  refine o_unguard 7 rfl rfl ?_
  refine o_p (p_gt rfl rfl) ?_
  refine o_pf rfl rfl rfl ?_
  exact o_sub (sr (Sub.skip rfl (Sub.skip rfl (Sub.skip rfl (Sub.skip rfl (Sub.skip rfl (Sub.refl _))))))) hk
 ·intro hb2 hk
  refine o_guard_no rfl 7 rfl rfl rfl rfl rfl ?_
  refine o_guard_no rfl 7 rfl rfl rfl rfl rfl ?_
  refine o_guard_no rfl 7 rfl rfl rfl rfl rfl ?_
  refine o_pt rfl rfl rfl ?_
  exact o_sub (sr (Sub.skip rfl (Sub.skip rfl (Sub.skip rfl (Sub.skip rfl (Sub.skip rfl (Sub.refl _))))))) hk
 refine o_as rfl rfl ?_
 refine o_nil (q_then ?_)
 refine c_cond rfl (fun hc3 => ?_) (fun hc3 => ?_)
 ·simp only [Bool.or_eq_true, decide_eq_true_eq] at hc3
  refine c_seq (c_region ?_)
  refine o_as rfl rfl ?_
  refine o_nil (q_then (c_ret ?_))
  refine q_block_ret (q_then_ret ?_)
  have hr0 : (3 : Int) = (Shd.one s) := by
   first | exact Shd.one1 (by omega) | exact Shd.one2 (by omega) (by omega) | exact Shd.one3 (by omega) (by omega)
  refine q_end0 (v := Vi 3) (rt1 rfl (r_tmp rfl)) (i := 1) rfl ?_
  exact (by have hcc := congrArg (fun (y0 : Int) => (.int .i64 y0 : Value)) hr0; exact hcc)
 ·simp only [Bool.or_eq_false_iff, decide_eq_false_iff_not, Int.not_lt] at hc3
  refine c_seq (c_region ?_)
  refine o_p (p_fieldAddr (j' := 0) rfl fo50_0 rfl) ?_
  refine o_p (p_load (i := 0) (v := .string s.name) rfl rfl sh9 rfl) ?_
  refine o_p (p_len_string rfl rfl Try.underlying9) ?_
  refine o_p (p_gt rfl rfl) ?_
  refine o_as rfl rfl ?_
  refine o_nil (q_then ?_)
  refine c_cond rfl (fun hc4 => ?_) (fun hc4 => ?_)
  ·simp only [decide_eq_true_eq] at hc4
   refine c_seq (c_region ?_)
   refine o_as rfl rfl ?_
   refine o_nil (q_then (c_ret ?_))
   refine q_block_ret (q_then_ret ?_)
   have hr0 : (2 : Int) = (Shd.one s) := by
    first | exact Shd.one1 (by omega) | exact Shd.one2 (by omega) (by omega) | exact Shd.one3 (by omega) (by omega)
   refine q_end0 (v := Vi 2) (rt1 rfl (r_tmp rfl)) (i := 1) rfl ?_
   exact (by have hcc := congrArg (fun (y0 : Int) => (.int .i64 y0 : Value)) hr0; exact hcc)
  ·simp only [decide_eq_false_iff_not, Int.not_lt] at hc4
   refine c_skip ?_
   refine q_block_normal (q_then ?_)
   refine c_seq (c_region ?_)
   refine o_as rfl rfl ?_
   refine o_nil (q_then (c_ret ?_))
   have hr0 : (0 : Int) = (Shd.one s) := by
    first | exact Shd.one1 (by omega) | exact Shd.one2 (by omega) (by omega) | exact Shd.one3 (by omega) (by omega)
   refine q_end0 (v := Vi 0) (rt1 rfl (r_tmp rfl)) (i := 1) rfl ?_
   exact (by have hcc := congrArg (fun (y0 : Int) => (.int .i64 y0 : Value)) hr0; exact hcc)

set_option maxHeartbeats 8000000 in
set_option maxRecDepth 100000 in
theorem scheck_ok (l : List DShard) (al : Option Addr) (cl : Nat) : Fn0 Try.prog 38 [.slice al l.length cl] (fun w => Rd tShard w al cl l) (Vi (Shd.check l)) := by
 refine fn0 (nt := 37) (F0 := [(0, .slice al l.length cl)]) Try.func38 rfl Try.ntmps38 rfl rfl (fun w0 hpre => ?_)
 have hl := hpre
 have hlhl := hl.2.1
 refine c_seq (c_region ?_)
 refine o_as rfl rfl ?_
 refine o_nil (q_then (c_seq (c_seq (c_region ?_))))
 refine o_mv rfl rfl ?_
 refine o_p (p_len_slice rfl rfl Try.underlying43) ?_
 refine o_p (p_gt rfl rfl) ?_
 refine o_nil (q_then ?_)
 refine c_cond rfl (fun hc1 => ?_) (fun hc1 => ?_)
 ·simp only [decide_eq_true_eq] at hc1
  refine c_seq (c_region ?_)
  refine o_as rfl rfl ?_
  refine o_nil (q_then (c_ret ?_))
  refine q_then_ret ?_
  have hr0 : (2 : Int) = (Shd.check l) := by
   first | exact Shd.many (by omega) | exact hI1.bad (by omega) (by omega) (by assumption) | exact hI1.twice (by omega) (by omega) (by assumption) ((hI2 _).1 (by assumption)) | exact hI1.done (by omega) (by omega)
  refine q_end0 (v := Vi 2) (rt1 rfl (r_tmp rfl)) (i := 0) rfl ?_
  exact (by have hcc := congrArg (fun (y0 : Int) => (.int .i64 y0 : Value)) hr0; exact hcc)
 ·simp only [decide_eq_false_iff_not, Int.not_lt] at hc1
  refine c_skip (q_then (c_seq (c_region ?_)))
  refine o_makeMap (ν := Unit) kStr (fun _ => .agg #[]) rfl (fun B2 => ?_)
  refine o_as rfl rfl ?_
  refine o_nil (q_then (c_seq (c_seq (c_region ?_))))
  refine o_mv rfl rfl ?_
  refine o_p (p_len_slice rfl rfl Try.underlying43) ?_
  refine o_mv rfl rfl ?_
  refine o_nil (q_then (c_block ?_))
  refine c_loop (St := Nat × List (ByteArray × Unit))
   (fun ⟨k, m⟩ => [(3, .map (some B2)), (13, .slice al l.length cl), (14, Vi (l.length : Int)), (15, Vi (k : Int))])
   (fun ⟨k, m⟩ => [mapE kStr (fun _ => .agg #[]) B2 m, base w0])
   (fun ⟨k, m⟩ => Shd.CI l k ∧ Shd.Seen m l k)
   (fun ⟨k, m⟩ => l.length - k)
   (0, []) ?_ (sr (sr (sr (sr (Sub.nil _))))) (fun _ hw => hw) ?_
  ·exact ⟨Shd.CI.start l, Shd.Seen.start l⟩
  rintro ⟨k, m⟩ hI K hK3
  obtain ⟨hI1, hI2⟩ := hI
  have hle := hI1.le
  show SC _ _ Try.prog 37 w0 _ _ [(3, .map (some B2)), (13, .slice al l.length cl), (14, Vi (l.length : Int)), (15, Vi (k : Int))] [mapE kStr (fun _ => .agg #[]) B2 m, base w0]
  refine c_seq (c_region ?_)
  refine o_p (p_lt rfl rfl) ?_
  refine o_nil (q_then (c_seq ?_))
  refine c_cond rfl (fun hc4 => ?_) (fun hc4 => ?_)
  ·simp only [decide_eq_true_eq] at hc4
   refine c_skip (q_then (c_seq (c_block (c_seq (c_region ?_)))))
   refine o_p (p_indexAddr (L := l) (T := tShard) (i := (k : Int)) rfl rfl (rd_base (i := 1) rfl hl) Try.underlying43 sz50 (by omega) (by omega)) ?_
   refine o_p (p_loadEn (i := k) (T := tShard) (L := l) (vs := [.string ((l[k]).name), Vi ((l[k]).weight)]) rfl (rd_base (i := 1) rfl hl) (by first | assumption | omega) sh50 rfl) ?_
   refine o_alloc ze50 rfl (fun B5 => ?_)
   refine o_storeN (i := 0) (vs := [.string ((l[k]).name), Vi ((l[k]).weight)]) (cs' := [.string ((l[k]).name), Vi ((l[k]).weight)]) rfl rfl rfl sz50 rfl rfl rfl rfl ?_
   refine o_nil (q_then (c_seq (c_seq (c_region ?_))))
   refine o_p (p_load_agg (i := 0) (vs := [.string ((l[k]).name), Vi ((l[k]).weight)]) rfl rfl sh50 rfl rfl) ?_
   refine o_call0 (v := Vi (Shd.one (l[k]))) rfl (sright_ok (l[k])) hf70 (fun _ _ => trivial) rfl ?_
   refine o_as rfl rfl ?_
   refine o_nil (q_then (c_seq (c_region ?_)))
   refine o_mv rfl rfl ?_
   refine o_p (p_ne rfl rfl) ?_
   refine o_nil (q_then ?_)
   refine c_cond rfl (fun hc6 => ?_) (fun hc6 => ?_)
   ·simp only [bne_iff_ne, ne_eq] at hc6
    refine c_seq (c_region ?_)
    refine o_mv rfl rfl ?_
    refine o_as rfl rfl ?_
    refine o_nil (q_then (c_ret ?_))
    refine q_then_ret (q_block_ret (q_then_ret (q_then_ret (q_block_ret (q_then_ret ?_)))))
    have hr0 : ((Shd.one (l[k])) : Int) = (Shd.check l) := by
     first | exact Shd.many (by omega) | exact hI1.bad (by omega) (by omega) (by assumption) | exact hI1.twice (by omega) (by omega) (by assumption) ((hI2 _).1 (by assumption)) | exact hI1.done (by omega) (by omega)
    refine q_end0 (v := Vi (Shd.one (l[k]))) (rt1 rfl (r_tmp rfl)) (i := 2) rfl ?_
    exact (by have hcc := congrArg (fun (y0 : Int) => (.int .i64 y0 : Value)) hr0; exact hcc)
   ·simp only [bne_eq_false_iff_eq] at hc6
    refine c_skip (q_then (c_seq (c_seq (c_region ?_))))
    refine o_mv rfl rfl ?_
    refine o_p (p_fieldAddr (j' := 0) rfl fo50_0 rfl) ?_
    refine o_p (p_load (i := 0) (v := .string ((l[k]).name)) rfl rfl sh9 rfl) ?_
    refine o_p (p_lookup2 (i := 1) (K := kStr) (ve := (fun _ => .agg #[])) (m := m) (k := (l[k]).name) (dflt := ()) rfl rfl rfl Try.underlying99 Try.underlying9 zv101) ?_
    refine o_mv rfl rfl ?_
    refine o_ex rfl rfl rfl ?_
    refine o_ex rfl rfl rfl ?_
    refine o_alloc ze101 rfl (fun B7 => ?_)
    refine o_storeN (i := 0) (vs := []) (cs' := []) rfl rfl rfl sz101 rfl rfl rfl rfl ?_
    refine o_as rfl rfl ?_
    refine o_nil (q_then (c_seq (c_region ?_)))
    refine o_mv rfl rfl ?_
    refine o_nil (q_then ?_)
    refine c_cond rfl (fun hc8 => ?_) (fun hc8 => ?_)
    ·skip
     refine c_seq (c_region ?_)
     refine o_as rfl rfl ?_
     refine o_nil (q_then (c_ret ?_))
     refine q_then_ret (q_block_ret (q_then_ret (q_then_ret (q_block_ret (q_then_ret ?_)))))
     have hr0 : (6 : Int) = (Shd.check l) := by
      first | exact Shd.many (by omega) | exact hI1.bad (by omega) (by omega) (by assumption) | exact hI1.twice (by omega) (by omega) (by assumption) ((hI2 _).1 (by assumption)) | exact hI1.done (by omega) (by omega)
     refine q_end0 (v := Vi 6) (rt1 rfl (r_tmp rfl)) (i := 3) rfl ?_
     exact (by have hcc := congrArg (fun (y0 : Int) => (.int .i64 y0 : Value)) hr0; exact hcc)
    ·skip
     refine c_skip (q_then (c_region ?_))
     refine o_mv rfl rfl ?_
     refine o_p (p_fieldAddr (j' := 0) rfl fo50_0 rfl) ?_
     refine o_p (p_load (i := 1) (v := .string ((l[k]).name)) rfl rfl sh9 rfl) ?_
     refine o_p (p_build (cells := []) fp101 ze101 rfl rfl) ?_
     refine o_mapUpdate (i := 2) (K := kStr) (ve := (fun _ => .agg #[])) (m := m) (k := (l[k]).name) (v := ()) rfl rfl rfl rfl Try.underlying99 Try.underlying9 ?_
     refine o_nil ?_
     refine q_block_normal (q_then ?_)
     refine c_region ?_
     refine o_p (p_addb rfl rfl (by omega)) ?_
     refine o_mv rfl rfl ?_
     refine o_nil ?_
     refine q_round hK3 (k + 1, (AL.set m ((l[k]).name) ())) ?_ ?_ ?_ ?_
     ·clear hK3
      exact ⟨hI1.next (by omega) (by assumption) (hI2.no (by assumption)), hI2.next (by omega) _⟩
     ·(try dsimp only); omega
     ·exact sr (sr (sr (sr (Sub.nil _))))
     ·exact pk [2, 3]
  ·simp only [decide_eq_false_iff_not, Int.not_lt] at hc4
   refine c_exit ?_
   refine q_then_exit (q_then_exit (q_block_exit (q_then ?_)))
   refine c_seq (c_region ?_)
   refine o_as rfl rfl ?_
   refine o_nil (q_then (c_ret ?_))
   have hr0 : (0 : Int) = (Shd.check l) := by
    first | exact Shd.many (by omega) | exact hI1.bad (by omega) (by omega) (by assumption) | exact hI1.twice (by omega) (by omega) (by assumption) ((hI2 _).1 (by assumption)) | exact hI1.done (by omega) (by omega)
   refine q_end0 (v := Vi 0) (rt1 rfl (r_tmp rfl)) (i := 1) rfl ?_
   exact (by have hcc := congrArg (fun (y0 : Int) => (.int .i64 y0 : Value)) hr0; exact hcc)

set_option maxHeartbeats 8000000 in
set_option maxRecDepth 100000 in
theorem sscore_ok (s : DShard) (key : UInt64) (hy1 : s.name.size ≤ 40 ∧ s.weight ≤ 8) : Fn0 Try.prog 71 [.agg #[.string s.name, Vi s.weight], .int .u64 (key.toNat : Int)] (fun _ => True) (.int .u64 ((Shd.score s key).toNat : Int)) := by
 refine fn0 (nt := 27) (F0 := [(0, .agg #[.string s.name, Vi s.weight]), (1, .int .u64 (key.toNat : Int))]) Try.func71 rfl Try.ntmps71 rfl rfl (fun w0 hpre => ?_)
 refine c_seq (c_region ?_)
 refine o_box (v := .agg #[.string s.name, Vi s.weight]) rfl rfl (fun B1 => ?_)
 refine o_as rfl rfl ?_
 refine o_nil (q_then (c_seq (c_region ?_)))
 refine o_p (p_fieldAddr (j' := 0) rfl fo50_0 rfl) ?_
 refine o_p (p_load (i := 0) (v := .string s.name) rfl rfl sh9 rfl) ?_
 refine o_call0 (v := .int .u64 ((Hash.raw s.name).toNat : Int)) rfl (raw_ok s.name) hf72 (fun w hw => (by first | assumption | omega | decide | (rw [ByteArray.size_append]; omega) | simp)) rfl ?_
 refine o_as rfl rfl ?_
 refine o_nil (q_then (c_seq (c_seq (c_region ?_))))
 refine o_p (p_fieldAddr (j' := 1) rfl fo50_1 rfl) ?_
 refine o_p (p_load (i := 0) (v := Vi s.weight) rfl rfl sh3 rfl) ?_
 refine o_mv rfl rfl ?_
 refine o_nil (q_then (c_block ?_))
 refine c_loop (St := UInt64 × Nat)
  (fun ⟨best, k⟩ => [(1, .int .u64 (key.toNat : Int)), (4, .int .u64 (best.toNat : Int)), (5, .int .u64 ((Hash.raw s.name).toNat : Int)), (11, Vi s.weight), (12, Vi (k : Int))])
  (fun ⟨best, k⟩ => [box B1 [.string s.name, Vi s.weight] 50, base w0])
  (fun ⟨best, k⟩ => k ≤ s.weight.toNat ∧ best = Shd.scoreTo s key k)
  (fun ⟨best, k⟩ => s.weight.toNat - k)
  ((0 : UInt64), 0) ?_ (sr (sr (sr (sr (sr (Sub.nil _)))))) (fun _ hw => hw) ?_
 ·exact ⟨Nat.zero_le _, rfl⟩
 rintro ⟨best, k⟩ hI K hK2
 show SC _ _ Try.prog 27 w0 _ _ [(1, .int .u64 (key.toNat : Int)), (4, .int .u64 (best.toNat : Int)), (5, .int .u64 ((Hash.raw s.name).toNat : Int)), (11, Vi s.weight), (12, Vi (k : Int))] [box B1 [.string s.name, Vi s.weight] 50, base w0]
 refine c_seq (c_region ?_)
 refine o_p (p_lt rfl rfl) ?_
 refine o_nil (q_then (c_seq ?_))
 refine c_cond rfl (fun hc3 => ?_) (fun hc3 => ?_)
 ·simp only [decide_eq_true_eq] at hc3
  refine c_skip (q_then (c_seq (c_block (c_seq (c_region ?_)))))
  refine o_mv rfl rfl ?_
  refine o_as rfl rfl ?_
  refine o_nil (q_then (c_region ?_))
  refine o_mv rfl rfl ?_
  refine o_mv rfl rfl ?_
  refine o_mv rfl rfl ?_
  refine o_mv rfl rfl ?_
  refine o_p (pu_conv (z := (k : Int)) rfl Try.underlying3 Try.underlying59) ?_
  refine o_p (pu_xor (p := (Hash.raw s.name)) (q := (toU (k : Int))) rfl rfl) ?_
  refine o_call0 (v := .int .u64 ((Hash.mix ((Hash.raw s.name) ^^^ (toU (k : Int)))).toNat : Int)) rfl (mix_ok ((Hash.raw s.name) ^^^ (toU (k : Int)))) hf92 (fun _ _ => trivial) rfl ?_
  refine o_p (pu_xor (p := key) (q := (Hash.mix ((Hash.raw s.name) ^^^ (toU (k : Int))))) rfl rfl) ?_
  refine o_call0 (v := .int .u64 ((Hash.mix (key ^^^ (Hash.mix ((Hash.raw s.name) ^^^ (toU (k : Int)))))).toNat : Int)) rfl (mix_ok (key ^^^ (Hash.mix ((Hash.raw s.name) ^^^ (toU (k : Int)))))) hf92 (fun _ _ => trivial) rfl ?_
  refine o_p (pu_max (p := best) (q := (Hash.mix (key ^^^ (Hash.mix ((Hash.raw s.name) ^^^ (toU (k : Int))))))) rfl rfl) ?_
  refine o_as rfl rfl ?_
  refine o_nil ?_
  refine q_block_normal (q_then ?_)
  refine c_region ?_
  refine o_p (p_addb rfl rfl (by omega)) ?_
  refine o_mv rfl rfl ?_
  refine o_nil ?_
  refine q_round hK2 ((mxU best (Hash.mix (key ^^^ (Hash.mix ((Hash.raw s.name) ^^^ (toU (k : Int))))))), k + 1) ?_ ?_ ?_ ?_
  ·clear hK2
   exact ⟨by omega, by rw [hI.2]; rfl⟩
  ·(try dsimp only); omega
  ·exact sr (sr (sr (sr (sr (Sub.nil _)))))
  ·exact pk [0, 1]
 ·simp only [decide_eq_false_iff_not, Int.not_lt] at hc3
  refine c_exit ?_
  refine q_then_exit (q_then_exit (q_block_exit (q_then ?_)))
  refine c_seq (c_region ?_)
  refine o_mv rfl rfl ?_
  refine o_as rfl rfl ?_
  refine o_nil (q_then (c_ret ?_))
  have hr0 : (best : UInt64) = (Shd.score s key) := by
   exact Shd.score_end hI.2 (by omega) hI.1
  refine q_end0 (v := .int .u64 (best.toNat : Int)) (rt1 rfl (r_tmp rfl)) (i := 1) rfl ?_
  exact (by have hcc := congrArg (fun (y0 : UInt64) => (.int .u64 (y0.toNat : Int) : Value)) hr0; exact hcc)
end Go.Proofs.Ythecfjipaepcgaa

/- The walks, printed by a program from the translation and a specification. -/
namespace Go.Proofs.Ythecfjipaepcgaa
open Go.Sx Go.RowKit
set_option maxHeartbeats 8000000 in
set_option maxRecDepth 100000 in
theorem ranked1_ok (a : Int) (b : Int) (Bq : Nat) (q : List DShard) (aq : Option Addr) (cq : Nat) (Bn : Nat) (nn : UInt64) (hy1 : Shd.Ok q ∧ (0 ≤ a ∧ a < (q.length : Int)) ∧ (0 ≤ b ∧ b < (q.length : Int))) : Fn0 Try.prog 96 [Vi a, Vi b, .pointer (some ⟨Bq, 0, none⟩), .pointer (some ⟨Bn, 0, none⟩)] (fun w => Rd tShard w aq cq q ∧ (box Bq [.slice aq q.length cq] 43).A w ∧ (box Bn [.int .u64 (nn.toNat : Int)] 59).A w) (Vi (Shd.cmp q nn a b)) := by
 refine fn0 (nt := 20) (F0 := [(0, Vi a), (1, Vi b), (2, .pointer (some ⟨Bq, 0, none⟩)), (3, .pointer (some ⟨Bn, 0, none⟩))]) Try.func96 rfl Try.ntmps96 rfl rfl (fun w0 hpre => ?_)
 obtain ⟨hq, hBq, hBn⟩ := hpre
 have hlhq := hq.2.1
 refine c_seq (c_region ?_)
 refine o_as rfl rfl ?_
 refine o_nil (q_then (c_seq ?_))
 refine c_draw hmix (by kernel_rfl) ?_
 refine w_p (p_loadR (v := .slice aq q.length cq) rfl (rbox_base (i := 0) rfl hBq) sh43 rfl) ?_
 refine w_mv rfl rfl ?_
 refine w_p (p_indexAddr (L := q) (T := tShard) (i := b) rfl rfl (rd_base (i := 0) rfl hq) Try.underlying43 sz50 (by omega) (by omega)) ?_
 refine w_p (p_loadEn (i := b.toNat) (T := tShard) (L := q) (vs := [.string ((q.getD b.toNat default).name), Vi ((q.getD b.toNat default).weight)]) rfl (rd_base (i := 0) rfl hq) (by first | assumption | omega) sh50 (congrArg tShard.enc (getd_at (by first | assumption | omega) default))) ?_
 refine w_p (p_loadR (v := .int .u64 (nn.toNat : Int)) rfl (rbox_base (i := 0) rfl hBn) sh59 rfl) ?_
 refine w_call0 (v := .int .u64 ((Shd.score (q.getD b.toNat default) nn).toNat : Int)) rfl (sscore_ok (q.getD b.toNat default) nn (by first | assumption | (have h9 := hy1.1.getd (i := a.toNat) (by omega); omega) | (have h9 := hy1.1.getd (i := b.toNat) (by omega); omega) | (have h9 := Shd.one_ok.1 (by assumption); omega) | (have h9 := Shd.one_ok.1 (And.left (by assumption)); omega))) hf71 (fun _ _ => trivial) rfl ?_
 refine w_p (p_loadR (v := .slice aq q.length cq) rfl (rbox_base (i := 0) rfl hBq) sh43 rfl) ?_
 refine w_mv rfl rfl ?_
 refine w_p (p_indexAddr (L := q) (T := tShard) (i := a) rfl rfl (rd_base (i := 0) rfl hq) Try.underlying43 sz50 (by omega) (by omega)) ?_
 refine w_p (p_loadEn (i := a.toNat) (T := tShard) (L := q) (vs := [.string ((q.getD a.toNat default).name), Vi ((q.getD a.toNat default).weight)]) rfl (rd_base (i := 0) rfl hq) (by first | assumption | omega) sh50 (congrArg tShard.enc (getd_at (by first | assumption | omega) default))) ?_
 refine w_p (p_loadR (v := .int .u64 (nn.toNat : Int)) rfl (rbox_base (i := 0) rfl hBn) sh59 rfl) ?_
 refine w_call0 (v := .int .u64 ((Shd.score (q.getD a.toNat default) nn).toNat : Int)) rfl (sscore_ok (q.getD a.toNat default) nn (by first | assumption | (have h9 := hy1.1.getd (i := a.toNat) (by omega); omega) | (have h9 := hy1.1.getd (i := b.toNat) (by omega); omega) | (have h9 := Shd.one_ok.1 (by assumption); omega) | (have h9 := Shd.one_ok.1 (And.left (by assumption)); omega))) hf71 (fun _ _ => trivial) rfl ?_
 refine w_call0 (v := Vi (cmpU (Shd.score (q.getD b.toNat default) nn) (Shd.score (q.getD a.toNat default) nn))) rfl (compareU_ok (Shd.score (q.getD b.toNat default) nn) (Shd.score (q.getD a.toNat default) nn)) hf97 (fun _ _ => trivial) rfl ?_
 refine w_p (p_assign rfl) ?_
 refine w_nil (q_then (c_ret ?_))
 have hr0 : ((cmpU (Shd.score (q.getD b.toNat default) nn) (Shd.score (q.getD a.toNat default) nn)) : Int) = (Shd.cmp q nn a b) := by
  rfl
 refine q_end0 (v := Vi (cmpU (Shd.score (q.getD b.toNat default) nn) (Shd.score (q.getD a.toNat default) nn))) (rt1 rfl (r_tmp rfl)) (i := 0) rfl ?_
 exact (by have hcc := congrArg (fun (y0 : Int) => (.int .i64 y0 : Value)) hr0; exact hcc)

set_option maxHeartbeats 8000000 in
set_option maxRecDepth 100000 in
theorem insSort_ok (l : List Int) (al : Option Addr) (cl : Nat) (Sl : Nat → Prop) (a : Int) (b : Int) (Bq : Nat) (q : List DShard) (aq : Option Addr) (cq : Nat) (Bn : Nat) (nn : UInt64) (hy1 : (a = 0 ∨ a = (l.length : Int)) ∧ b = (l.length : Int) ∧ l.length ≤ 20) (hy2 : Shd.Ok q ∧ ∀ x ∈ l, 0 ≤ x ∧ x < (q.length : Int)) : FnX Try.prog 122 [.slice al l.length cl, Vi a, Vi b, .func (.func 96) #[] #[.pointer (some ⟨Bq, 0, none⟩), .pointer (some ⟨Bn, 0, none⟩)]] [own tInt Sl al cl l] (fun w => SlR tShard (outer w [own tInt Sl al cl l]).S w aq cq q ∧ ((box Bq [.slice aq q.length cq] 43).A w ∧ (outer w [own tInt Sl al cl l]).S Bq) ∧ ((box Bn [.int .u64 (nn.toNat : Int)] 59).A w ∧ (outer w [own tInt Sl al cl l]).S Bn)) (Unit) (fun p => .tuple #[]) (fun p => [own tInt Sl al cl (if a = 0 then St.isort (Shd.cmp q nn) l else l)]) := by
 refine fnX (nt := 53) (F0 := [(0, .slice al l.length cl), (1, Vi a), (2, Vi b), (3, .func (.func 96) #[] #[.pointer (some ⟨Bq, 0, none⟩), .pointer (some ⟨Bn, 0, none⟩)])]) Try.func122 rfl Try.ntmps122 rfl rfl (fun w0 hpre => ?_)
 obtain ⟨hq, hBq, hBn⟩ := hpre
 have hlhq := hq.2.1
 refine c_know (fun w hw => own_len (i := 1) (T := tInt) hw rfl) (fun hlown_l => ?_)
 obtain ⟨hcown_l, hlown_l⟩ := hlown_l
 refine c_seq (c_region ?_)
 refine o_mv rfl rfl ?_
 refine o_p (p_addb rfl rfl (by omega)) ?_
 refine o_as rfl rfl ?_
 refine o_nil (q_then (c_block ?_))
 refine c_loop (St := Int × List Int)
  (fun ⟨i, ls⟩ => [(0, .slice al ls.length cl), (1, Vi a), (2, Vi b), (3, .func (.func 96) #[] #[.pointer (some ⟨Bq, 0, none⟩), .pointer (some ⟨Bn, 0, none⟩)]), (8, Vi i)])
  (fun ⟨i, ls⟩ => [outer w0 [own tInt Sl al cl l], own tInt Sl al cl ls])
  (fun ⟨i, ls⟩ => St.OI (Shd.cmp q nn) l a ls i)
  (fun ⟨i, ls⟩ => (b - i).toNat)
  ((a + 1), l) ?_ (sr (sr (sr (sr (sr (Sub.nil _)))))) (fun _ hw => hw) ?_
 ·exact St.OI.start (by omega)
 rintro ⟨i, ls⟩ hI K hK1
 have hO := hI
 have hOl := hI.len
 have hOlo := hI.lo
 show SC _ _ Try.prog 53 w0 _ _ [(0, .slice al ls.length cl), (1, Vi a), (2, Vi b), (3, .func (.func 96) #[] #[.pointer (some ⟨Bq, 0, none⟩), .pointer (some ⟨Bn, 0, none⟩)]), (8, Vi i)] [outer w0 [own tInt Sl al cl l], own tInt Sl al cl ls]
 refine c_seq (c_seq (c_region ?_))
 refine o_mv rfl rfl ?_
 refine o_mv rfl rfl ?_
 refine o_p (p_lt rfl rfl) ?_
 refine o_nil (q_then ?_)
 refine c_cond rfl (fun hc2 => ?_) (fun hc2 => ?_)
 ·simp only [decide_eq_true_eq] at hc2
  refine c_skip (q_then (c_seq (c_block (c_seq (c_region ?_)))))
  refine o_mv rfl rfl ?_
  refine o_as rfl rfl ?_
  refine o_nil (q_then (c_block ?_))
  refine c_loop (St := Int × List Int)
   (fun ⟨j, lt⟩ => [(0, .slice al lt.length cl), (1, Vi a), (2, Vi b), (3, .func (.func 96) #[] #[.pointer (some ⟨Bq, 0, none⟩), .pointer (some ⟨Bn, 0, none⟩)]), (8, Vi i), (9, Vi j)])
   (fun ⟨j, lt⟩ => [outer w0 [own tInt Sl al cl l], own tInt Sl al cl lt])
   (fun ⟨j, lt⟩ => St.II (Shd.cmp q nn) l a lt i j)
   (fun ⟨j, lt⟩ => j.toNat)
   (i, ls) ?_ (sr (sr (sr (sr (sr (sr (Sub.nil _))))))) (fun _ hw => hw) ?_
  ·exact St.II.start hO (by omega) (by omega)
  rintro ⟨j, lt⟩ hI K hK3
  have hIl := hI.len
  have hI0 := hI.a0
  have hI1 := hI.jlo
  have hI2 := hI.jhi
  have hI3 := hI.ilt
  show SC _ _ Try.prog 53 w0 _ _ [(0, .slice al lt.length cl), (1, Vi a), (2, Vi b), (3, .func (.func 96) #[] #[.pointer (some ⟨Bq, 0, none⟩), .pointer (some ⟨Bn, 0, none⟩)]), (8, Vi i), (9, Vi j)] [outer w0 [own tInt Sl al cl l], own tInt Sl al cl lt]
  refine c_seq (c_seq ?_)
  refine c_draw hmix (by kernel_rfl) ?_
  refine w_mv rfl rfl ?_
  refine w_mv rfl rfl ?_
  refine w_p (p_gt rfl rfl) ?_
  refine w_mv rfl rfl ?_
  refine w_and (p := 34) 13 (decide ((Shd.cmp q nn (lt.getD j.toNat default) (lt.getD ((j - 1).toNat) default)) < 0)) ?_ ?_ ?_
  ·intro hb4 hk
   simp only [decide_eq_true_eq] at hb4
   refine w_unguard 21 rfl rfl ?_
   refine w_mv rfl rfl ?_
   refine w_unguard 21 rfl rfl ?_
   refine w_mv rfl rfl ?_
   refine w_unguard 21 rfl rfl ?_
   refine w_mv rfl rfl ?_
   refine w_unguard 21 rfl rfl ?_
   refine w_p (p_indexAddr (L := lt) (T := tInt) (i := j) rfl rfl (rd_own (i := 1) rfl) Try.underlying45 sz3 (by omega) (by omega)) ?_
   refine w_unguard 21 rfl rfl ?_
   refine w_p (p_loadE1 (i := j.toNat) (T := tInt) (L := lt) (v := Vi (lt.getD j.toNat default)) rfl (rd_own (i := 1) rfl) (by first | assumption | omega) sh3 (congrArg tInt.enc (getd_at (by first | assumption | omega) default))) ?_
   refine w_unguard 21 rfl rfl ?_
   refine w_mv rfl rfl ?_
   refine w_unguard 21 rfl rfl ?_
   refine w_mv rfl rfl ?_
   refine w_unguard 21 rfl rfl ?_
   refine w_p (p_subb rfl rfl (by omega)) ?_
   refine w_unguard 21 rfl rfl ?_
   refine w_p (p_indexAddr (L := lt) (T := tInt) (i := (j - 1)) rfl rfl (rd_own (i := 1) rfl) Try.underlying45 sz3 (by omega) (by omega)) ?_
   refine w_unguard 21 rfl rfl ?_
   refine w_p (p_loadE1 (i := (j - 1).toNat) (T := tInt) (L := lt) (v := Vi (lt.getD ((j - 1).toNat) default)) rfl (rd_own (i := 1) rfl) (by first | assumption | omega) sh3 (congrArg tInt.enc (getd_at (by first | assumption | omega) default))) ?_
   refine w_unguard 21 rfl rfl ?_
   refine w_call0V (vs := [Vi (lt.getD j.toNat default), Vi (lt.getD ((j - 1).toNat) default)]) (caps := [.pointer (some ⟨Bq, 0, none⟩), .pointer (some ⟨Bn, 0, none⟩)]) (v := Vi (Shd.cmp q nn (lt.getD j.toNat default) (lt.getD ((j - 1).toNat) default))) rfl rfl (ranked1_ok (lt.getD j.toNat default) (lt.getD ((j - 1).toNat) default) Bq q aq cq Bn nn (by first | assumption | exact ⟨hy2.1, hI.both hy2.2 (by omega)⟩)) hf96 (fun w hw => ⟨(rd_outer (i := 0) rfl hq) w hw, rbox_outer (i := 0) rfl hBq w hw, rbox_outer (i := 0) rfl hBn w hw⟩) rfl ?_
   refine w_unguard 21 rfl rfl ?_
   refine w_p (p_lt rfl rfl) ?_
   refine w_pt rfl rfl rfl ?_
   exact w_sub (sr (Sub.skip rfl (Sub.skip rfl (Sub.skip rfl (Sub.skip rfl (Sub.skip rfl (Sub.skip rfl (Sub.skip rfl (Sub.skip rfl (Sub.skip rfl (Sub.skip rfl (Sub.skip rfl (Sub.skip rfl (Sub.skip rfl (Sub.skip rfl (Sub.refl _)))))))))))))))) hk
  ·intro hb4 hk
   refine w_guard_no rfl 21 rfl rfl rfl rfl rfl ?_
   refine w_guard_no rfl 21 rfl rfl rfl rfl rfl ?_
   refine w_guard_no rfl 21 rfl rfl rfl rfl rfl ?_
   refine w_guard_no rfl 21 rfl rfl rfl rfl rfl ?_
   refine w_guard_no rfl 21 rfl rfl rfl rfl rfl ?_
   refine w_guard_no rfl 21 rfl rfl rfl rfl rfl ?_
   refine w_guard_no rfl 21 rfl rfl rfl rfl rfl ?_
   refine w_guard_no rfl 21 rfl rfl rfl rfl rfl ?_
   refine w_guard_no rfl 21 rfl rfl rfl rfl rfl ?_
   refine w_guard_no rfl 21 rfl rfl rfl rfl rfl ?_
   refine w_guard_no rfl 21 rfl rfl rfl rfl rfl ?_
   refine w_guard_no rfl 21 rfl rfl rfl rfl rfl ?_
   refine w_pf rfl rfl rfl ?_
   exact w_sub (sr (Sub.skip rfl (Sub.skip rfl (Sub.skip rfl (Sub.skip rfl (Sub.skip rfl (Sub.skip rfl (Sub.skip rfl (Sub.skip rfl (Sub.skip rfl (Sub.skip rfl (Sub.skip rfl (Sub.skip rfl (Sub.skip rfl (Sub.skip rfl (Sub.refl _)))))))))))))))) hk
  refine w_nil (q_then ?_)
  refine c_cond rfl (fun hc5 => ?_) (fun hc5 => ?_)
  ·simp only [Bool.and_eq_true, decide_eq_true_eq] at hc5
   have hgo := hc5
   refine c_skip (q_then (c_seq (c_block ?_)))
   refine c_cut (G := Unit) (fun _ => [(0, .slice al lt.length cl), (1, Vi a), (2, Vi b), (3, .func (.func 96) #[] #[.pointer (some ⟨Bq, 0, none⟩), .pointer (some ⟨Bn, 0, none⟩)]), (8, Vi i), (9, Vi j)]) (fun _ => [outer w0 [own tInt Sl al cl l], own tInt Sl al cl ((lt.set j.toNat (lt.getD ((j - 1).toNat) default)).set ((j - 1).toNat) (lt.getD j.toNat default))]) (fun K hK7 => ?_) ?_
   ·refine c_held hmix [outer w0 [own tInt Sl al cl l]] rfl rfl ?_
    refine h_tk (i := 0) (ls := #[T1,F0,F0,F0,F0,F0,F0,F0,F0,F0,F0,F0,F0,F0,F0,F0,F0,F0]) rfl (p_move rfl) (dp (lj (lz (ln)))) ?_
    refine h_tk (i := 1) (ls := #[T1,T1,F0,F0,F0,F0,F0,F0,F0,F0,F0,F0,F0,F0,F0,F0,F0,F0]) rfl (p_move rfl) (dp (lj (lz (ln)))) ?_
    refine h_tk (i := 2) (ls := #[T1,T1,T1,F0,F0,F0,F0,F0,F0,F0,F0,F0,F0,F0,F0,F0,F0,F0]) rfl (p_move rfl) (dp (lj (lz (ln)))) ?_
    refine h_tk (i := 3) (ls := #[T1,T1,T1,T1,F0,F0,F0,F0,F0,F0,F0,F0,F0,F0,F0,F0,F0,F0]) rfl (p_move rfl) (dp (lj (lz (ln)))) ?_
    refine h_tk (i := 4) (ls := #[T1,T1,T1,T1,T1,F0,F0,F0,F0,F0,F0,F0,F0,F0,F0,F0,F0,F0]) rfl (p_subb rfl rfl (by omega)) (dp (lj (lz (ln)))) ?_
    refine h_tk (i := 5) (ls := #[T1,T1,T1,T1,T1,T1,F0,F0,F0,F0,F0,F0,F0,F0,F0,F0,F0,F0]) rfl (p_move rfl) (dp (lj (lz (ln)))) ?_
    refine h_tk (i := 6) (ls := #[T1,T1,T1,T1,T1,T1,T1,F0,F0,F0,F0,F0,F0,F0,F0,F0,F0,F0]) rfl (p_move rfl) (dp (lj (lz (ln)))) ?_
    refine h_tk (i := 7) (ls := #[T1,T1,T1,T1,T1,T1,T1,T1,F0,F0,F0,F0,F0,F0,F0,F0,F0,F0]) rfl (p_subb rfl rfl (by omega)) (dp (lj (lz (ln)))) ?_
    refine h_tk (i := 10) (ls := #[T1,T1,T1,T1,T1,T1,T1,T1,F0,F0,T1,F0,F0,F0,F0,F0,F0,F0]) rfl (p_move rfl) (dp (lj (lz (ln)))) ?_
    refine h_tk (i := 11) (ls := #[T1,T1,T1,T1,T1,T1,T1,T1,F0,F0,T1,T1,F0,F0,F0,F0,F0,F0]) rfl (p_move rfl) (dp (lj (lz (ln)))) ?_
    refine h_two (i := 8) (j := 12) (ls := #[T1,T1,T1,T1,T1,T1,T1,T1,T1,F0,T1,T1,F0,F0,F0,F0,F0,F0]) (ls' := #[T1,T1,T1,T1,T1,T1,T1,T1,F0,F0,T1,T1,T1,F0,F0,F0,F0,F0]) (by kernel_rfl) rfl rfl rfl rfl ?_ ?_
    ·refine o_p (p_indexAddr (L := lt) (T := tInt) (i := (j - 1)) rfl rfl (rd_own (i := 1) rfl) Try.underlying45 sz3 (by omega) (by omega)) ?_
     refine o_nil ?_
     refine h_next (dp (lj (lz (ln)))) ?_
     refine h_two (i := 9) (j := 12) (ls := #[T1,T1,T1,T1,T1,T1,T1,T1,T1,T1,T1,T1,F0,F0,F0,F0,F0,F0]) (ls' := #[T1,T1,T1,T1,T1,T1,T1,T1,T1,F0,T1,T1,T1,F0,F0,F0,F0,F0]) (by kernel_rfl) rfl rfl rfl rfl ?_ ?_
     ·refine o_p (p_loadE1 (i := (j - 1).toNat) (T := tInt) (L := lt) (v := Vi (lt.getD ((j - 1).toNat) default)) rfl (rd_own (i := 1) rfl) (by first | assumption | omega) sh3 (congrArg tInt.enc (getd_at (by first | assumption | omega) default))) ?_
      refine o_nil ?_
      refine h_next (dp (lj (lz (ln)))) ?_
      refine h_one (i := 12) (ls := #[T1,T1,T1,T1,T1,T1,T1,T1,T1,T1,T1,T1,T1,F0,F0,F0,F0,F0]) (by kernel_rfl) rfl rfl ?_
      refine o_p (p_indexAddr (L := lt) (T := tInt) (i := j) rfl rfl (rd_own (i := 1) rfl) Try.underlying45 sz3 (by omega) (by omega)) ?_
      refine o_nil ?_
      refine h_next (dp (lj (lz (ln)))) ?_
      refine h_one (i := 13) (ls := #[T1,T1,T1,T1,T1,T1,T1,T1,T1,T1,T1,T1,T1,T1,F0,F0,F0,F0]) (by kernel_rfl) rfl rfl ?_
      refine o_p (p_loadE1 (i := j.toNat) (T := tInt) (L := lt) (v := Vi (lt.getD j.toNat default)) rfl (rd_own (i := 1) rfl) (by first | assumption | omega) sh3 (congrArg tInt.enc (getd_at (by first | assumption | omega) default))) ?_
      refine o_nil ?_
      refine h_next (dp (lj (lz (ln)))) ?_
      refine h_one (i := 14) (ls := #[T1,T1,T1,T1,T1,T1,T1,T1,T1,T1,T1,T1,T1,T1,T1,F0,F0,F0]) (by kernel_rfl) rfl rfl ?_
      refine o_p (p_indexAddr (L := lt) (T := tInt) (i := j) rfl rfl (rd_own (i := 1) rfl) Try.underlying45 sz3 (by omega) (by omega)) ?_
      refine o_nil ?_
      refine h_next (dp (lj (lz (ln)))) ?_
      refine h_one (i := 15) (ls := #[T1,T1,T1,T1,T1,T1,T1,T1,T1,T1,T1,T1,T1,T1,T1,T1,F0,F0]) (by kernel_rfl) rfl rfl ?_
      refine o_storeW (i := 1) (T := tInt) (idx := j.toNat) (v := Vi (lt.getD ((j - 1).toNat) default)) (vs := [Vi (lt.getD ((j - 1).toNat) default)]) (z := (lt.getD ((j - 1).toNat) default)) rfl rfl rfl rfl (by first | assumption | omega | (simp only [List.length_set]; omega)) sz3 rfl rfl rfl rfl (Sub.refl _) ?_
      refine o_nil ?_
      refine h_next (dp (lj (lz (ln)))) ?_
      refine h_one (i := 16) (ls := #[T1,T1,T1,T1,T1,T1,T1,T1,T1,T1,T1,T1,T1,T1,T1,T1,T1,F0]) (by kernel_rfl) rfl rfl ?_
      refine o_p (p_indexAddrS (T := tInt) (i := (j - 1)) (j := 1) (m := lt.length) rfl rfl rfl (by simp only [List.length_set]) Try.underlying45 sz3 (by omega) (by omega)) ?_
      refine o_nil ?_
      refine h_next (dp (lj (lz (ln)))) ?_
      refine h_one (i := 17) (ls := #[T1,T1,T1,T1,T1,T1,T1,T1,T1,T1,T1,T1,T1,T1,T1,T1,T1,T1]) (by kernel_rfl) rfl rfl ?_
      refine o_storeW (i := 1) (T := tInt) (idx := (j - 1).toNat) (v := Vi (lt.getD j.toNat default)) (vs := [Vi (lt.getD j.toNat default)]) (z := (lt.getD j.toNat default)) rfl rfl rfl rfl (by first | assumption | omega | (simp only [List.length_set]; omega)) sz3 rfl rfl rfl rfl (Sub.refl _) ?_
      refine o_nil ?_
      refine h_next (dp (lj (lz (ln)))) ?_
      refine h_done (by kernel_rfl) ?_
      refine q_kont hK7 () (sr (sr (sr (sr (sr (sr (Sub.nil _))))))) (pk [0, 1])
     ·refine o_p (p_indexAddr (L := lt) (T := tInt) (i := j) rfl rfl (rd_own (i := 1) rfl) Try.underlying45 sz3 (by omega) (by omega)) ?_
      refine o_nil ?_
      refine h_next (dp (lj (lz (ln)))) ?_
      refine h_two (i := 9) (j := 13) (ls := #[T1,T1,T1,T1,T1,T1,T1,T1,T1,T1,T1,T1,T1,F0,F0,F0,F0,F0]) (ls' := #[T1,T1,T1,T1,T1,T1,T1,T1,T1,F0,T1,T1,T1,T1,F0,F0,F0,F0]) (by kernel_rfl) rfl rfl rfl rfl ?_ ?_
      ·refine o_p (p_loadE1 (i := (j - 1).toNat) (T := tInt) (L := lt) (v := Vi (lt.getD ((j - 1).toNat) default)) rfl (rd_own (i := 1) rfl) (by first | assumption | omega) sh3 (congrArg tInt.enc (getd_at (by first | assumption | omega) default))) ?_
       refine o_nil ?_
       refine h_next (dp (lj (lz (ln)))) ?_
       refine h_one (i := 13) (ls := #[T1,T1,T1,T1,T1,T1,T1,T1,T1,T1,T1,T1,T1,T1,F0,F0,F0,F0]) (by kernel_rfl) rfl rfl ?_
       refine o_p (p_loadE1 (i := j.toNat) (T := tInt) (L := lt) (v := Vi (lt.getD j.toNat default)) rfl (rd_own (i := 1) rfl) (by first | assumption | omega) sh3 (congrArg tInt.enc (getd_at (by first | assumption | omega) default))) ?_
       refine o_nil ?_
       refine h_next (dp (lj (lz (ln)))) ?_
       refine h_one (i := 14) (ls := #[T1,T1,T1,T1,T1,T1,T1,T1,T1,T1,T1,T1,T1,T1,T1,F0,F0,F0]) (by kernel_rfl) rfl rfl ?_
       refine o_p (p_indexAddr (L := lt) (T := tInt) (i := j) rfl rfl (rd_own (i := 1) rfl) Try.underlying45 sz3 (by omega) (by omega)) ?_
       refine o_nil ?_
       refine h_next (dp (lj (lz (ln)))) ?_
       refine h_one (i := 15) (ls := #[T1,T1,T1,T1,T1,T1,T1,T1,T1,T1,T1,T1,T1,T1,T1,T1,F0,F0]) (by kernel_rfl) rfl rfl ?_
       refine o_storeW (i := 1) (T := tInt) (idx := j.toNat) (v := Vi (lt.getD ((j - 1).toNat) default)) (vs := [Vi (lt.getD ((j - 1).toNat) default)]) (z := (lt.getD ((j - 1).toNat) default)) rfl rfl rfl rfl (by first | assumption | omega | (simp only [List.length_set]; omega)) sz3 rfl rfl rfl rfl (Sub.refl _) ?_
       refine o_nil ?_
       refine h_next (dp (lj (lz (ln)))) ?_
       refine h_one (i := 16) (ls := #[T1,T1,T1,T1,T1,T1,T1,T1,T1,T1,T1,T1,T1,T1,T1,T1,T1,F0]) (by kernel_rfl) rfl rfl ?_
       refine o_p (p_indexAddrS (T := tInt) (i := (j - 1)) (j := 1) (m := lt.length) rfl rfl rfl (by simp only [List.length_set]) Try.underlying45 sz3 (by omega) (by omega)) ?_
       refine o_nil ?_
       refine h_next (dp (lj (lz (ln)))) ?_
       refine h_one (i := 17) (ls := #[T1,T1,T1,T1,T1,T1,T1,T1,T1,T1,T1,T1,T1,T1,T1,T1,T1,T1]) (by kernel_rfl) rfl rfl ?_
       refine o_storeW (i := 1) (T := tInt) (idx := (j - 1).toNat) (v := Vi (lt.getD j.toNat default)) (vs := [Vi (lt.getD j.toNat default)]) (z := (lt.getD j.toNat default)) rfl rfl rfl rfl (by first | assumption | omega | (simp only [List.length_set]; omega)) sz3 rfl rfl rfl rfl (Sub.refl _) ?_
       refine o_nil ?_
       refine h_next (dp (lj (lz (ln)))) ?_
       refine h_done (by kernel_rfl) ?_
       refine q_kont hK7 () (sr (sr (sr (sr (sr (sr (Sub.nil _))))))) (pk [0, 1])
      ·refine o_p (p_loadE1 (i := j.toNat) (T := tInt) (L := lt) (v := Vi (lt.getD j.toNat default)) rfl (rd_own (i := 1) rfl) (by first | assumption | omega) sh3 (congrArg tInt.enc (getd_at (by first | assumption | omega) default))) ?_
       refine o_nil ?_
       refine h_next (dp (lj (lz (ln)))) ?_
       refine h_one (i := 9) (ls := #[T1,T1,T1,T1,T1,T1,T1,T1,T1,T1,T1,T1,T1,T1,F0,F0,F0,F0]) (by kernel_rfl) rfl rfl ?_
       refine o_p (p_loadE1 (i := (j - 1).toNat) (T := tInt) (L := lt) (v := Vi (lt.getD ((j - 1).toNat) default)) rfl (rd_own (i := 1) rfl) (by first | assumption | omega) sh3 (congrArg tInt.enc (getd_at (by first | assumption | omega) default))) ?_
       refine o_nil ?_
       refine h_next (dp (lj (lz (ln)))) ?_
       refine h_one (i := 14) (ls := #[T1,T1,T1,T1,T1,T1,T1,T1,T1,T1,T1,T1,T1,T1,T1,F0,F0,F0]) (by kernel_rfl) rfl rfl ?_
       refine o_p (p_indexAddr (L := lt) (T := tInt) (i := j) rfl rfl (rd_own (i := 1) rfl) Try.underlying45 sz3 (by omega) (by omega)) ?_
       refine o_nil ?_
       refine h_next (dp (lj (lz (ln)))) ?_
       refine h_one (i := 15) (ls := #[T1,T1,T1,T1,T1,T1,T1,T1,T1,T1,T1,T1,T1,T1,T1,T1,F0,F0]) (by kernel_rfl) rfl rfl ?_
       refine o_storeW (i := 1) (T := tInt) (idx := j.toNat) (v := Vi (lt.getD ((j - 1).toNat) default)) (vs := [Vi (lt.getD ((j - 1).toNat) default)]) (z := (lt.getD ((j - 1).toNat) default)) rfl rfl rfl rfl (by first | assumption | omega | (simp only [List.length_set]; omega)) sz3 rfl rfl rfl rfl (Sub.refl _) ?_
       refine o_nil ?_
       refine h_next (dp (lj (lz (ln)))) ?_
       refine h_one (i := 16) (ls := #[T1,T1,T1,T1,T1,T1,T1,T1,T1,T1,T1,T1,T1,T1,T1,T1,T1,F0]) (by kernel_rfl) rfl rfl ?_
       refine o_p (p_indexAddrS (T := tInt) (i := (j - 1)) (j := 1) (m := lt.length) rfl rfl rfl (by simp only [List.length_set]) Try.underlying45 sz3 (by omega) (by omega)) ?_
       refine o_nil ?_
       refine h_next (dp (lj (lz (ln)))) ?_
       refine h_one (i := 17) (ls := #[T1,T1,T1,T1,T1,T1,T1,T1,T1,T1,T1,T1,T1,T1,T1,T1,T1,T1]) (by kernel_rfl) rfl rfl ?_
       refine o_storeW (i := 1) (T := tInt) (idx := (j - 1).toNat) (v := Vi (lt.getD j.toNat default)) (vs := [Vi (lt.getD j.toNat default)]) (z := (lt.getD j.toNat default)) rfl rfl rfl rfl (by first | assumption | omega | (simp only [List.length_set]; omega)) sz3 rfl rfl rfl rfl (Sub.refl _) ?_
       refine o_nil ?_
       refine h_next (dp (lj (lz (ln)))) ?_
       refine h_done (by kernel_rfl) ?_
       refine q_kont hK7 () (sr (sr (sr (sr (sr (sr (Sub.nil _))))))) (pk [0, 1])
    ·refine o_p (p_indexAddr (L := lt) (T := tInt) (i := j) rfl rfl (rd_own (i := 1) rfl) Try.underlying45 sz3 (by omega) (by omega)) ?_
     refine o_nil ?_
     refine h_next (dp (lj (lz (ln)))) ?_
     refine h_two (i := 8) (j := 13) (ls := #[T1,T1,T1,T1,T1,T1,T1,T1,T1,F0,T1,T1,T1,F0,F0,F0,F0,F0]) (ls' := #[T1,T1,T1,T1,T1,T1,T1,T1,F0,F0,T1,T1,T1,T1,F0,F0,F0,F0]) (by kernel_rfl) rfl rfl rfl rfl ?_ ?_
     ·refine o_p (p_indexAddr (L := lt) (T := tInt) (i := (j - 1)) rfl rfl (rd_own (i := 1) rfl) Try.underlying45 sz3 (by omega) (by omega)) ?_
      refine o_nil ?_
      refine h_next (dp (lj (lz (ln)))) ?_
      refine h_two (i := 9) (j := 13) (ls := #[T1,T1,T1,T1,T1,T1,T1,T1,T1,T1,T1,T1,T1,F0,F0,F0,F0,F0]) (ls' := #[T1,T1,T1,T1,T1,T1,T1,T1,T1,F0,T1,T1,T1,T1,F0,F0,F0,F0]) (by kernel_rfl) rfl rfl rfl rfl ?_ ?_
      ·refine o_p (p_loadE1 (i := (j - 1).toNat) (T := tInt) (L := lt) (v := Vi (lt.getD ((j - 1).toNat) default)) rfl (rd_own (i := 1) rfl) (by first | assumption | omega) sh3 (congrArg tInt.enc (getd_at (by first | assumption | omega) default))) ?_
       refine o_nil ?_
       refine h_next (dp (lj (lz (ln)))) ?_
       refine h_one (i := 13) (ls := #[T1,T1,T1,T1,T1,T1,T1,T1,T1,T1,T1,T1,T1,T1,F0,F0,F0,F0]) (by kernel_rfl) rfl rfl ?_
       refine o_p (p_loadE1 (i := j.toNat) (T := tInt) (L := lt) (v := Vi (lt.getD j.toNat default)) rfl (rd_own (i := 1) rfl) (by first | assumption | omega) sh3 (congrArg tInt.enc (getd_at (by first | assumption | omega) default))) ?_
       refine o_nil ?_
       refine h_next (dp (lj (lz (ln)))) ?_
       refine h_one (i := 14) (ls := #[T1,T1,T1,T1,T1,T1,T1,T1,T1,T1,T1,T1,T1,T1,T1,F0,F0,F0]) (by kernel_rfl) rfl rfl ?_
       refine o_p (p_indexAddr (L := lt) (T := tInt) (i := j) rfl rfl (rd_own (i := 1) rfl) Try.underlying45 sz3 (by omega) (by omega)) ?_
       refine o_nil ?_
       refine h_next (dp (lj (lz (ln)))) ?_
       refine h_one (i := 15) (ls := #[T1,T1,T1,T1,T1,T1,T1,T1,T1,T1,T1,T1,T1,T1,T1,T1,F0,F0]) (by kernel_rfl) rfl rfl ?_
       refine o_storeW (i := 1) (T := tInt) (idx := j.toNat) (v := Vi (lt.getD ((j - 1).toNat) default)) (vs := [Vi (lt.getD ((j - 1).toNat) default)]) (z := (lt.getD ((j - 1).toNat) default)) rfl rfl rfl rfl (by first | assumption | omega | (simp only [List.length_set]; omega)) sz3 rfl rfl rfl rfl (Sub.refl _) ?_
       refine o_nil ?_
       refine h_next (dp (lj (lz (ln)))) ?_
       refine h_one (i := 16) (ls := #[T1,T1,T1,T1,T1,T1,T1,T1,T1,T1,T1,T1,T1,T1,T1,T1,T1,F0]) (by kernel_rfl) rfl rfl ?_
       refine o_p (p_indexAddrS (T := tInt) (i := (j - 1)) (j := 1) (m := lt.length) rfl rfl rfl (by simp only [List.length_set]) Try.underlying45 sz3 (by omega) (by omega)) ?_
       refine o_nil ?_
       refine h_next (dp (lj (lz (ln)))) ?_
       refine h_one (i := 17) (ls := #[T1,T1,T1,T1,T1,T1,T1,T1,T1,T1,T1,T1,T1,T1,T1,T1,T1,T1]) (by kernel_rfl) rfl rfl ?_
       refine o_storeW (i := 1) (T := tInt) (idx := (j - 1).toNat) (v := Vi (lt.getD j.toNat default)) (vs := [Vi (lt.getD j.toNat default)]) (z := (lt.getD j.toNat default)) rfl rfl rfl rfl (by first | assumption | omega | (simp only [List.length_set]; omega)) sz3 rfl rfl rfl rfl (Sub.refl _) ?_
       refine o_nil ?_
       refine h_next (dp (lj (lz (ln)))) ?_
       refine h_done (by kernel_rfl) ?_
       refine q_kont hK7 () (sr (sr (sr (sr (sr (sr (Sub.nil _))))))) (pk [0, 1])
      ·refine o_p (p_loadE1 (i := j.toNat) (T := tInt) (L := lt) (v := Vi (lt.getD j.toNat default)) rfl (rd_own (i := 1) rfl) (by first | assumption | omega) sh3 (congrArg tInt.enc (getd_at (by first | assumption | omega) default))) ?_
       refine o_nil ?_
       refine h_next (dp (lj (lz (ln)))) ?_
       refine h_one (i := 9) (ls := #[T1,T1,T1,T1,T1,T1,T1,T1,T1,T1,T1,T1,T1,T1,F0,F0,F0,F0]) (by kernel_rfl) rfl rfl ?_
       refine o_p (p_loadE1 (i := (j - 1).toNat) (T := tInt) (L := lt) (v := Vi (lt.getD ((j - 1).toNat) default)) rfl (rd_own (i := 1) rfl) (by first | assumption | omega) sh3 (congrArg tInt.enc (getd_at (by first | assumption | omega) default))) ?_
       refine o_nil ?_
       refine h_next (dp (lj (lz (ln)))) ?_
       refine h_one (i := 14) (ls := #[T1,T1,T1,T1,T1,T1,T1,T1,T1,T1,T1,T1,T1,T1,T1,F0,F0,F0]) (by kernel_rfl) rfl rfl ?_
       refine o_p (p_indexAddr (L := lt) (T := tInt) (i := j) rfl rfl (rd_own (i := 1) rfl) Try.underlying45 sz3 (by omega) (by omega)) ?_
       refine o_nil ?_
       refine h_next (dp (lj (lz (ln)))) ?_
       refine h_one (i := 15) (ls := #[T1,T1,T1,T1,T1,T1,T1,T1,T1,T1,T1,T1,T1,T1,T1,T1,F0,F0]) (by kernel_rfl) rfl rfl ?_
       refine o_storeW (i := 1) (T := tInt) (idx := j.toNat) (v := Vi (lt.getD ((j - 1).toNat) default)) (vs := [Vi (lt.getD ((j - 1).toNat) default)]) (z := (lt.getD ((j - 1).toNat) default)) rfl rfl rfl rfl (by first | assumption | omega | (simp only [List.length_set]; omega)) sz3 rfl rfl rfl rfl (Sub.refl _) ?_
       refine o_nil ?_
       refine h_next (dp (lj (lz (ln)))) ?_
       refine h_one (i := 16) (ls := #[T1,T1,T1,T1,T1,T1,T1,T1,T1,T1,T1,T1,T1,T1,T1,T1,T1,F0]) (by kernel_rfl) rfl rfl ?_
       refine o_p (p_indexAddrS (T := tInt) (i := (j - 1)) (j := 1) (m := lt.length) rfl rfl rfl (by simp only [List.length_set]) Try.underlying45 sz3 (by omega) (by omega)) ?_
       refine o_nil ?_
       refine h_next (dp (lj (lz (ln)))) ?_
       refine h_one (i := 17) (ls := #[T1,T1,T1,T1,T1,T1,T1,T1,T1,T1,T1,T1,T1,T1,T1,T1,T1,T1]) (by kernel_rfl) rfl rfl ?_
       refine o_storeW (i := 1) (T := tInt) (idx := (j - 1).toNat) (v := Vi (lt.getD j.toNat default)) (vs := [Vi (lt.getD j.toNat default)]) (z := (lt.getD j.toNat default)) rfl rfl rfl rfl (by first | assumption | omega | (simp only [List.length_set]; omega)) sz3 rfl rfl rfl rfl (Sub.refl _) ?_
       refine o_nil ?_
       refine h_next (dp (lj (lz (ln)))) ?_
       refine h_done (by kernel_rfl) ?_
       refine q_kont hK7 () (sr (sr (sr (sr (sr (sr (Sub.nil _))))))) (pk [0, 1])
     ·refine o_p (p_loadE1 (i := j.toNat) (T := tInt) (L := lt) (v := Vi (lt.getD j.toNat default)) rfl (rd_own (i := 1) rfl) (by first | assumption | omega) sh3 (congrArg tInt.enc (getd_at (by first | assumption | omega) default))) ?_
      refine o_nil ?_
      refine h_next (dp (lj (lz (ln)))) ?_
      refine h_one (i := 8) (ls := #[T1,T1,T1,T1,T1,T1,T1,T1,T1,F0,T1,T1,T1,T1,F0,F0,F0,F0]) (by kernel_rfl) rfl rfl ?_
      refine o_p (p_indexAddr (L := lt) (T := tInt) (i := (j - 1)) rfl rfl (rd_own (i := 1) rfl) Try.underlying45 sz3 (by omega) (by omega)) ?_
      refine o_nil ?_
      refine h_next (dp (lj (lz (ln)))) ?_
      refine h_one (i := 9) (ls := #[T1,T1,T1,T1,T1,T1,T1,T1,T1,T1,T1,T1,T1,T1,F0,F0,F0,F0]) (by kernel_rfl) rfl rfl ?_
      refine o_p (p_loadE1 (i := (j - 1).toNat) (T := tInt) (L := lt) (v := Vi (lt.getD ((j - 1).toNat) default)) rfl (rd_own (i := 1) rfl) (by first | assumption | omega) sh3 (congrArg tInt.enc (getd_at (by first | assumption | omega) default))) ?_
      refine o_nil ?_
      refine h_next (dp (lj (lz (ln)))) ?_
      refine h_one (i := 14) (ls := #[T1,T1,T1,T1,T1,T1,T1,T1,T1,T1,T1,T1,T1,T1,T1,F0,F0,F0]) (by kernel_rfl) rfl rfl ?_
      refine o_p (p_indexAddr (L := lt) (T := tInt) (i := j) rfl rfl (rd_own (i := 1) rfl) Try.underlying45 sz3 (by omega) (by omega)) ?_
      refine o_nil ?_
      refine h_next (dp (lj (lz (ln)))) ?_
      refine h_one (i := 15) (ls := #[T1,T1,T1,T1,T1,T1,T1,T1,T1,T1,T1,T1,T1,T1,T1,T1,F0,F0]) (by kernel_rfl) rfl rfl ?_
      refine o_storeW (i := 1) (T := tInt) (idx := j.toNat) (v := Vi (lt.getD ((j - 1).toNat) default)) (vs := [Vi (lt.getD ((j - 1).toNat) default)]) (z := (lt.getD ((j - 1).toNat) default)) rfl rfl rfl rfl (by first | assumption | omega | (simp only [List.length_set]; omega)) sz3 rfl rfl rfl rfl (Sub.refl _) ?_
      refine o_nil ?_
      refine h_next (dp (lj (lz (ln)))) ?_
      refine h_one (i := 16) (ls := #[T1,T1,T1,T1,T1,T1,T1,T1,T1,T1,T1,T1,T1,T1,T1,T1,T1,F0]) (by kernel_rfl) rfl rfl ?_
      refine o_p (p_indexAddrS (T := tInt) (i := (j - 1)) (j := 1) (m := lt.length) rfl rfl rfl (by simp only [List.length_set]) Try.underlying45 sz3 (by omega) (by omega)) ?_
      refine o_nil ?_
      refine h_next (dp (lj (lz (ln)))) ?_
      refine h_one (i := 17) (ls := #[T1,T1,T1,T1,T1,T1,T1,T1,T1,T1,T1,T1,T1,T1,T1,T1,T1,T1]) (by kernel_rfl) rfl rfl ?_
      refine o_storeW (i := 1) (T := tInt) (idx := (j - 1).toNat) (v := Vi (lt.getD j.toNat default)) (vs := [Vi (lt.getD j.toNat default)]) (z := (lt.getD j.toNat default)) rfl rfl rfl rfl (by first | assumption | omega | (simp only [List.length_set]; omega)) sz3 rfl rfl rfl rfl (Sub.refl _) ?_
      refine o_nil ?_
      refine h_next (dp (lj (lz (ln)))) ?_
      refine h_done (by kernel_rfl) ?_
      refine q_kont hK7 () (sr (sr (sr (sr (sr (sr (Sub.nil _))))))) (pk [0, 1])
   rintro _
   show SQ _ 53 w0 _ _ [(0, .slice al lt.length cl), (1, Vi a), (2, Vi b), (3, .func (.func 96) #[] #[.pointer (some ⟨Bq, 0, none⟩), .pointer (some ⟨Bn, 0, none⟩)]), (8, Vi i), (9, Vi j)] [outer w0 [own tInt Sl al cl l], own tInt Sl al cl ((lt.set j.toNat (lt.getD ((j - 1).toNat) default)).set ((j - 1).toNat) (lt.getD j.toNat default))]
   refine q_cast (F' := [(0, .slice al ((lt.set j.toNat (lt.getD ((j - 1).toNat) default)).set ((j - 1).toNat) (lt.getD j.toNat default)).length cl), (1, Vi a), (2, Vi b), (3, .func (.func 96) #[] #[.pointer (some ⟨Bq, 0, none⟩), .pointer (some ⟨Bn, 0, none⟩)]), (8, Vi i), (9, Vi j)]) (H := [outer w0 [own tInt Sl al cl l], own tInt Sl al cl ((lt.set j.toNat (lt.getD ((j - 1).toNat) default)).set ((j - 1).toNat) (lt.getD j.toNat default))]) (H' := [outer w0 [own tInt Sl al cl l], own tInt Sl al cl ((lt.set j.toNat (lt.getD ((j - 1).toNat) default)).set ((j - 1).toNat) (lt.getD j.toNat default))]) (Sub.cons (by simp only [List.length_set, List.length_reverse]; rfl) (sr (sr (sr (sr (sr (Sub.nil _))))))) (by rfl) ?_
   refine q_block_normal (q_then ?_)
   refine c_region ?_
   refine o_mv rfl rfl ?_
   refine o_p (p_subb rfl rfl (by omega)) ?_
   refine o_as rfl rfl ?_
   refine o_nil ?_
   refine q_round hK3 ((j - 1), ((lt.set j.toNat (lt.getD ((j - 1).toNat) default)).set ((j - 1).toNat) (lt.getD j.toNat default))) ?_ ?_ ?_ ?_
   ·clear hK3
    exact hI.next (by omega) (by omega)
   ·(try dsimp only); omega
   ·exact sr (sr (sr (sr (sr (sr (Sub.nil _))))))
   ·exact pk [0, 1]
  ·simp only [Bool.and_eq_false_iff, decide_eq_false_iff_not, Int.not_lt] at hc5
   have hst := hc5
   refine c_exit ?_
   refine q_then_exit (q_then_exit (q_block_exit (q_block_normal (q_then ?_))))
   refine c_region ?_
   refine o_mv rfl rfl ?_
   refine o_p (p_addb rfl rfl (by omega)) ?_
   refine o_as rfl rfl ?_
   refine o_nil ?_
   refine q_round hK1 ((i + 1), lt) ?_ ?_ ?_ ?_
   ·clear hK1
    exact hI.fin (by have h9 := hI.a0; omega)
   ·(try dsimp only); omega
   ·exact sr (sr (sr (sr (sr (Sub.nil _)))))
   ·exact pk [0, 1]
 ·simp only [decide_eq_false_iff_not, Int.not_lt] at hc2
  refine c_exit ?_
  refine q_then_exit (q_then_exit (q_block_exit ?_))
  have hr0 : (ls : List Int) = (if a = 0 then St.isort (Shd.cmp q nn) l else l) := by
   exact hI.done (by omega)
  refine q_endX (p := ()) (rt0 rfl) ?_ (fun w hw => ?_)
  ·exact rfl
  ·have h2 := hw.pick (H' := [outer w0 [own tInt Sl al cl l], own tInt Sl al cl ls]) [0, 1] (by decide) rfl
   exact Eq.mp (congrArg (fun z => HeapIs w0 ((outer w0 [own tInt Sl al cl l]) :: z) w) ((by have hcc := congrArg (fun (y0 : List Int) => ([own tInt Sl al cl y0] : List Ent)) hr0; exact hcc))) h2

set_option maxHeartbeats 8000000 in
set_option maxRecDepth 100000 in
theorem stableCmp_ok (l : List Int) (al : Option Addr) (cl : Nat) (Sl : Nat → Prop) (n : Int) (Bq : Nat) (q : List DShard) (aq : Option Addr) (cq : Nat) (Bn : Nat) (nn : UInt64) (hy1 : n = (l.length : Int) ∧ l.length ≤ 20) (hy2 : Shd.Ok q ∧ ∀ x ∈ l, 0 ≤ x ∧ x < (q.length : Int)) : FnX Try.prog 113 [.slice al l.length cl, Vi n, .func (.func 96) #[] #[.pointer (some ⟨Bq, 0, none⟩), .pointer (some ⟨Bn, 0, none⟩)]] [own tInt Sl al cl l] (fun w => SlR tShard (outer w [own tInt Sl al cl l]).S w aq cq q ∧ ((box Bq [.slice aq q.length cq] 43).A w ∧ (outer w [own tInt Sl al cl l]).S Bq) ∧ ((box Bn [.int .u64 (nn.toNat : Int)] 59).A w ∧ (outer w [own tInt Sl al cl l]).S Bn)) (Unit) (fun p => .tuple #[]) (fun p => [own tInt Sl al cl (St.isort (Shd.cmp q nn) l)]) := by
 refine fnX (nt := 63) (F0 := [(0, .slice al l.length cl), (1, Vi n), (2, .func (.func 96) #[] #[.pointer (some ⟨Bq, 0, none⟩), .pointer (some ⟨Bn, 0, none⟩)])]) Try.func113 rfl Try.ntmps113 rfl rfl (fun w0 hpre => ?_)
 obtain ⟨hq, hBq, hBn⟩ := hpre
 have hlhq := hq.2.1
 refine c_know (fun w hw => own_len (i := 1) (T := tInt) hw rfl) (fun hlown_l => ?_)
 obtain ⟨hcown_l, hlown_l⟩ := hlown_l
 refine c_seq (c_region ?_)
 refine o_as rfl rfl ?_
 refine o_nil (q_then (c_seq (c_region ?_)))
 refine o_mv rfl rfl ?_
 refine o_as rfl rfl ?_
 refine o_as rfl rfl ?_
 refine o_nil (q_then (c_seq (c_block ?_)))
 refine c_loop (St := Int × Int × List Int)
  (fun ⟨a2, b2, ls⟩ => [(0, .slice al ls.length cl), (1, Vi n), (2, .func (.func 96) #[] #[.pointer (some ⟨Bq, 0, none⟩), .pointer (some ⟨Bn, 0, none⟩)]), (6, Vi 20), (7, Vi a2), (8, Vi b2)])
  (fun ⟨a2, b2, ls⟩ => [outer w0 [own tInt Sl al cl l], own tInt Sl al cl ls])
  (fun ⟨a2, b2, ls⟩ => St.BI (Shd.cmp q nn) l ls a2 b2)
  (fun ⟨a2, b2, ls⟩ => (60 - b2).toNat)
  (0, 20, l) ?_ (sr (sr (sr (sr (sr (sr (Sub.nil _))))))) (fun _ hw => hw) ?_
 ·exact St.BI.start
 rintro ⟨a2, b2, ls⟩ hI K hK1
 have hBl := hI.len
 have hBa := hI.cases
 show SC _ _ Try.prog 63 w0 _ _ [(0, .slice al ls.length cl), (1, Vi n), (2, .func (.func 96) #[] #[.pointer (some ⟨Bq, 0, none⟩), .pointer (some ⟨Bn, 0, none⟩)]), (6, Vi 20), (7, Vi a2), (8, Vi b2)] [outer w0 [own tInt Sl al cl l], own tInt Sl al cl ls]
 refine c_seq (c_seq (c_region ?_))
 refine o_mv rfl rfl ?_
 refine o_mv rfl rfl ?_
 refine o_p (p_le rfl rfl) ?_
 refine o_nil (q_then ?_)
 refine c_cond rfl (fun hc2 => ?_) (fun hc2 => ?_)
 ·simp only [decide_eq_true_eq] at hc2
  have hgo := hc2
  have hside := (show Shd.Ok q ∧ ∀ x ∈ ls, 0 ≤ x ∧ x < (q.length : Int) from ⟨hy2.1, fun x hx => hy2.2 x (hI.mem.1 hx)⟩)
  refine c_skip (q_then (c_block (c_seq (c_region ?_))))
  refine o_mv rfl rfl ?_
  refine o_mv rfl rfl ?_
  refine o_mv rfl rfl ?_
  refine o_mv rfl rfl ?_
  refine o_pick (H' := [own tInt Sl al cl ls, outer w0 [own tInt Sl al cl l]]) [1, 0] (by decide) rfl ?_
  refine o_callX (pre := [own tInt Sl al cl ls]) (R := [outer w0 [own tInt Sl al cl l]]) rfl (insSort_ok ls al cl Sl a2 b2 Bq q aq cq Bn nn (by first | assumption | omega) (by first | assumption | exact hside)) hf122 rfl (fun w hw => ⟨(rdX (i := 1) (js := [0]) rfl (by decide) rfl (fun _ hA => slR_outer hq hA)) w hw, boxX_outer (i := 1) (js := [0]) rfl (by decide) rfl hBq w hw, boxX_outer (i := 1) (js := [0]) rfl (by decide) rfl hBn w hw⟩) rfl ?_
  rintro ⟨⟩
  refine o_asH (H' := [own tInt Sl al cl (if a2 = 0 then St.isort (Shd.cmp q nn) ls else ls), outer w0 [own tInt Sl al cl l]]) rfl ?_
  refine o_cast (F' := [(0, .slice al (if a2 = 0 then St.isort (Shd.cmp q nn) ls else ls).length cl), (1, Vi n), (2, .func (.func 96) #[] #[.pointer (some ⟨Bq, 0, none⟩), .pointer (some ⟨Bn, 0, none⟩)]), (6, Vi 20), (8, Vi b2), (18, .tuple #[])]) (H := [own tInt Sl al cl (if a2 = 0 then St.isort (Shd.cmp q nn) ls else ls), outer w0 [own tInt Sl al cl l]]) (H' := [own tInt Sl al cl (if a2 = 0 then St.isort (Shd.cmp q nn) ls else ls), outer w0 [own tInt Sl al cl l]]) (Sub.cons (by simp only [List.length_set, List.length_reverse, St.ite_len]; rfl) (sr (sr (sr (sr (sr (Sub.nil _))))))) (by rfl) ?_
  refine o_nil (q_then (c_seq (c_region ?_)))
  refine o_mv rfl rfl ?_
  refine o_as rfl rfl ?_
  refine o_nil (q_then (c_region ?_))
  refine o_mv rfl rfl ?_
  refine o_mv rfl rfl ?_
  refine o_p (p_addb rfl rfl (by omega)) ?_
  refine o_as rfl rfl ?_
  refine o_nil ?_
  refine q_block_normal ?_
  refine q_round hK1 (b2, (b2 + 20), (if a2 = 0 then St.isort (Shd.cmp q nn) ls else ls)) ?_ ?_ ?_ ?_
  ·clear hK1
   exact hI.next (by omega)
  ·(try dsimp only); omega
  ·exact sr (sr (sr (sr (sr (sr (Sub.nil _))))))
  ·exact pk [1, 0]
 ·simp only [decide_eq_false_iff_not, Int.not_le] at hc2
  have hst := hc2
  have hS := hI
  have hside := (show Shd.Ok q ∧ ∀ x ∈ ls, 0 ≤ x ∧ x < (q.length : Int) from ⟨hy2.1, fun x hx => hy2.2 x (hI.mem.1 hx)⟩)
  refine c_exit ?_
  refine q_then_exit (q_then_exit (q_block_exit (q_then ?_)))
  refine c_seq (c_region ?_)
  refine o_mv rfl rfl ?_
  refine o_mv rfl rfl ?_
  refine o_mv rfl rfl ?_
  refine o_mv rfl rfl ?_
  refine o_pick (H' := [own tInt Sl al cl ls, outer w0 [own tInt Sl al cl l]]) [1, 0] (by decide) rfl ?_
  refine o_callX (pre := [own tInt Sl al cl ls]) (R := [outer w0 [own tInt Sl al cl l]]) rfl (insSort_ok ls al cl Sl a2 n Bq q aq cq Bn nn (by first | assumption | omega) (by first | assumption | exact hside)) hf122 rfl (fun w hw => ⟨(rdX (i := 1) (js := [0]) rfl (by decide) rfl (fun _ hA => slR_outer hq hA)) w hw, boxX_outer (i := 1) (js := [0]) rfl (by decide) rfl hBq w hw, boxX_outer (i := 1) (js := [0]) rfl (by decide) rfl hBn w hw⟩) rfl ?_
  rintro ⟨⟩
  refine o_asH (H' := [own tInt Sl al cl (if a2 = 0 then St.isort (Shd.cmp q nn) ls else ls), outer w0 [own tInt Sl al cl l]]) rfl ?_
  refine o_cast (F' := [(0, .slice al (if a2 = 0 then St.isort (Shd.cmp q nn) ls else ls).length cl), (1, Vi n), (2, .func (.func 96) #[] #[.pointer (some ⟨Bq, 0, none⟩), .pointer (some ⟨Bn, 0, none⟩)]), (6, Vi 20), (27, .tuple #[])]) (H := [own tInt Sl al cl (if a2 = 0 then St.isort (Shd.cmp q nn) ls else ls), outer w0 [own tInt Sl al cl l]]) (H' := [own tInt Sl al cl (if a2 = 0 then St.isort (Shd.cmp q nn) ls else ls), outer w0 [own tInt Sl al cl l]]) (Sub.cons (by simp only [List.length_set, List.length_reverse, St.ite_len]; rfl) (sr (sr (sr (sr (Sub.nil _)))))) (by rfl) ?_
  refine o_nil (q_then (c_block ?_))
  refine c_loop (St := Int × List Int)
   (fun ⟨bs, lt⟩ => [(0, .slice al lt.length cl), (1, Vi n), (2, .func (.func 96) #[] #[.pointer (some ⟨Bq, 0, none⟩), .pointer (some ⟨Bn, 0, none⟩)]), (6, Vi bs)])
   (fun ⟨bs, lt⟩ => [own tInt Sl al cl lt, outer w0 [own tInt Sl al cl l]])
   (fun ⟨bs, lt⟩ => bs = 20 ∧ lt = St.isort (Shd.cmp q nn) l)
   (fun ⟨bs, lt⟩ => 0)
   (20, (if a2 = 0 then St.isort (Shd.cmp q nn) ls else ls)) ?_ (sr (sr (sr (sr (Sub.nil _))))) (fun _ hw => hw) ?_
  ·exact ⟨rfl, hS.done⟩
  rintro ⟨bs, lt⟩ hI K hK3
  obtain ⟨hI1, hI2⟩ := id hI
  show SC _ _ Try.prog 63 w0 _ _ [(0, .slice al lt.length cl), (1, Vi n), (2, .func (.func 96) #[] #[.pointer (some ⟨Bq, 0, none⟩), .pointer (some ⟨Bn, 0, none⟩)]), (6, Vi bs)] [own tInt Sl al cl lt, outer w0 [own tInt Sl al cl l]]
  refine c_seq (c_seq (c_region ?_))
  refine o_mv rfl rfl ?_
  refine o_mv rfl rfl ?_
  refine o_p (p_lt rfl rfl) ?_
  refine o_nil (q_then ?_)
  refine c_cond rfl (fun hc4 => ?_) (fun hc4 => ?_)
  ·simp only [decide_eq_true_eq] at hc4
   exfalso; omega
  ·simp only [decide_eq_false_iff_not, Int.not_lt] at hc4
   refine c_exit ?_
   refine q_then_exit (q_then_exit (q_block_exit ?_))
   have hr0 : (lt : List Int) = (St.isort (Shd.cmp q nn) l) := by
    exact hI.2
   refine q_endX (p := ()) (rt0 rfl) ?_ (fun w hw => ?_)
   ·exact rfl
   ·have h2 := hw.pick (H' := [outer w0 [own tInt Sl al cl l], own tInt Sl al cl lt]) [1, 0] (by decide) rfl
    exact Eq.mp (congrArg (fun z => HeapIs w0 ((outer w0 [own tInt Sl al cl l]) :: z) w) ((by have hcc := congrArg (fun (y0 : List Int) => ([own tInt Sl al cl y0] : List Ent)) hr0; exact hcc))) h2

set_option maxHeartbeats 8000000 in
set_option maxRecDepth 100000 in
theorem sortStable_ok (l : List Int) (al : Option Addr) (cl : Nat) (Sl : Nat → Prop) (Bq : Nat) (q : List DShard) (aq : Option Addr) (cq : Nat) (Bn : Nat) (nn : UInt64) (hy1 : l.length ≤ 20) (hy2 : Shd.Ok q ∧ ∀ x ∈ l, 0 ≤ x ∧ x < (q.length : Int)) : FnX Try.prog 95 [.slice al l.length cl, .func (.func 96) #[] #[.pointer (some ⟨Bq, 0, none⟩), .pointer (some ⟨Bn, 0, none⟩)]] [own tInt Sl al cl l] (fun w => SlR tShard (outer w [own tInt Sl al cl l]).S w aq cq q ∧ ((box Bq [.slice aq q.length cq] 43).A w ∧ (outer w [own tInt Sl al cl l]).S Bq) ∧ ((box Bn [.int .u64 (nn.toNat : Int)] 59).A w ∧ (outer w [own tInt Sl al cl l]).S Bn)) (Unit) (fun p => .tuple #[]) (fun p => [own tInt Sl al cl (St.isort (Shd.cmp q nn) l)]) := by
 refine fnX (nt := 9) (F0 := [(0, .slice al l.length cl), (1, .func (.func 96) #[] #[.pointer (some ⟨Bq, 0, none⟩), .pointer (some ⟨Bn, 0, none⟩)])]) Try.func95 rfl Try.ntmps95 rfl rfl (fun w0 hpre => ?_)
 obtain ⟨hq, hBq, hBn⟩ := hpre
 have hlhq := hq.2.1
 refine c_know (fun w hw => own_len (i := 1) (T := tInt) hw rfl) (fun hlown_l => ?_)
 obtain ⟨hcown_l, hlown_l⟩ := hlown_l
 refine c_region ?_
 refine o_mv rfl rfl ?_
 refine o_mv rfl rfl ?_
 refine o_p (p_len_slice rfl rfl Try.underlying45) ?_
 refine o_mv rfl rfl ?_
 refine o_pick (H' := [own tInt Sl al cl l, outer w0 [own tInt Sl al cl l]]) [1, 0] (by decide) rfl ?_
 refine o_callX (pre := [own tInt Sl al cl l]) (R := [outer w0 [own tInt Sl al cl l]]) rfl (stableCmp_ok l al cl Sl (l.length : Int) Bq q aq cq Bn nn (by first | assumption | omega) (by first | assumption | exact hside)) hf113 rfl (fun w hw => ⟨(rdX (i := 1) (js := [0]) rfl (by decide) rfl (fun _ hA => slR_outer hq hA)) w hw, boxX_outer (i := 1) (js := [0]) rfl (by decide) rfl hBq w hw, boxX_outer (i := 1) (js := [0]) rfl (by decide) rfl hBn w hw⟩) rfl ?_
 rintro ⟨⟩
 refine o_asH (H' := [own tInt Sl al cl (St.isort (Shd.cmp q nn) l), outer w0 [own tInt Sl al cl l]]) rfl ?_
 refine o_cast (F' := [(8, .tuple #[])]) (H := [own tInt Sl al cl (St.isort (Shd.cmp q nn) l), outer w0 [own tInt Sl al cl l]]) (H' := [own tInt Sl al cl (St.isort (Shd.cmp q nn) l), outer w0 [own tInt Sl al cl l]]) (sr (Sub.nil _)) (by rfl) ?_
 refine o_nil ?_
 refine q_endX (p := ()) (rt0 rfl) ?_ (fun w hw => ?_)
 ·exact rfl
 ·have h2 := hw.pick (H' := [outer w0 [own tInt Sl al cl l], own tInt Sl al cl (St.isort (Shd.cmp q nn) l)]) [1, 0] (by decide) rfl
  exact Eq.mp (congrArg (fun z => HeapIs w0 ((outer w0 [own tInt Sl al cl l]) :: z) w) (rfl)) h2

set_option maxHeartbeats 8000000 in
set_option maxRecDepth 100000 in
theorem sranked_ok (l : List DShard) (al : Option Addr) (cl : Nat) (key : ByteArray) (hy1 : Shd.Ok l ∧ key.size ≤ 40) : FnM Try.prog 69 [.slice al l.length cl, .string key] (fun w => Rd tShard w al cl l) (Option Addr × Nat) (fun p => .slice p.1 (Shd.ranked l key).length p.2) (fun p S w => SlO tInt S w p.1 p.2 (Shd.ranked l key)) := by
 refine fnM (nt := 24) (F0 := [(0, .slice al l.length cl), (1, .string key)]) Try.func69 rfl Try.ntmps69 rfl rfl (fun w0 hpre => ?_)
 have hl := hpre
 have hlhl := hl.2.1
 have hlen := hy1.1.len
 refine c_seq (c_region ?_)
 refine o_box (v := .slice al l.length cl) rfl rfl (fun B1 => ?_)
 refine o_as rfl rfl ?_
 refine o_nil (q_then (c_seq (c_region ?_)))
 refine o_mv rfl rfl ?_
 refine o_call0 (v := .int .u64 ((Hash.raw key).toNat : Int)) rfl (raw_ok key) hf72 (fun w hw => (by first | assumption | omega | decide | (rw [ByteArray.size_append]; omega) | simp)) rfl ?_
 refine o_alloc ze59 rfl (fun B2 => ?_)
 refine o_store (i := 0) (v := .int .u64 ((Hash.raw key).toNat : Int)) (cs' := [.int .u64 ((Hash.raw key).toNat : Int)]) rfl rfl rfl sz59 rfl rfl rfl ?_
 refine o_nil (q_then (c_seq (c_region ?_)))
 refine o_as rfl rfl ?_
 refine o_nil (q_then (c_seq (c_seq (c_region ?_))))
 refine o_p (p_load (i := 1) (v := .slice al l.length cl) rfl rfl sh43 rfl) ?_
 refine o_p (p_len_slice rfl rfl Try.underlying43) ?_
 refine o_mv rfl rfl ?_
 refine o_nil (q_then (c_block ?_))
 refine c_ownNil tInt ?_
 refine c_loop (St := List Int × Option Addr × Nat × (Nat → Prop) × Nat)
  (fun ⟨out, aout, cout, Sout, k⟩ => [(2, .pointer (some ⟨B1, 0, none⟩)), (5, .pointer (some ⟨B2, 0, none⟩)), (6, .slice aout out.length cout), (11, Vi (l.length : Int)), (12, Vi (k : Int))])
  (fun ⟨out, aout, cout, Sout, k⟩ => [own tInt Sout aout cout out, box B2 [.int .u64 ((Hash.raw key).toNat : Int)] 59, box B1 [.slice al l.length cl] 43, base w0])
  (fun ⟨out, aout, cout, Sout, k⟩ => k ≤ l.length ∧ out = (List.range k).map Int.ofNat)
  (fun ⟨out, aout, cout, Sout, k⟩ => l.length - k)
  ([], none, 0, (fun _ => False), 0) ?_ (sr (sr (sr (sr (sr (Sub.nil _)))))) (fun _ hw => hw) ?_
 ·exact ⟨Nat.zero_le _, rfl⟩
 rintro ⟨out, aout, cout, Sout, k⟩ hI K hK4
 have hol : out.length = k := by rw [hI.2]; simp
 show SC _ _ Try.prog 24 w0 _ _ [(2, .pointer (some ⟨B1, 0, none⟩)), (5, .pointer (some ⟨B2, 0, none⟩)), (6, .slice aout out.length cout), (11, Vi (l.length : Int)), (12, Vi (k : Int))] [own tInt Sout aout cout out, box B2 [.int .u64 ((Hash.raw key).toNat : Int)] 59, box B1 [.slice al l.length cl] 43, base w0]
 refine c_seq (c_region ?_)
 refine o_p (p_lt rfl rfl) ?_
 refine o_nil (q_then (c_seq ?_))
 refine c_cond rfl (fun hc5 => ?_) (fun hc5 => ?_)
 ·simp only [decide_eq_true_eq] at hc5
  refine c_skip (q_then (c_seq (c_block (c_seq (c_region ?_)))))
  refine o_mv rfl rfl ?_
  refine o_as rfl rfl ?_
  refine o_nil (q_then (c_region ?_))
  refine o_mv rfl rfl ?_
  refine o_mv rfl rfl ?_
  refine o_buildSlice (m := 1) (T := tInt) (L := [(k : Int)]) (vs := [Vi (k : Int)]) rfl rfl rfl rfl Try.underlying45 sz3 (by decide) ze3 rfl (by decide) rfl (fun S6 a7 => ?_)
  refine o_append (i := 1) (L := out) (M := [(k : Int)]) (T := tInt) rfl rfl rfl (rd_own (i := 0) rfl) Try.underlying45 Try.underlying45 (by intro k h; cases h) el3 (by intro z; simp [tInt, one1]) (by decide) (by first | omega | (simp only [List.length_cons, List.length_nil]; omega) | (simp only [List.length_append, List.length_cons, List.length_nil, List.length_take, List.length_drop]; omega)) rfl (fun a9 c10 S11 => ?_)
  refine o_as rfl rfl ?_
  refine o_nil ?_
  refine q_block_normal (q_then ?_)
  refine c_region ?_
  refine o_p (p_addb rfl rfl (by omega)) ?_
  refine o_mv rfl rfl ?_
  refine o_nil ?_
  refine q_round hK4 ((out ++ [(k : Int)]), a9, c10, S11, k + 1) ?_ ?_ ?_ ?_
  ·clear hK4
   exact ⟨by omega, by rw [hI.2, List.range_succ, List.map_append]; rfl⟩
  ·(try dsimp only); omega
  ·exact sr (sr (sr (sr (sr (Sub.nil _)))))
  ·exact pk [1, 2, 3, 4]
 ·simp only [decide_eq_false_iff_not, Int.not_lt] at hc5
  have hside := Shd.side hy1.1 hI.2 hI.1
  refine c_exit ?_
  refine q_then_exit (q_then_exit (q_block_exit (q_then ?_)))
  refine c_seq (c_region ?_)
  refine o_mv rfl rfl ?_
  refine o_p (p_makeFunc (vs := [.pointer (some ⟨B1, 0, none⟩), .pointer (some ⟨B2, 0, none⟩)]) rfl) ?_
  refine o_callX (pre := [own tInt Sout aout cout out]) (R := [box B2 [.int .u64 ((Hash.raw key).toNat : Int)] 59, box B1 [.slice al l.length cl] 43, base w0]) rfl (sortStable_ok out aout cout Sout B1 l al cl B2 (Hash.raw key) (by first | assumption | omega) (by first | assumption | exact hside)) hf95 rfl (fun w hw => ⟨(rdX (i := 3) (js := [0]) rfl (by decide) rfl (fun _ hA => slR_base hl hA)) w hw, boxX (i := 2) (js := [0]) rfl (by decide) rfl w hw, boxX (i := 1) (js := [0]) rfl (by decide) rfl w hw⟩) rfl ?_
  rintro ⟨⟩
  refine o_asH (H' := [own tInt Sout aout cout (St.isort (Shd.cmp l (Hash.raw key)) out), box B2 [.int .u64 ((Hash.raw key).toNat : Int)] 59, box B1 [.slice al l.length cl] 43, base w0]) rfl ?_
  refine o_cast (F' := [(6, .slice aout (St.isort (Shd.cmp l (Hash.raw key)) out).length cout), (22, .tuple #[])]) (H := [own tInt Sout aout cout (St.isort (Shd.cmp l (Hash.raw key)) out), box B2 [.int .u64 ((Hash.raw key).toNat : Int)] 59, box B1 [.slice al l.length cl] 43, base w0]) (H' := [own tInt Sout aout cout (St.isort (Shd.cmp l (Hash.raw key)) out), box B2 [.int .u64 ((Hash.raw key).toNat : Int)] 59, box B1 [.slice al l.length cl] 43, base w0]) (Sub.cons (by simp only [List.length_set, List.length_reverse, St.isort_len]; rfl) (sr (Sub.nil _))) (by rfl) ?_
  refine o_nil (q_then (c_seq (c_region ?_)))
  refine o_mv rfl rfl ?_
  refine o_as rfl rfl ?_
  refine o_nil (q_then (c_ret ?_))
  have hr0 : ((St.isort (Shd.cmp l (Hash.raw key)) out) : List Int) = (Shd.ranked l key) := by
   (rw [hI.2, show k = l.length by omega]; rfl)
  refine q_endM (p := (aout, cout)) Sout (rt1 rfl (r_tmp rfl)) (i := 3) rfl ?_ ?_ ?_
  ·exact (by have hcc := congrArg (fun (y0 : List Int) => (.slice aout y0.length cout : Value)) hr0; exact hcc)
  ·exact fun w hw => hw.above (i := 3) (j := 0) (by decide) rfl rfl
  ·intro w hw; exact Eq.mp (congrArg (fun y => SlO tInt _ w aout cout y) hr0) ((hw.at (i := 0) rfl).here)

set_option maxHeartbeats 8000000 in
set_option maxRecDepth 100000 in
theorem scheck2_ok (l : List DShard) (al : Option Addr) (cl : Nat) (key : ByteArray) : Fn0 Try.prog 68 [.slice al l.length cl, .string key] (fun w => Rd tShard w al cl l) (Vi (Shd.ownErr l key)) := by
 refine fn0 (nt := 20) (F0 := [(0, .slice al l.length cl), (1, .string key)]) Try.func68 rfl Try.ntmps68 rfl rfl (fun w0 hpre => ?_)
 have hl := hpre
 have hlhl := hl.2.1
 refine c_seq (c_region ?_)
 refine o_as rfl rfl ?_
 refine o_nil (q_then (c_seq (c_region ?_)))
 refine o_mv rfl rfl ?_
 refine o_call0 (v := Vi (Shd.check l)) rfl (scheck_ok l al cl) hf38 (fun w hw => (rd_base (i := 0) rfl hl) w hw) rfl ?_
 refine o_as rfl rfl ?_
 refine o_nil (q_then (c_seq (c_block (c_seq (c_region ?_)))))
 refine o_mv rfl rfl ?_
 refine o_p (p_ne rfl rfl) ?_
 refine o_as rfl rfl ?_
 refine o_nil (q_then ?_)
 refine c_cond rfl (fun hc1 => ?_) (fun hc1 => ?_)
 ·simp only [bne_iff_ne, ne_eq] at hc1
  refine c_seq (c_region ?_)
  refine o_mv rfl rfl ?_
  refine o_as rfl rfl ?_
  refine o_nil (q_then (c_ret ?_))
  refine q_block_ret (q_then_ret ?_)
  have hr0 : ((Shd.check l) : Int) = (Shd.ownErr l key) := by
   first | exact Shd.oe1 key (by assumption) | exact Shd.oe2 (by assumption) (by omega) | exact Shd.oe3 (by assumption) (by omega) (by omega) | exact Shd.oe4 (by assumption) (by omega) (by omega)
  refine q_end0 (v := Vi (Shd.check l)) (rt1 rfl (r_tmp rfl)) (i := 0) rfl ?_
  exact (by have hcc := congrArg (fun (y0 : Int) => (.int .i64 y0 : Value)) hr0; exact hcc)
 ·simp only [bne_eq_false_iff_eq] at hc1
  refine c_seq (c_region ?_)
  refine o_mv rfl rfl ?_
  refine o_p (p_len_string rfl rfl Try.underlying9) ?_
  refine o_p (p_gt rfl rfl) ?_
  refine o_as rfl rfl ?_
  refine o_nil (q_then ?_)
  refine c_cond rfl (fun hc2 => ?_) (fun hc2 => ?_)
  ·simp only [decide_eq_true_eq] at hc2
   refine c_seq (c_region ?_)
   refine o_as rfl rfl ?_
   refine o_nil (q_then (c_ret ?_))
   refine q_block_ret (q_then_ret ?_)
   have hr0 : (2 : Int) = (Shd.ownErr l key) := by
    first | exact Shd.oe1 key (by assumption) | exact Shd.oe2 (by assumption) (by omega) | exact Shd.oe3 (by assumption) (by omega) (by omega) | exact Shd.oe4 (by assumption) (by omega) (by omega)
   refine q_end0 (v := Vi 2) (rt1 rfl (r_tmp rfl)) (i := 0) rfl ?_
   exact (by have hcc := congrArg (fun (y0 : Int) => (.int .i64 y0 : Value)) hr0; exact hcc)
  ·simp only [decide_eq_false_iff_not, Int.not_lt] at hc2
   refine c_seq (c_region ?_)
   refine o_mv rfl rfl ?_
   refine o_p (p_len_slice rfl rfl Try.underlying43) ?_
   refine o_p (p_eq rfl rfl) ?_
   refine o_as rfl rfl ?_
   refine o_nil (q_then ?_)
   refine c_cond rfl (fun hc3 => ?_) (fun hc3 => ?_)
   ·simp only [beq_iff_eq] at hc3
    refine c_seq (c_region ?_)
    refine o_as rfl rfl ?_
    refine o_nil (q_then (c_ret ?_))
    refine q_block_ret (q_then_ret ?_)
    have hr0 : (5 : Int) = (Shd.ownErr l key) := by
     first | exact Shd.oe1 key (by assumption) | exact Shd.oe2 (by assumption) (by omega) | exact Shd.oe3 (by assumption) (by omega) (by omega) | exact Shd.oe4 (by assumption) (by omega) (by omega)
    refine q_end0 (v := Vi 5) (rt1 rfl (r_tmp rfl)) (i := 0) rfl ?_
    exact (by have hcc := congrArg (fun (y0 : Int) => (.int .i64 y0 : Value)) hr0; exact hcc)
   ·simp only [beq_eq_false_iff_ne, ne_eq] at hc3
    refine c_skip ?_
    refine q_block_normal (q_then ?_)
    refine c_seq (c_region ?_)
    refine o_as rfl rfl ?_
    refine o_nil (q_then (c_ret ?_))
    have hr0 : (0 : Int) = (Shd.ownErr l key) := by
     first | exact Shd.oe1 key (by assumption) | exact Shd.oe2 (by assumption) (by omega) | exact Shd.oe3 (by assumption) (by omega) (by omega) | exact Shd.oe4 (by assumption) (by omega) (by omega)
    refine q_end0 (v := Vi 0) (rt1 rfl (r_tmp rfl)) (i := 0) rfl ?_
    exact (by have hcc := congrArg (fun (y0 : Int) => (.int .i64 y0 : Value)) hr0; exact hcc)

set_option maxHeartbeats 8000000 in
set_option maxRecDepth 100000 in
theorem sowner_ok (l : List DShard) (al : Option Addr) (cl : Nat) (key : ByteArray) : Fn0 Try.prog 33 [.slice al l.length cl, .string key] (fun w => Rd tShard w al cl l) (.tuple #[Vi (Shd.owner l key), Vi (Shd.ownErr l key)]) := by
 refine fn0 (nt := 18) (F0 := [(0, .slice al l.length cl), (1, .string key)]) Try.func33 rfl Try.ntmps33 rfl rfl (fun w0 hpre => ?_)
 have hl := hpre
 have hlhl := hl.2.1
 refine c_seq (c_region ?_)
 refine o_as rfl rfl ?_
 refine o_as rfl rfl ?_
 refine o_nil (q_then (c_seq (c_seq (c_region ?_))))
 refine o_mv rfl rfl ?_
 refine o_mv rfl rfl ?_
 refine o_call0 (v := Vi (Shd.ownErr l key)) rfl (scheck2_ok l al cl key) hf68 (fun w hw => (rd_base (i := 0) rfl hl) w hw) rfl ?_
 refine o_as rfl rfl ?_
 refine o_nil (q_then (c_seq (c_region ?_)))
 refine o_mv rfl rfl ?_
 refine o_p (p_ne rfl rfl) ?_
 refine o_nil (q_then ?_)
 refine c_cond rfl (fun hc1 => ?_) (fun hc1 => ?_)
 ·simp only [bne_iff_ne, ne_eq] at hc1
  refine c_seq (c_region ?_)
  refine o_mv rfl rfl ?_
  refine o_as rfl rfl ?_
  refine o_as rfl rfl ?_
  refine o_nil (q_then (c_ret ?_))
  refine q_then_ret ?_
  have hr0 : (0 : Int) = (Shd.owner l key) := by
   first | rfl | exact (if_neg (by assumption)).symm | exact (if_pos hoe).symm | exact hoe.symm
  refine q_end0 (v := .tuple #[Vi 0, Vi (Shd.ownErr l key)]) (rt2 rfl (r_tmp rfl) (r_tmp rfl)) (i := 0) rfl ?_
  exact (by have hcc := congrArg (fun (y0 : Int) => (.tuple #[.int .i64 y0, Vi (Shd.ownErr l key)] : Value)) hr0; exact hcc)
 ·simp only [bne_eq_false_iff_eq] at hc1
  have hoe := hc1
  have hok := Shd.own_ok hc1
  have hrl := Shd.ranked_len l key
  refine c_skip (q_then (c_seq (c_region ?_)))
  refine o_mv rfl rfl ?_
  refine o_mv rfl rfl ?_
  refine o_callM rfl (sranked_ok l al cl key (by first | assumption | exact ⟨hok.1, hok.2.1⟩)) hf69 (fun w hw => (rd_base (i := 0) rfl hl) w hw) rfl (fun _ _ _ _ ha hA => SlO.agree ha hA) ?_
  rintro ⟨a4, c5⟩ S2
  refine o_know (fun w hw => own_len (i := 0) (T := tInt) hw rfl) (fun hlr6 => ?_)
  refine o_p (p_indexAddr (L := (Shd.ranked l key)) (T := tInt) (i := 0) rfl rfl (rd_own (i := 0) rfl) Try.underlying45 sz3 (by omega) (by omega)) ?_
  refine o_p (p_loadE1 (i := 0) (T := tInt) (L := (Shd.ranked l key)) (v := Vi ((Shd.ranked l key).getD 0 default)) rfl (rd_own (i := 0) rfl) (by first | assumption | omega) sh3 (congrArg tInt.enc (getd_at (by first | assumption | omega) default))) ?_
  refine o_as rfl rfl ?_
  refine o_as rfl rfl ?_
  refine o_nil (q_then (c_ret ?_))
  have hr0 : (((Shd.ranked l key).getD 0 default) : Int) = (Shd.owner l key) := by
   first | rfl | exact (if_neg (by assumption)).symm | exact (if_pos hoe).symm | exact hoe.symm
  have hr1 : (0 : Int) = (Shd.ownErr l key) := by
   first | rfl | exact (if_neg (by assumption)).symm | exact (if_pos hoe).symm | exact hoe.symm
  refine q_end0 (v := .tuple #[Vi ((Shd.ranked l key).getD 0 default), Vi 0]) (rt2 rfl (r_tmp rfl) (r_tmp rfl)) (i := 1) rfl ?_
  exact (by have hcc := congr (congrArg (fun (y0 : Int) (y1 : Int) => (.tuple #[.int .i64 y0, .int .i64 y1] : Value)) hr0) hr1; exact hcc)
end Go.Proofs.Ythecfjipaepcgaa

/- The walks, printed by a program from the translation and a specification. -/
namespace Go.Proofs.Ythecfjipaepcgaa
open Go.Sx Go.RowKit
set_option maxHeartbeats 8000000 in
set_option maxRecDepth 100000 in
theorem isNaN_ok (x : Int) : Fn0 Try.prog 121 [Vi x] (fun _ => True) (.bool false) := by
 refine fn0 (nt := 6) (F0 := [(0, Vi x)]) Try.func121 rfl Try.ntmps121 rfl rfl (fun w0 hpre => ?_)
 refine c_seq (c_region ?_)
 refine o_as rfl rfl ?_
 refine o_nil (q_then (c_seq (c_region ?_)))
 refine o_mv rfl rfl ?_
 refine o_mv rfl rfl ?_
 refine o_p (p_ne rfl rfl) ?_
 refine o_as rfl rfl ?_
 refine o_nil (q_then (c_ret ?_))
 have hr0 : ((x != x) : Bool) = false := by
  simp
 refine q_end0 (v := .bool (x != x)) (rt1 rfl (r_tmp rfl)) (i := 0) rfl ?_
 exact (by have hcc := congrArg (fun (y0 : Bool) => (.bool y0 : Value)) hr0; exact hcc)

set_option maxHeartbeats 8000000 in
set_option maxRecDepth 100000 in
theorem compare_ok (x : Int) (y : Int) : Fn0 Try.prog 112 [Vi x, Vi y] (fun _ => True) (Vi (cmpI x y)) := by
 refine fn0 (nt := 20) (F0 := [(0, Vi x), (1, Vi y)]) Try.func112 rfl Try.ntmps112 rfl rfl (fun w0 hpre => ?_)
 refine c_seq (c_region ?_)
 refine o_as rfl rfl ?_
 refine o_nil (q_then (c_seq (c_region ?_)))
 refine o_mv rfl rfl ?_
 refine o_call0 (v := .bool false) rfl (isNaN_ok x) hf121 (fun _ _ => trivial) rfl ?_
 refine o_as rfl rfl ?_
 refine o_nil (q_then (c_seq (c_region ?_)))
 refine o_mv rfl rfl ?_
 refine o_call0 (v := .bool false) rfl (isNaN_ok y) hf121 (fun _ _ => trivial) rfl ?_
 refine o_as rfl rfl ?_
 refine o_nil (q_then (c_seq (c_seq (c_region ?_))))
 refine o_mv rfl rfl ?_
 refine o_nil (q_then ?_)
 refine c_false rfl ?_
 refine c_skip (q_then (c_seq (c_seq (c_region ?_))))
 refine o_mv rfl rfl ?_
 refine o_nil (q_then ?_)
 refine c_false rfl ?_
 refine c_skip (q_then (c_seq (c_seq (c_region ?_))))
 refine o_mv rfl rfl ?_
 refine o_mv rfl rfl ?_
 refine o_p (p_lt rfl rfl) ?_
 refine o_nil (q_then ?_)
 refine c_cond rfl (fun hc1 => ?_) (fun hc1 => ?_)
 ·simp only [decide_eq_true_eq] at hc1
  refine c_seq (c_region ?_)
  refine o_as rfl rfl ?_
  refine o_nil (q_then (c_ret ?_))
  refine q_then_ret ?_
  have hr0 : ((-1) : Int) = (cmpI x y) := by
   first | exact cmp_lt (by assumption) | exact cmp_gt (by assumption) (by assumption) | exact cmp_eq (by assumption) (by assumption)
  refine q_end0 (v := Vi (-1)) (rt1 rfl (r_tmp rfl)) (i := 0) rfl ?_
  exact (by have hcc := congrArg (fun (y0 : Int) => (.int .i64 y0 : Value)) hr0; exact hcc)
 ·simp only [decide_eq_false_iff_not, Int.not_lt] at hc1
  refine c_skip (q_then (c_seq (c_seq (c_region ?_))))
  refine o_mv rfl rfl ?_
  refine o_mv rfl rfl ?_
  refine o_p (p_gt rfl rfl) ?_
  refine o_nil (q_then ?_)
  refine c_cond rfl (fun hc2 => ?_) (fun hc2 => ?_)
  ·simp only [decide_eq_true_eq] at hc2
   refine c_seq (c_region ?_)
   refine o_as rfl rfl ?_
   refine o_nil (q_then (c_ret ?_))
   refine q_then_ret ?_
   have hr0 : (1 : Int) = (cmpI x y) := by
    first | exact cmp_lt (by assumption) | exact cmp_gt (by assumption) (by assumption) | exact cmp_eq (by assumption) (by assumption)
   refine q_end0 (v := Vi 1) (rt1 rfl (r_tmp rfl)) (i := 0) rfl ?_
   exact (by have hcc := congrArg (fun (y0 : Int) => (.int .i64 y0 : Value)) hr0; exact hcc)
  ·simp only [decide_eq_false_iff_not, Int.not_lt] at hc2
   refine c_skip (q_then (c_seq (c_region ?_)))
   refine o_as rfl rfl ?_
   refine o_nil (q_then (c_ret ?_))
   have hr0 : (0 : Int) = (cmpI x y) := by
    first | exact cmp_lt (by assumption) | exact cmp_gt (by assumption) (by assumption) | exact cmp_eq (by assumption) (by assumption)
   refine q_end0 (v := Vi 0) (rt1 rfl (r_tmp rfl)) (i := 0) rfl ?_
   exact (by have hcc := congrArg (fun (y0 : Int) => (.int .i64 y0 : Value)) hr0; exact hcc)

set_option maxHeartbeats 8000000 in
set_option maxRecDepth 100000 in
theorem rplace_ok (n : Int) : Fn0 Try.prog 87 [Vi n] (fun _ => True) (.bool (Rg.okAt n)) := by
 refine fn0 (nt := 9) (F0 := [(0, Vi n)]) Try.func87 rfl Try.ntmps87 rfl rfl (fun w0 hpre => ?_)
 refine c_seq (c_region ?_)
 refine o_as rfl rfl ?_
 refine o_nil (q_then (c_seq (c_region ?_)))
 refine o_mv rfl rfl ?_
 refine o_p (p_ge rfl rfl) ?_
 refine o_mv rfl rfl ?_
 refine o_and (p := 8) 3 (decide (n < 65536)) ?_ ?_ ?_
 ·intro hb1 hk
  simp only [decide_eq_true_eq] at hb1
  refine o_unguard 5 rfl rfl ?_
  refine o_mv rfl rfl ?_
  refine o_unguard 5 rfl rfl ?_
  refine o_p (p_lt rfl rfl) ?_
  refine o_pt rfl rfl rfl ?_
  exact o_sub (sr (Sub.skip rfl (Sub.skip rfl (Sub.skip rfl (Sub.skip rfl (Sub.refl _)))))) hk
 ·intro hb1 hk
  refine o_guard_no rfl 5 rfl rfl rfl rfl rfl ?_
  refine o_guard_no rfl 5 rfl rfl rfl rfl rfl ?_
  refine o_pf rfl rfl rfl ?_
  exact o_sub (sr (Sub.skip rfl (Sub.skip rfl (Sub.skip rfl (Sub.skip rfl (Sub.refl _)))))) hk
 refine o_as rfl rfl ?_
 refine o_nil (q_then (c_ret ?_))
 have hr0 : ((decide (0 ≤ n) && decide (n < 65536)) : Bool) = (Rg.okAt n) := by
  rfl
 refine q_end0 (v := .bool (decide (0 ≤ n) && decide (n < 65536))) (rt1 rfl (r_tmp rfl)) (i := 0) rfl ?_
 exact (by have hcc := congrArg (fun (y0 : Bool) => (.bool y0 : Value)) hr0; exact hcc)

set_option maxHeartbeats 8000000 in
set_option maxRecDepth 100000 in
theorem rshard_ok (n : Int) : Fn0 Try.prog 111 [Vi n] (fun _ => True) (.bool (Rg.okShard n)) := by
 refine fn0 (nt := 9) (F0 := [(0, Vi n)]) Try.func111 rfl Try.ntmps111 rfl rfl (fun w0 hpre => ?_)
 refine c_seq (c_region ?_)
 refine o_as rfl rfl ?_
 refine o_nil (q_then (c_seq (c_region ?_)))
 refine o_mv rfl rfl ?_
 refine o_p (p_ge rfl rfl) ?_
 refine o_mv rfl rfl ?_
 refine o_and (p := 8) 3 (decide (n < 20)) ?_ ?_ ?_
 ·intro hb1 hk
  simp only [decide_eq_true_eq] at hb1
  refine o_unguard 5 rfl rfl ?_
  refine o_mv rfl rfl ?_
  refine o_unguard 5 rfl rfl ?_
  refine o_p (p_lt rfl rfl) ?_
  refine o_pt rfl rfl rfl ?_
  exact o_sub (sr (Sub.skip rfl (Sub.skip rfl (Sub.skip rfl (Sub.skip rfl (Sub.refl _)))))) hk
 ·intro hb1 hk
  refine o_guard_no rfl 5 rfl rfl rfl rfl rfl ?_
  refine o_guard_no rfl 5 rfl rfl rfl rfl rfl ?_
  refine o_pf rfl rfl rfl ?_
  exact o_sub (sr (Sub.skip rfl (Sub.skip rfl (Sub.skip rfl (Sub.skip rfl (Sub.refl _)))))) hk
 refine o_as rfl rfl ?_
 refine o_nil (q_then (c_ret ?_))
 have hr0 : ((decide (0 ≤ n) && decide (n < 20)) : Bool) = (Rg.okShard n) := by
  rfl
 refine q_end0 (v := .bool (decide (0 ≤ n) && decide (n < 20))) (rt1 rfl (r_tmp rfl)) (i := 0) rfl ?_
 exact (by have hcc := congrArg (fun (y0 : Bool) => (.bool y0 : Value)) hr0; exact hcc)

set_option maxHeartbeats 8000000 in
set_option maxRecDepth 100000 in
theorem rbyAt_ok (p : DPoint) (a : Int) : Fn0 Try.prog 89 [.agg #[Vi p.at_, Vi p.shard], Vi a] (fun _ => True) (Vi (cmpI p.at_ a)) := by
 refine fn0 (nt := 9) (F0 := [(0, .agg #[Vi p.at_, Vi p.shard]), (1, Vi a)]) Try.func89 rfl Try.ntmps89 rfl rfl (fun w0 hpre => ?_)
 refine c_seq (c_region ?_)
 refine o_box (v := .agg #[Vi p.at_, Vi p.shard]) rfl rfl (fun B1 => ?_)
 refine o_as rfl rfl ?_
 refine o_nil (q_then (c_seq (c_region ?_)))
 refine o_p (p_fieldAddr (j' := 0) rfl fo86_0 rfl) ?_
 refine o_p (p_load (i := 0) (v := Vi p.at_) rfl rfl sh3 rfl) ?_
 refine o_mv rfl rfl ?_
 refine o_call0 (v := Vi (cmpI p.at_ a)) rfl (compare_ok p.at_ a) hf112 (fun _ _ => trivial) rfl ?_
 refine o_as rfl rfl ?_
 refine o_nil (q_then (c_ret ?_))
 refine q_end0 (v := Vi (cmpI p.at_ a)) (rt1 rfl (r_tmp rfl)) (i := 1) rfl ?_
 exact rfl

set_option maxHeartbeats 8000000 in
set_option maxRecDepth 100000 in
theorem bsearch_ok (l : List DPoint) (al : Option Addr) (cl : Nat) (target : Int) (gf : FuncId) (kf : List Value) (f : DPoint → Int → Int) (Pf : World → Prop) (stf : ∀ w w', Below w.heap.size w w' → Pf w → Pf w') (okf : ∀ (x : DPoint) (y : Int), Fn0 Try.prog gf (.agg #[Vi x.at_, Vi x.shard] :: Vi y :: kf) Pf (Vi (f x y))) (hpf : HasFn Try.prog gf) (hy1 : Split (fun x => f x target) l) : Fn0 Try.prog 88 [.slice al l.length cl, Vi target, .func (.func gf) #[] kf.toArray] (fun w => Rd tPoint w al cl l ∧ Pf w) (.tuple #[Vi (lowF (fun x => f x target) l : Int), .bool (hitF (fun x => f x target) l)]) := by
 refine fn0 (nt := 49) (F0 := [(0, .slice al l.length cl), (1, Vi target), (2, .func (.func gf) #[] kf.toArray)]) Try.func88 rfl Try.ntmps88 rfl rfl (fun w0 hpre => ?_)
 obtain ⟨hl, hf⟩ := hpre
 have hlhl := hl.2.1
 refine c_seq (c_region ?_)
 refine o_as rfl rfl ?_
 refine o_as rfl rfl ?_
 refine o_nil (q_then (c_seq (c_region ?_)))
 refine o_mv rfl rfl ?_
 refine o_p (p_len_slice rfl rfl Try.underlying78) ?_
 refine o_as rfl rfl ?_
 refine o_nil (q_then (c_seq (c_region ?_)))
 refine o_mv rfl rfl ?_
 refine o_as rfl rfl ?_
 refine o_as rfl rfl ?_
 refine o_nil (q_then (c_seq (c_block ?_)))
 refine c_loop (St := Int × Int)
  (fun ⟨i, j⟩ => [(0, .slice al l.length cl), (1, Vi target), (2, .func (.func gf) #[] kf.toArray), (8, Vi (l.length : Int)), (9, Vi i), (10, Vi j)])
  (fun ⟨i, j⟩ => [base w0])
  (fun ⟨i, j⟩ => LowI (fun x => f x target) l i j)
  (fun ⟨i, j⟩ => (j - i).toNat)
  (0, (l.length : Int)) ?_ (sr (sr (sr (sr (sr (sr (Sub.nil _))))))) (fun _ hw => hw) ?_
 ·exact LowI.start _ _
 rintro ⟨i, j⟩ hI K hK1
 have h0 := hI.i0
 have h1 := hI.ij
 have h2 := hI.jl
 have hh := half_eq h0 h1 (by omega)
 show SC _ _ Try.prog 49 w0 _ _ [(0, .slice al l.length cl), (1, Vi target), (2, .func (.func gf) #[] kf.toArray), (8, Vi (l.length : Int)), (9, Vi i), (10, Vi j)] [base w0]
 refine c_seq (c_seq (c_region ?_))
 refine o_mv rfl rfl ?_
 refine o_mv rfl rfl ?_
 refine o_p (p_lt rfl rfl) ?_
 refine o_nil (q_then ?_)
 refine c_cond rfl (fun hc2 => ?_) (fun hc2 => ?_)
 ·simp only [decide_eq_true_eq] at hc2
  refine c_skip (q_then (c_block (c_seq (c_region ?_))))
  refine o_mv rfl rfl ?_
  refine o_mv rfl rfl ?_
  refine o_p (p_addb rfl rfl (by omega)) ?_
  refine o_p (pu_conv (z := (i + j)) rfl Try.underlying3 Try.underlying138) ?_
  refine o_p (pu_shr (p := (toU (i + j))) (m := 1) rfl rfl (by decide)) ?_
  refine o_p (p_conv (z := ((shrU (toU (i + j)) 1).toNat : Int)) rfl Try.underlying138 Try.underlying3) ?_
  refine o_as rfl rfl ?_
  refine o_nil (q_then (c_seq (c_region ?_)))
  refine o_mv rfl rfl ?_
  refine o_mv rfl rfl ?_
  refine o_mv rfl rfl ?_
  refine o_p (p_indexAddr (L := l) (T := tPoint) (i := (IntKind.i64.wrap ((shrU (toU (i + j)) 1).toNat : Int))) rfl rfl (rd_base (i := 0) rfl hl) Try.underlying78 sz86 (by omega) (by omega)) ?_
  refine o_p (p_loadEn (i := (IntKind.i64.wrap ((shrU (toU (i + j)) 1).toNat : Int)).toNat) (T := tPoint) (L := l) (vs := [Vi ((l.getD ((IntKind.i64.wrap ((shrU (toU (i + j)) 1).toNat : Int)).toNat) default).at_), Vi ((l.getD ((IntKind.i64.wrap ((shrU (toU (i + j)) 1).toNat : Int)).toNat) default).shard)]) rfl (rd_base (i := 0) rfl hl) (by first | assumption | omega) sh86 (congrArg tPoint.enc (getd_at (by first | assumption | omega) default))) ?_
  refine o_mv rfl rfl ?_
  refine o_call0V (vs := [.agg #[Vi ((l.getD ((IntKind.i64.wrap ((shrU (toU (i + j)) 1).toNat : Int)).toNat) default).at_), Vi ((l.getD ((IntKind.i64.wrap ((shrU (toU (i + j)) 1).toNat : Int)).toNat) default).shard)], Vi target]) (caps := kf) (v := Vi (f (l.getD ((IntKind.i64.wrap ((shrU (toU (i + j)) 1).toNat : Int)).toNat) default) target)) rfl rfl (okf (l.getD ((IntKind.i64.wrap ((shrU (toU (i + j)) 1).toNat : Int)).toNat) default) target) hpf (pre_base (i := 0) rfl stf hf) rfl ?_
  refine o_p (p_lt rfl rfl) ?_
  refine o_nil (q_then ?_)
  refine c_cond rfl (fun hc3 => ?_) (fun hc3 => ?_)
  ·simp only [decide_eq_true_eq] at hc3
   refine c_region ?_
   refine o_mv rfl rfl ?_
   refine o_p (p_addb rfl rfl (by omega)) ?_
   refine o_as rfl rfl ?_
   refine o_nil ?_
   refine q_block_normal ?_
   refine q_round hK1 (((IntKind.i64.wrap ((shrU (toU (i + j)) 1).toNat : Int)) + 1), j) ?_ ?_ ?_ ?_
   ·clear hK1
    first | exact hI.up hy1 (by omega) (by omega) (by omega) (by rw [getd_at (by omega) default]; assumption) | exact hI.down hy1 (by omega) (by omega) (by omega) (by rw [getd_at (by omega) default]; assumption)
   ·(try dsimp only); omega
   ·exact sr (sr (sr (sr (sr (sr (Sub.nil _))))))
   ·exact pk [0]
  ·simp only [decide_eq_false_iff_not, Int.not_lt] at hc3
   refine c_region ?_
   refine o_mv rfl rfl ?_
   refine o_as rfl rfl ?_
   refine o_nil ?_
   refine q_block_normal ?_
   refine q_round hK1 (i, (IntKind.i64.wrap ((shrU (toU (i + j)) 1).toNat : Int))) ?_ ?_ ?_ ?_
   ·clear hK1
    first | exact hI.up hy1 (by omega) (by omega) (by omega) (by rw [getd_at (by omega) default]; assumption) | exact hI.down hy1 (by omega) (by omega) (by omega) (by rw [getd_at (by omega) default]; assumption)
   ·(try dsimp only); omega
   ·exact sr (sr (sr (sr (sr (sr (Sub.nil _))))))
   ·exact pk [0]
 ·simp only [decide_eq_false_iff_not, Int.not_lt] at hc2
  refine c_exit ?_
  refine q_then_exit (q_then_exit (q_block_exit (q_then ?_)))
  refine c_seq (c_region ?_)
  refine o_mv rfl rfl ?_
  refine o_mv rfl rfl ?_
  refine o_mv rfl rfl ?_
  refine o_p (p_lt rfl rfl) ?_
  refine o_mv rfl rfl ?_
  refine o_and (p := 48) 9 ((f (l.getD i.toNat default) target) == 0) ?_ ?_ ?_
  ·intro hb4 hk
   simp only [decide_eq_true_eq] at hb4
   refine o_unguard 39 rfl rfl ?_
   refine o_mv rfl rfl ?_
   refine o_unguard 39 rfl rfl ?_
   refine o_mv rfl rfl ?_
   refine o_unguard 39 rfl rfl ?_
   refine o_mv rfl rfl ?_
   refine o_unguard 39 rfl rfl ?_
   refine o_p (p_indexAddr (L := l) (T := tPoint) (i := i) rfl rfl (rd_base (i := 0) rfl hl) Try.underlying78 sz86 (by omega) (by omega)) ?_
   refine o_unguard 39 rfl rfl ?_
   refine o_p (p_loadEn (i := i.toNat) (T := tPoint) (L := l) (vs := [Vi ((l.getD i.toNat default).at_), Vi ((l.getD i.toNat default).shard)]) rfl (rd_base (i := 0) rfl hl) (by first | assumption | omega) sh86 (congrArg tPoint.enc (getd_at (by first | assumption | omega) default))) ?_
   refine o_unguard 39 rfl rfl ?_
   refine o_mv rfl rfl ?_
   refine o_unguard 39 rfl rfl ?_
   refine o_call0V (vs := [.agg #[Vi ((l.getD i.toNat default).at_), Vi ((l.getD i.toNat default).shard)], Vi target]) (caps := kf) (v := Vi (f (l.getD i.toNat default) target)) rfl rfl (okf (l.getD i.toNat default) target) hpf (pre_base (i := 0) rfl stf hf) rfl ?_
   refine o_unguard 39 rfl rfl ?_
   refine o_p (p_eq rfl rfl) ?_
   refine o_pt rfl rfl rfl ?_
   exact o_sub (sr (Sub.skip rfl (Sub.skip rfl (Sub.skip rfl (Sub.skip rfl (Sub.skip rfl (Sub.skip rfl (Sub.skip rfl (Sub.skip rfl (Sub.skip rfl (Sub.skip rfl (Sub.refl _)))))))))))) hk
  ·intro hb4 hk
   refine o_guard_no rfl 39 rfl rfl rfl rfl rfl ?_
   refine o_guard_no rfl 39 rfl rfl rfl rfl rfl ?_
   refine o_guard_no rfl 39 rfl rfl rfl rfl rfl ?_
   refine o_guard_no rfl 39 rfl rfl rfl rfl rfl ?_
   refine o_guard_no rfl 39 rfl rfl rfl rfl rfl ?_
   refine o_guard_no rfl 39 rfl rfl rfl rfl rfl ?_
   refine o_guard_no rfl 39 rfl rfl rfl rfl rfl ?_
   refine o_guard_no rfl 39 rfl rfl rfl rfl rfl ?_
   refine o_pf rfl rfl rfl ?_
   exact o_sub (sr (Sub.skip rfl (Sub.skip rfl (Sub.skip rfl (Sub.skip rfl (Sub.skip rfl (Sub.skip rfl (Sub.skip rfl (Sub.skip rfl (Sub.skip rfl (Sub.skip rfl (Sub.refl _)))))))))))) hk
  refine o_as rfl rfl ?_
  refine o_as rfl rfl ?_
  refine o_nil (q_then (c_ret ?_))
  have hr0 : (i : Int) = (lowF (fun x => f x target) l : Int) := by
   exact hI.done (by omega)
  have hr1 : ((decide (i < (l.length : Int)) && ((f (l.getD i.toNat default) target) == 0)) : Bool) = (hitF (fun x => f x target) l) := by
   exact hit_eq (f := fun x => f x target) (hI.done (by omega))
  refine q_end0 (v := .tuple #[Vi i, .bool (decide (i < (l.length : Int)) && ((f (l.getD i.toNat default) target) == 0))]) (rt2 rfl (r_tmp rfl) (r_tmp rfl)) (i := 0) rfl ?_
  exact (by have hcc := congr (congrArg (fun (y0 : Int) (y1 : Bool) => (.tuple #[.int .i64 y0, .bool y1] : Value)) hr0) hr1; exact hcc)

set_option maxHeartbeats 8000000 in
set_option maxRecDepth 100000 in
theorem rcheck_ok (l : List DPoint) (al : Option Addr) (cl : Nat) : Fn0 Try.prog 86 [.slice al l.length cl] (fun w => Rd tPoint w al cl l) (Vi (Rg.check l)) := by
 refine fn0 (nt := 34) (F0 := [(0, .slice al l.length cl)]) Try.func86 rfl Try.ntmps86 rfl rfl (fun w0 hpre => ?_)
 have hl := hpre
 have hlhl := hl.2.1
 refine c_seq (c_region ?_)
 refine o_as rfl rfl ?_
 refine o_nil (q_then (c_seq (c_seq (c_region ?_))))
 refine o_mv rfl rfl ?_
 refine o_p (p_len_slice rfl rfl Try.underlying78) ?_
 refine o_p (p_gt rfl rfl) ?_
 refine o_nil (q_then ?_)
 refine c_cond rfl (fun hc1 => ?_) (fun hc1 => ?_)
 ·simp only [decide_eq_true_eq] at hc1
  refine c_seq (c_region ?_)
  refine o_as rfl rfl ?_
  refine o_nil (q_then (c_ret ?_))
  refine q_then_ret ?_
  have hr0 : (2 : Int) = (Rg.check l) := by
   first | exact Rg.chk2 (by assumption) | exact hI.bad (by omega) (by omega) (Rg.bad_p _ (by assumption)) | exact hI.low (by omega) (by omega) (Rg.fine_p _ (by assumption)) (by assumption) | exact hI.done (by omega) (by omega)
  refine q_end0 (v := Vi 2) (rt1 rfl (r_tmp rfl)) (i := 0) rfl ?_
  exact (by have hcc := congrArg (fun (y0 : Int) => (.int .i64 y0 : Value)) hr0; exact hcc)
 ·simp only [decide_eq_false_iff_not, Int.not_lt] at hc1
  refine c_skip (q_then (c_seq (c_region ?_)))
  refine o_as rfl rfl ?_
  refine o_nil (q_then (c_seq (c_seq (c_region ?_))))
  refine o_mv rfl rfl ?_
  refine o_p (p_len_slice rfl rfl Try.underlying78) ?_
  refine o_mv rfl rfl ?_
  refine o_nil (q_then (c_block ?_))
  refine c_loop (St := Int × Nat)
   (fun ⟨last, k⟩ => [(3, Vi last), (9, .slice al l.length cl), (10, Vi (l.length : Int)), (11, Vi (k : Int))])
   (fun ⟨last, k⟩ => [base w0])
   (fun ⟨last, k⟩ => Rg.CkI l last k)
   (fun ⟨last, k⟩ => l.length - k)
   ((-1), 0) ?_ (sr (sr (sr (sr (Sub.nil _))))) (fun _ hw => hw) ?_
  ·exact Rg.CkI.start _
  rintro ⟨last, k⟩ hI K hK2
  show SC _ _ Try.prog 34 w0 _ _ [(3, Vi last), (9, .slice al l.length cl), (10, Vi (l.length : Int)), (11, Vi (k : Int))] [base w0]
  refine c_seq (c_region ?_)
  refine o_p (p_lt rfl rfl) ?_
  refine o_nil (q_then (c_seq ?_))
  refine c_cond rfl (fun hc3 => ?_) (fun hc3 => ?_)
  ·simp only [decide_eq_true_eq] at hc3
   refine c_skip (q_then (c_seq (c_block (c_seq (c_region ?_)))))
   refine o_p (p_indexAddr (L := l) (T := tPoint) (i := (k : Int)) rfl rfl (rd_base (i := 0) rfl hl) Try.underlying78 sz86 (by omega) (by omega)) ?_
   refine o_p (p_loadEn (i := k) (T := tPoint) (L := l) (vs := [Vi ((l[k]).at_), Vi ((l[k]).shard)]) rfl (rd_base (i := 0) rfl hl) (by first | assumption | omega) sh86 rfl) ?_
   refine o_alloc ze86 rfl (fun B4 => ?_)
   refine o_storeN (i := 0) (vs := [Vi ((l[k]).at_), Vi ((l[k]).shard)]) (cs' := [Vi ((l[k]).at_), Vi ((l[k]).shard)]) rfl rfl rfl sz86 rfl rfl rfl rfl ?_
   refine o_nil (q_then (c_seq (c_block (c_seq (c_region ?_)))))
   refine o_p (p_fieldAddr (j' := 1) rfl fo86_1 rfl) ?_
   refine o_p (p_load (i := 0) (v := Vi ((l[k]).shard)) rfl rfl sh3 rfl) ?_
   refine o_call0 (v := .bool (Rg.okShard ((l[k]).shard))) rfl (rshard_ok ((l[k]).shard)) hf111 (fun _ _ => trivial) rfl ?_
   refine o_p (p_not (b := (Rg.okShard ((l[k]).shard))) rfl) ?_
   refine o_mv rfl rfl ?_
   refine o_or (p := 25) 5 (!(Rg.okAt ((l[k]).at_))) ?_ ?_ ?_
   ·intro hb5 hk
    simp only [Bool.not_eq_false'] at hb5
    refine o_unguard 20 rfl rfl ?_
    refine o_p (p_fieldAddr (j' := 0) rfl fo86_0 rfl) ?_
    refine o_unguard 20 rfl rfl ?_
    refine o_p (p_load (i := 0) (v := Vi ((l[k]).at_)) rfl rfl sh3 rfl) ?_
    refine o_unguard 20 rfl rfl ?_
    refine o_call0 (v := .bool (Rg.okAt ((l[k]).at_))) rfl (rplace_ok ((l[k]).at_)) hf87 (fun _ _ => trivial) rfl ?_
    refine o_unguard 20 rfl rfl ?_
    refine o_p (p_not (b := (Rg.okAt ((l[k]).at_))) rfl) ?_
    refine o_pf rfl rfl rfl ?_
    exact o_sub (sr (Sub.skip rfl (Sub.skip rfl (Sub.skip rfl (Sub.skip rfl (Sub.skip rfl (Sub.skip rfl (Sub.refl _)))))))) hk
   ·intro hb5 hk
    refine o_guard_no rfl 20 rfl rfl rfl rfl rfl ?_
    refine o_guard_no rfl 20 rfl rfl rfl rfl rfl ?_
    refine o_guard_no rfl 20 rfl rfl rfl rfl rfl ?_
    refine o_guard_no rfl 20 rfl rfl rfl rfl rfl ?_
    refine o_pt rfl rfl rfl ?_
    exact o_sub (sr (Sub.skip rfl (Sub.skip rfl (Sub.skip rfl (Sub.skip rfl (Sub.skip rfl (Sub.skip rfl (Sub.refl _)))))))) hk
   refine o_as rfl rfl ?_
   refine o_nil (q_then ?_)
   refine c_cond rfl (fun hc6 => ?_) (fun hc6 => ?_)
   ·simp only [Bool.or_eq_true, Bool.not_eq_true'] at hc6
    refine c_seq (c_region ?_)
    refine o_as rfl rfl ?_
    refine o_nil (q_then (c_ret ?_))
    refine q_block_ret (q_then_ret (q_block_ret (q_then_ret (q_then_ret (q_block_ret (q_then_ret ?_))))))
    have hr0 : (3 : Int) = (Rg.check l) := by
     first | exact Rg.chk2 (by assumption) | exact hI.bad (by omega) (by omega) (Rg.bad_p _ (by assumption)) | exact hI.low (by omega) (by omega) (Rg.fine_p _ (by assumption)) (by assumption) | exact hI.done (by omega) (by omega)
    refine q_end0 (v := Vi 3) (rt1 rfl (r_tmp rfl)) (i := 1) rfl ?_
    exact (by have hcc := congrArg (fun (y0 : Int) => (.int .i64 y0 : Value)) hr0; exact hcc)
   ·simp only [Bool.or_eq_false_iff, Bool.not_eq_false'] at hc6
    refine c_seq (c_region ?_)
    refine o_p (p_fieldAddr (j' := 0) rfl fo86_0 rfl) ?_
    refine o_p (p_load (i := 0) (v := Vi ((l[k]).at_)) rfl rfl sh3 rfl) ?_
    refine o_mv rfl rfl ?_
    refine o_p (p_le rfl rfl) ?_
    refine o_as rfl rfl ?_
    refine o_nil (q_then ?_)
    refine c_cond rfl (fun hc7 => ?_) (fun hc7 => ?_)
    ·simp only [decide_eq_true_eq] at hc7
     refine c_seq (c_region ?_)
     refine o_as rfl rfl ?_
     refine o_nil (q_then (c_ret ?_))
     refine q_block_ret (q_then_ret (q_block_ret (q_then_ret (q_then_ret (q_block_ret (q_then_ret ?_))))))
     have hr0 : (4 : Int) = (Rg.check l) := by
      first | exact Rg.chk2 (by assumption) | exact hI.bad (by omega) (by omega) (Rg.bad_p _ (by assumption)) | exact hI.low (by omega) (by omega) (Rg.fine_p _ (by assumption)) (by assumption) | exact hI.done (by omega) (by omega)
     refine q_end0 (v := Vi 4) (rt1 rfl (r_tmp rfl)) (i := 1) rfl ?_
     exact (by have hcc := congrArg (fun (y0 : Int) => (.int .i64 y0 : Value)) hr0; exact hcc)
    ·simp only [decide_eq_false_iff_not, Int.not_le] at hc7
     refine c_skip ?_
     refine q_block_normal (q_then ?_)
     refine c_region ?_
     refine o_p (p_fieldAddr (j' := 0) rfl fo86_0 rfl) ?_
     refine o_p (p_load (i := 0) (v := Vi ((l[k]).at_)) rfl rfl sh3 rfl) ?_
     refine o_as rfl rfl ?_
     refine o_nil ?_
     refine q_block_normal (q_then ?_)
     refine c_region ?_
     refine o_p (p_addb rfl rfl (by omega)) ?_
     refine o_mv rfl rfl ?_
     refine o_nil ?_
     refine q_round hK2 ((l[k]).at_, k + 1) ?_ ?_ ?_ ?_
     ·clear hK2
      exact hI.next (by omega) (Rg.fine_p _ (by assumption)) (by assumption)
     ·(try dsimp only); omega
     ·exact sr (sr (sr (sr (Sub.nil _))))
     ·exact pk [1]
  ·simp only [decide_eq_false_iff_not, Int.not_lt] at hc3
   refine c_exit ?_
   refine q_then_exit (q_then_exit (q_block_exit (q_then ?_)))
   refine c_seq (c_region ?_)
   refine o_as rfl rfl ?_
   refine o_nil (q_then (c_ret ?_))
   have hr0 : (0 : Int) = (Rg.check l) := by
    first | exact Rg.chk2 (by assumption) | exact hI.bad (by omega) (by omega) (Rg.bad_p _ (by assumption)) | exact hI.low (by omega) (by omega) (Rg.fine_p _ (by assumption)) (by assumption) | exact hI.done (by omega) (by omega)
   refine q_end0 (v := Vi 0) (rt1 rfl (r_tmp rfl)) (i := 0) rfl ?_
   exact (by have hcc := congrArg (fun (y0 : Int) => (.int .i64 y0 : Value)) hr0; exact hcc)

set_option maxHeartbeats 8000000 in
set_option maxRecDepth 100000 in
theorem rowner_ok (l : List DPoint) (al : Option Addr) (cl : Nat) (a : Int) : Fn0 Try.prog 54 [.slice al l.length cl, Vi a] (fun w => Rd tPoint w al cl l) (.tuple #[Vi (Rg.owner l a), Vi (Rg.ownErr l a)]) := by
 refine fn0 (nt := 37) (F0 := [(0, .slice al l.length cl), (1, Vi a)]) Try.func54 rfl Try.ntmps54 rfl rfl (fun w0 hpre => ?_)
 have hl := hpre
 have hlhl := hl.2.1
 refine c_seq (c_region ?_)
 refine o_as rfl rfl ?_
 refine o_as rfl rfl ?_
 refine o_nil (q_then (c_seq (c_region ?_)))
 refine o_mv rfl rfl ?_
 refine o_call0 (v := Vi (Rg.check l)) rfl (rcheck_ok l al cl) hf86 (fun w hw => (rd_base (i := 0) rfl hl) w hw) rfl ?_
 refine o_as rfl rfl ?_
 refine o_nil (q_then (c_seq (c_block (c_seq (c_region ?_)))))
 refine o_mv rfl rfl ?_
 refine o_p (p_ne rfl rfl) ?_
 refine o_as rfl rfl ?_
 refine o_nil (q_then ?_)
 refine c_cond rfl (fun hc1 => ?_) (fun hc1 => ?_)
 ·simp only [bne_iff_ne, ne_eq] at hc1
  refine c_seq (c_region ?_)
  refine o_mv rfl rfl ?_
  refine o_as rfl rfl ?_
  refine o_as rfl rfl ?_
  refine o_nil (q_then (c_ret ?_))
  refine q_block_ret (q_then_ret ?_)
  obtain ⟨hv1, hv2⟩ : _ ∧ _ := by first | exact Rg.ow1 (l := l) (a := a) (by assumption) | exact Rg.ow2 (l := l) (a := a) hck (by assumption) | exact Rg.ow3 (l := l) (a := a) hck (by assumption) (by omega) | exact Rg.ow4 (l := l) (a := a) hck (by assumption) hpos
  have hr0 : (0 : Int) = (Rg.owner l a) := by
   first | exact hv1.symm | exact hv2.symm | (rw [hv1]; unfold Rg.ownGo; simp only [hmod, Int.toNat_natCast]; rw [← getd_at hix default])
  have hr1 : ((Rg.check l) : Int) = (Rg.ownErr l a) := by
   first | exact hv1.symm | exact hv2.symm | (rw [hv1]; unfold Rg.ownGo; simp only [hmod, Int.toNat_natCast]; rw [← getd_at hix default])
  refine q_end0 (v := .tuple #[Vi 0, Vi (Rg.check l)]) (rt2 rfl (r_tmp rfl) (r_tmp rfl)) (i := 0) rfl ?_
  exact (by have hcc := congr (congrArg (fun (y0 : Int) (y1 : Int) => (.tuple #[.int .i64 y0, .int .i64 y1] : Value)) hr0) hr1; exact hcc)
 ·simp only [bne_eq_false_iff_eq] at hc1
  have hck := hc1
  have hok := Rg.check_ok.1 hck
  have hlen := hok.len
  refine c_seq (c_region ?_)
  refine o_mv rfl rfl ?_
  refine o_call0 (v := .bool (Rg.okAt a)) rfl (rplace_ok a) hf87 (fun _ _ => trivial) rfl ?_
  refine o_p (p_not (b := (Rg.okAt a)) rfl) ?_
  refine o_as rfl rfl ?_
  refine o_nil (q_then ?_)
  refine c_cond rfl (fun hc2 => ?_) (fun hc2 => ?_)
  ·simp only [Bool.not_eq_true'] at hc2
   refine c_seq (c_region ?_)
   refine o_as rfl rfl ?_
   refine o_as rfl rfl ?_
   refine o_nil (q_then (c_ret ?_))
   refine q_block_ret (q_then_ret ?_)
   obtain ⟨hv1, hv2⟩ : _ ∧ _ := by first | exact Rg.ow1 (l := l) (a := a) (by assumption) | exact Rg.ow2 (l := l) (a := a) hck (by assumption) | exact Rg.ow3 (l := l) (a := a) hck (by assumption) (by omega) | exact Rg.ow4 (l := l) (a := a) hck (by assumption) hpos
   have hr0 : (0 : Int) = (Rg.owner l a) := by
    first | exact hv1.symm | exact hv2.symm | (rw [hv1]; unfold Rg.ownGo; simp only [hmod, Int.toNat_natCast]; rw [← getd_at hix default])
   have hr1 : (3 : Int) = (Rg.ownErr l a) := by
    first | exact hv1.symm | exact hv2.symm | (rw [hv1]; unfold Rg.ownGo; simp only [hmod, Int.toNat_natCast]; rw [← getd_at hix default])
   refine q_end0 (v := .tuple #[Vi 0, Vi 3]) (rt2 rfl (r_tmp rfl) (r_tmp rfl)) (i := 0) rfl ?_
   exact (by have hcc := congr (congrArg (fun (y0 : Int) (y1 : Int) => (.tuple #[.int .i64 y0, .int .i64 y1] : Value)) hr0) hr1; exact hcc)
  ·simp only [Bool.not_eq_false'] at hc2
   refine c_seq (c_region ?_)
   refine o_mv rfl rfl ?_
   refine o_p (p_len_slice rfl rfl Try.underlying78) ?_
   refine o_p (p_eq rfl rfl) ?_
   refine o_as rfl rfl ?_
   refine o_nil (q_then ?_)
   refine c_cond rfl (fun hc3 => ?_) (fun hc3 => ?_)
   ·simp only [beq_iff_eq] at hc3
    refine c_seq (c_region ?_)
    refine o_as rfl rfl ?_
    refine o_as rfl rfl ?_
    refine o_nil (q_then (c_ret ?_))
    refine q_block_ret (q_then_ret ?_)
    obtain ⟨hv1, hv2⟩ : _ ∧ _ := by first | exact Rg.ow1 (l := l) (a := a) (by assumption) | exact Rg.ow2 (l := l) (a := a) hck (by assumption) | exact Rg.ow3 (l := l) (a := a) hck (by assumption) (by omega) | exact Rg.ow4 (l := l) (a := a) hck (by assumption) hpos
    have hr0 : (0 : Int) = (Rg.owner l a) := by
     first | exact hv1.symm | exact hv2.symm | (rw [hv1]; unfold Rg.ownGo; simp only [hmod, Int.toNat_natCast]; rw [← getd_at hix default])
    have hr1 : (5 : Int) = (Rg.ownErr l a) := by
     first | exact hv1.symm | exact hv2.symm | (rw [hv1]; unfold Rg.ownGo; simp only [hmod, Int.toNat_natCast]; rw [← getd_at hix default])
    refine q_end0 (v := .tuple #[Vi 0, Vi 5]) (rt2 rfl (r_tmp rfl) (r_tmp rfl)) (i := 0) rfl ?_
    exact (by have hcc := congr (congrArg (fun (y0 : Int) (y1 : Int) => (.tuple #[.int .i64 y0, .int .i64 y1] : Value)) hr0) hr1; exact hcc)
   ·simp only [beq_eq_false_iff_ne, ne_eq] at hc3
    have hpos : 0 < l.length := by omega
    have hix := Rg.ix_lt hpos a
    have hmod : ((lowF (fun x => (fun (x : DPoint) (y : Int) => cmpI x.at_ y) x a) l : Nat) : Int).tmod (l.length : Int) = (Rg.ownIx l a : Int) := Rg.ix_mod hpos a
    refine c_skip ?_
    refine q_block_normal (q_then ?_)
    refine c_seq (c_region ?_)
    refine o_mv rfl rfl ?_
    refine o_mv rfl rfl ?_
    refine o_call0 (v := .tuple #[Vi (lowF (fun x => (fun (x : DPoint) (y : Int) => (cmpI x.at_ y)) x a) l : Int), .bool (hitF (fun x => (fun (x : DPoint) (y : Int) => (cmpI x.at_ y)) x a) l)]) rfl (bsearch_ok l al cl a 89 [] (fun x y => (cmpI x.at_ y)) (fun _ => True) (fun _ _ _ h => h) (fun x y => rbyAt_ok x y) hf89 (by first | assumption | exact Rg.split_at hok.fine.sorted _ | exact Rg.split_at hI.fine.sorted _)) hf88 (fun w hw => ⟨(rd_base (i := 0) rfl hl) w hw, trivial⟩) rfl ?_
    refine o_mv rfl rfl ?_
    refine o_ex rfl rfl rfl ?_
    refine o_ex rfl rfl rfl ?_
    refine o_as rfl rfl ?_
    refine o_as rfl rfl ?_
    refine o_nil (q_then (c_seq (c_region ?_)))
    refine o_mv rfl rfl ?_
    refine o_mv rfl rfl ?_
    refine o_mv rfl rfl ?_
    refine o_p (p_len_slice rfl rfl Try.underlying78) ?_
    refine o_p (p_rem (p := (lowF (fun x => (fun (x : DPoint) (y : Int) => (cmpI x.at_ y)) x a) l : Int)) (q := (l.length : Int)) rfl rfl (by omega)) ?_
    refine o_p (p_indexAddr (L := l) (T := tPoint) (i := ((lowF (fun x => (fun (x : DPoint) (y : Int) => (cmpI x.at_ y)) x a) l : Int).tmod (l.length : Int))) rfl rfl (rd_base (i := 0) rfl hl) Try.underlying78 sz86 (by omega) (by omega)) ?_
    refine o_p (p_fieldAddrE rfl fo86_1) ?_
    refine o_p (p_loadF (i := ((lowF (fun x => (fun (x : DPoint) (y : Int) => (cmpI x.at_ y)) x a) l : Int).tmod (l.length : Int)).toNat) (j := 1) (T := tPoint) (L := l) (v := Vi ((l[((lowF (fun x => (fun (x : DPoint) (y : Int) => (cmpI x.at_ y)) x a) l : Int).tmod (l.length : Int)).toNat]).shard)) rfl (rd_base (i := 0) rfl hl) (by first | assumption | omega) sh3 rfl) ?_
    refine o_as rfl rfl ?_
    refine o_as rfl rfl ?_
    refine o_nil (q_then (c_ret ?_))
    obtain ⟨hv1, hv2⟩ : _ ∧ _ := by first | exact Rg.ow1 (l := l) (a := a) (by assumption) | exact Rg.ow2 (l := l) (a := a) hck (by assumption) | exact Rg.ow3 (l := l) (a := a) hck (by assumption) (by omega) | exact Rg.ow4 (l := l) (a := a) hck (by assumption) hpos
    have hr0 : ((l[((lowF (fun x => (fun (x : DPoint) (y : Int) => (cmpI x.at_ y)) x a) l : Int).tmod (l.length : Int)).toNat]).shard : Int) = (Rg.owner l a) := by
     first | exact hv1.symm | exact hv2.symm | (rw [hv1]; unfold Rg.ownGo; simp only [hmod, Int.toNat_natCast]; rw [← getd_at hix default])
    have hr1 : (0 : Int) = (Rg.ownErr l a) := by
     first | exact hv1.symm | exact hv2.symm | (rw [hv1]; unfold Rg.ownGo; simp only [hmod, Int.toNat_natCast]; rw [← getd_at hix default])
    refine q_end0 (v := .tuple #[Vi ((l[((lowF (fun x => (fun (x : DPoint) (y : Int) => (cmpI x.at_ y)) x a) l : Int).tmod (l.length : Int)).toNat]).shard), Vi 0]) (rt2 rfl (r_tmp rfl) (r_tmp rfl)) (i := 0) rfl ?_
    exact (by have hcc := congr (congrArg (fun (y0 : Int) (y1 : Int) => (.tuple #[.int .i64 y0, .int .i64 y1] : Value)) hr0) hr1; exact hcc)

set_option maxHeartbeats 8000000 in
set_option maxRecDepth 100000 in
theorem rshares_ok (l : List DPoint) (al : Option Addr) (cl : Nat) (n : Int) : FnM Try.prog 53 [.slice al l.length cl, Vi n] (fun w => Rd tPoint w al cl l) (Option Addr × Nat) (fun p => .tuple #[.slice p.1 (Rg.shares l n).length p.2, Vi (Rg.shErr l n)]) (fun p S w => SlO tInt S w p.1 p.2 (Rg.shares l n)) := by
 refine fnM (nt := 60) (F0 := [(0, .slice al l.length cl), (1, Vi n)]) Try.func53 rfl Try.ntmps53 rfl rfl (fun w0 hpre => ?_)
 have hl := hpre
 have hlhl := hl.2.1
 refine c_seq (c_region ?_)
 refine o_as rfl rfl ?_
 refine o_as rfl rfl ?_
 refine o_nil (q_then (c_seq (c_region ?_)))
 refine o_mv rfl rfl ?_
 refine o_call0 (v := Vi (Rg.check l)) rfl (rcheck_ok l al cl) hf86 (fun w hw => (rd_base (i := 0) rfl hl) w hw) rfl ?_
 refine o_as rfl rfl ?_
 refine o_nil (q_then (c_seq (c_block (c_seq (c_region ?_)))))
 refine o_mv rfl rfl ?_
 refine o_p (p_ne rfl rfl) ?_
 refine o_as rfl rfl ?_
 refine o_nil (q_then ?_)
 refine c_cond rfl (fun hc1 => ?_) (fun hc1 => ?_)
 ·simp only [bne_iff_ne, ne_eq] at hc1
  refine c_seq (c_region ?_)
  refine o_mv rfl rfl ?_
  refine o_as rfl rfl ?_
  refine o_as rfl rfl ?_
  refine o_nil (q_then (c_ret ?_))
  refine q_block_ret (q_then_ret ?_)
  obtain ⟨hv1, hv2⟩ : _ ∧ _ := by first | exact Rg.sh1 (l := l) (n := n) (by assumption) | exact Rg.sh2 (n := n) hck (by omega) | exact Rg.sh3 (n := n) hck hnn (by omega) | exact Rg.sh4 (n := n) hck hnn hpos
  have hr0 : ([] : List Int) = (Rg.shares l n) := by
   first | exact hv1.symm | exact hv2.symm | (rw [hv1, hdn])
  have hr1 : ((Rg.check l) : Int) = (Rg.shErr l n) := by
   first | exact hv1.symm | exact hv2.symm | (rw [hv1, hdn])
  refine q_endM (p := (none, 0)) (fun _ => False) (rt2 rfl (r_tmp rfl) (r_tmp rfl)) (i := 0) rfl ?_ ?_ ?_
  ·exact (by have hcc := congr (congrArg (fun (y0 : List Int) (y1 : Int) => (.tuple #[.slice none y0.length 0, .int .i64 y1] : Value)) hr0) hr1; exact hcc)
  ·intro w hw b hb; exact hb.elim
  ·intro w hw; exact Eq.mp (congrArg (fun y => SlO tInt _ w none 0 y) hr0) (SlO.nil tInt w)
 ·simp only [bne_eq_false_iff_eq] at hc1
  have hck := hc1
  have hok := Rg.check_ok.1 hck
  have hlen := hok.len
  refine c_seq (c_region ?_)
  refine o_mv rfl rfl ?_
  refine o_p (p_lt rfl rfl) ?_
  refine o_mv rfl rfl ?_
  refine o_or (p := 23) 3 (decide (20 < n)) ?_ ?_ ?_
  ·intro hb2 hk
   simp only [decide_eq_false_iff_not, Int.not_lt] at hb2
   refine o_unguard 20 rfl rfl ?_
   refine o_mv rfl rfl ?_
   refine o_unguard 20 rfl rfl ?_
   refine o_p (p_gt rfl rfl) ?_
   refine o_pf rfl rfl rfl ?_
   exact o_sub (sr (Sub.skip rfl (Sub.skip rfl (Sub.skip rfl (Sub.skip rfl (Sub.refl _)))))) hk
  ·intro hb2 hk
   refine o_guard_no rfl 20 rfl rfl rfl rfl rfl ?_
   refine o_guard_no rfl 20 rfl rfl rfl rfl rfl ?_
   refine o_pt rfl rfl rfl ?_
   exact o_sub (sr (Sub.skip rfl (Sub.skip rfl (Sub.skip rfl (Sub.skip rfl (Sub.refl _)))))) hk
  refine o_as rfl rfl ?_
  refine o_nil (q_then ?_)
  refine c_cond rfl (fun hc3 => ?_) (fun hc3 => ?_)
  ·simp only [Bool.or_eq_true, decide_eq_true_eq] at hc3
   refine c_seq (c_region ?_)
   refine o_as rfl rfl ?_
   refine o_as rfl rfl ?_
   refine o_nil (q_then (c_ret ?_))
   refine q_block_ret (q_then_ret ?_)
   obtain ⟨hv1, hv2⟩ : _ ∧ _ := by first | exact Rg.sh1 (l := l) (n := n) (by assumption) | exact Rg.sh2 (n := n) hck (by omega) | exact Rg.sh3 (n := n) hck hnn (by omega) | exact Rg.sh4 (n := n) hck hnn hpos
   have hr0 : ([] : List Int) = (Rg.shares l n) := by
    first | exact hv1.symm | exact hv2.symm | (rw [hv1, hdn])
   have hr1 : (3 : Int) = (Rg.shErr l n) := by
    first | exact hv1.symm | exact hv2.symm | (rw [hv1, hdn])
   refine q_endM (p := (none, 0)) (fun _ => False) (rt2 rfl (r_tmp rfl) (r_tmp rfl)) (i := 0) rfl ?_ ?_ ?_
   ·exact (by have hcc := congr (congrArg (fun (y0 : List Int) (y1 : Int) => (.tuple #[.slice none y0.length 0, .int .i64 y1] : Value)) hr0) hr1; exact hcc)
   ·intro w hw b hb; exact hb.elim
   ·intro w hw; exact Eq.mp (congrArg (fun y => SlO tInt _ w none 0 y) hr0) (SlO.nil tInt w)
  ·simp only [Bool.or_eq_false_iff, decide_eq_false_iff_not, Int.not_lt] at hc3
   have hnn := hc3
   refine c_seq (c_region ?_)
   refine o_mv rfl rfl ?_
   refine o_p (p_len_slice rfl rfl Try.underlying78) ?_
   refine o_p (p_eq rfl rfl) ?_
   refine o_as rfl rfl ?_
   refine o_nil (q_then ?_)
   refine c_cond rfl (fun hc4 => ?_) (fun hc4 => ?_)
   ·simp only [beq_iff_eq] at hc4
    refine c_seq (c_region ?_)
    refine o_as rfl rfl ?_
    refine o_as rfl rfl ?_
    refine o_nil (q_then (c_ret ?_))
    refine q_block_ret (q_then_ret ?_)
    obtain ⟨hv1, hv2⟩ : _ ∧ _ := by first | exact Rg.sh1 (l := l) (n := n) (by assumption) | exact Rg.sh2 (n := n) hck (by omega) | exact Rg.sh3 (n := n) hck hnn (by omega) | exact Rg.sh4 (n := n) hck hnn hpos
    have hr0 : ([] : List Int) = (Rg.shares l n) := by
     first | exact hv1.symm | exact hv2.symm | (rw [hv1, hdn])
    have hr1 : (5 : Int) = (Rg.shErr l n) := by
     first | exact hv1.symm | exact hv2.symm | (rw [hv1, hdn])
    refine q_endM (p := (none, 0)) (fun _ => False) (rt2 rfl (r_tmp rfl) (r_tmp rfl)) (i := 0) rfl ?_ ?_ ?_
    ·exact (by have hcc := congr (congrArg (fun (y0 : List Int) (y1 : Int) => (.tuple #[.slice none y0.length 0, .int .i64 y1] : Value)) hr0) hr1; exact hcc)
    ·intro w hw b hb; exact hb.elim
    ·intro w hw; exact Eq.mp (congrArg (fun y => SlO tInt _ w none 0 y) hr0) (SlO.nil tInt w)
   ·simp only [beq_eq_false_iff_ne, ne_eq] at hc4
    have hpos : 0 < l.length := by omega
    have hlb := (Rg.okPoint_iff.1 (hok.fine.point _ (List.getElem_mem (show l.length - 1 < l.length by omega)))).2
    have hlx : ((l.length : Int) - 1).toNat = l.length - 1 := by omega
    refine c_skip ?_
    refine q_block_normal (q_then ?_)
    refine c_seq (c_region ?_)
    refine o_makeSlice (T := tInt) (m := 20) (z := 0) rfl rfl Try.underlying45 el3 ze3 rfl (by decide) (by omega) (by omega) rfl (fun S6 a5 => ?_)
    refine o_as rfl rfl ?_
    refine o_nil (q_then (c_seq (c_region ?_)))
    refine o_mv rfl rfl ?_
    refine o_mv rfl rfl ?_
    refine o_p (p_len_slice rfl rfl Try.underlying78) ?_
    refine o_p (p_subb rfl rfl (by omega)) ?_
    refine o_p (p_indexAddr (L := l) (T := tPoint) (i := ((l.length : Int) - 1)) rfl rfl (rd_base (i := 1) rfl hl) Try.underlying78 sz86 (by omega) (by omega)) ?_
    refine o_p (p_fieldAddrE rfl fo86_0) ?_
    refine o_p (p_loadF (i := ((l.length : Int) - 1).toNat) (j := 0) (T := tPoint) (L := l) (v := Vi ((l[((l.length : Int) - 1).toNat]).at_)) rfl (rd_base (i := 1) rfl hl) (by first | assumption | omega) sh3 rfl) ?_
    refine o_p (p_subb rfl rfl (by simp only [hlx]; omega)) ?_
    refine o_as rfl rfl ?_
    refine o_nil (q_then (c_seq (c_seq (c_region ?_))))
    refine o_mv rfl rfl ?_
    refine o_p (p_len_slice rfl rfl Try.underlying78) ?_
    refine o_mv rfl rfl ?_
    refine o_nil (q_then (c_block ?_))
    refine c_loop (St := Int × Nat × List Int)
     (fun ⟨last, k, ol⟩ => [(1, Vi n), (7, .slice a5 ol.length 20), (8, Vi last), (37, .slice al l.length cl), (38, Vi (l.length : Int)), (39, Vi (k : Int))])
     (fun ⟨last, k, ol⟩ => [own tInt S6 a5 20 ol, base w0])
     (fun ⟨last, k, ol⟩ => Rg.SInv l ol last k)
     (fun ⟨last, k, ol⟩ => l.length - k)
     (((l[((l.length : Int) - 1).toNat]).at_ - 65536), 0, (List.replicate 20 0)) ?_ (sr (sr (sr (sr (sr (sr (Sub.nil _))))))) (fun _ hw => hw) ?_
    ·exact Rg.SInv.start hpos (by simp only [hlx]; rw [← getd_at (by omega) default])
    rintro ⟨last, k, ol⟩ hI K hK8
    have hol := hI.len
    have hkl := hI.le
    show SC _ _ Try.prog 60 w0 _ _ [(1, Vi n), (7, .slice a5 ol.length 20), (8, Vi last), (37, .slice al l.length cl), (38, Vi (l.length : Int)), (39, Vi (k : Int))] [own tInt S6 a5 20 ol, base w0]
    refine c_seq (c_region ?_)
    refine o_p (p_lt rfl rfl) ?_
    refine o_nil (q_then (c_seq ?_))
    refine c_cond rfl (fun hc9 => ?_) (fun hc9 => ?_)
    ·simp only [decide_eq_true_eq] at hc9
     have hpt := Rg.okPoint_iff.1 (hok.fine.point _ (List.getElem_mem (show k < l.length by omega)))
     have hbb := Rg.bef_bd hok.fine (show k < l.length by omega)
     have hlast := hI.last
     have hbo := hI.bd hok.fine (j := l[k].shard.toNat) (by omega)
     refine c_skip (q_then (c_seq (c_block (c_seq (c_region ?_)))))
     refine o_p (p_indexAddr (L := l) (T := tPoint) (i := (k : Int)) rfl rfl (rd_base (i := 1) rfl hl) Try.underlying78 sz86 (by omega) (by omega)) ?_
     refine o_p (p_loadEn (i := k) (T := tPoint) (L := l) (vs := [Vi ((l[k]).at_), Vi ((l[k]).shard)]) rfl (rd_base (i := 1) rfl hl) (by first | assumption | omega) sh86 rfl) ?_
     refine o_alloc ze86 rfl (fun B10 => ?_)
     refine o_storeN (i := 0) (vs := [Vi ((l[k]).at_), Vi ((l[k]).shard)]) (cs' := [Vi ((l[k]).at_), Vi ((l[k]).shard)]) rfl rfl rfl sz86 rfl rfl rfl rfl ?_
     refine o_nil (q_then (c_seq ?_))
     refine c_held hmix [box B10 [Vi ((l[k]).at_), Vi ((l[k]).shard)] 86, ownE tInt S6 a5 20 (ol.length), base w0] rfl rfl ?_
     refine h_tk (i := 0) (ls := #[T1,F0,F0,F0,F0,F0,F0,F0,F0,F0,F0,F0]) rfl (p_move rfl) (fun _ hw => HeapIs.drop (HeapIs.toE (i := 1) (m := ol.length) (T := tInt) rfl (by simp only [List.length_set]) hw) (lr)) ?_
     refine h_tk (i := 1) (ls := #[T1,T1,F0,F0,F0,F0,F0,F0,F0,F0,F0,F0]) rfl (p_fieldAddr (j' := 1) rfl fo86_1 rfl) (fun _ hw => HeapIs.drop (HeapIs.toE (i := 1) (m := ol.length) (T := tInt) rfl (by simp only [List.length_set]) hw) (lr)) ?_
     refine h_tk (i := 2) (ls := #[T1,T1,T1,F0,F0,F0,F0,F0,F0,F0,F0,F0]) rfl (p_load (i := 0) (v := Vi ((l[k]).shard)) rfl rfl sh3 rfl) (fun _ hw => HeapIs.drop (HeapIs.toE (i := 1) (m := ol.length) (T := tInt) rfl (by simp only [List.length_set]) hw) (lr)) ?_
     refine h_tk (i := 3) (ls := #[T1,T1,T1,T1,F0,F0,F0,F0,F0,F0,F0,F0]) rfl (p_indexAddrE (T := tInt) (i := (l[k]).shard) (j := 1) rfl rfl rfl Try.underlying45 sz3 (by omega) (by omega)) (fun _ hw => HeapIs.drop (HeapIs.toE (i := 1) (m := ol.length) (T := tInt) rfl (by simp only [List.length_set]) hw) (lr)) ?_
     refine h_tk (i := 5) (ls := #[T1,T1,T1,T1,F0,T1,F0,F0,F0,F0,F0,F0]) rfl (p_fieldAddr (j' := 0) rfl fo86_0 rfl) (fun _ hw => HeapIs.drop (HeapIs.toE (i := 1) (m := ol.length) (T := tInt) rfl (by simp only [List.length_set]) hw) (lr)) ?_
     refine h_tk (i := 6) (ls := #[T1,T1,T1,T1,F0,T1,T1,F0,F0,F0,F0,F0]) rfl (p_load (i := 0) (v := Vi ((l[k]).at_)) rfl rfl sh3 rfl) (fun _ hw => HeapIs.drop (HeapIs.toE (i := 1) (m := ol.length) (T := tInt) rfl (by simp only [List.length_set]) hw) (lr)) ?_
     refine h_tk (i := 7) (ls := #[T1,T1,T1,T1,F0,T1,T1,T1,F0,F0,F0,F0]) rfl (p_move rfl) (fun _ hw => HeapIs.drop (HeapIs.toE (i := 1) (m := ol.length) (T := tInt) rfl (by simp only [List.length_set]) hw) (lr)) ?_
     refine h_tk (i := 8) (ls := #[T1,T1,T1,T1,F0,T1,T1,T1,T1,F0,F0,F0]) rfl (p_subb rfl rfl (by omega)) (fun _ hw => HeapIs.drop (HeapIs.toE (i := 1) (m := ol.length) (T := tInt) rfl (by simp only [List.length_set]) hw) (lr)) ?_
     refine h_one (i := 4) (ls := #[T1,T1,T1,T1,T1,T1,T1,T1,T1,F0,F0,F0]) (by kernel_rfl) rfl rfl ?_
     refine o_p (p_loadE1 (i := ((l[k]).shard).toNat) (T := tInt) (L := ol) (v := Vi (ol[((l[k]).shard).toNat])) rfl (rd_own (i := 1) rfl) (by first | assumption | omega) sh3 rfl) ?_
     refine o_nil ?_
     refine h_next (fun _ hw => HeapIs.drop (HeapIs.toE (i := 1) (m := ol.length) (T := tInt) rfl (by simp only [List.length_set]) hw) (lr)) ?_
     refine h_tk (i := 9) (ls := #[T1,T1,T1,T1,T1,T1,T1,T1,T1,T1,F0,F0]) rfl (p_addb rfl rfl (by omega)) (fun _ hw => HeapIs.drop (HeapIs.toE (i := 1) (m := ol.length) (T := tInt) rfl (by simp only [List.length_set]) hw) (lr)) ?_
     refine h_tk (i := 10) (ls := #[T1,T1,T1,T1,T1,T1,T1,T1,T1,T1,T1,F0]) rfl (p_indexAddrE (T := tInt) (i := (l[k]).shard) (j := 1) rfl rfl rfl Try.underlying45 sz3 (by omega) (by omega)) (fun _ hw => HeapIs.drop (HeapIs.toE (i := 1) (m := ol.length) (T := tInt) rfl (by simp only [List.length_set]) hw) (lr)) ?_
     refine h_one (i := 11) (ls := #[T1,T1,T1,T1,T1,T1,T1,T1,T1,T1,T1,T1]) (by kernel_rfl) rfl rfl ?_
     refine o_storeW (i := 1) (T := tInt) (idx := ((l[k]).shard).toNat) (v := Vi (ol[((l[k]).shard).toNat] + ((l[k]).at_ - last))) (vs := [Vi (ol[((l[k]).shard).toNat] + ((l[k]).at_ - last))]) (z := (ol[((l[k]).shard).toNat] + ((l[k]).at_ - last))) rfl rfl rfl rfl (by first | assumption | omega | (simp only [List.length_set]; omega)) sz3 rfl rfl rfl rfl (Sub.refl _) ?_
     refine o_nil ?_
     refine h_next (fun _ hw => HeapIs.drop (HeapIs.toE (i := 1) (m := ol.length) (T := tInt) rfl (by simp only [List.length_set]) hw) (lr)) ?_
     refine h_done (by kernel_rfl) ?_
     refine q_cast (F' := [(1, Vi n), (7, .slice a5 (ol.set (((l[k]).shard).toNat) (ol[((l[k]).shard).toNat] + ((l[k]).at_ - last))).length 20), (10, .pointer (some ⟨B10, 0, none⟩)), (37, .slice al l.length cl), (38, Vi (l.length : Int)), (39, Vi (k : Int))]) (H := [box B10 [Vi ((l[k]).at_), Vi ((l[k]).shard)] 86, own tInt S6 a5 20 (ol.set (((l[k]).shard).toNat) (ol[((l[k]).shard).toNat] + ((l[k]).at_ - last))), base w0]) (H' := [box B10 [Vi ((l[k]).at_), Vi ((l[k]).shard)] 86, own tInt S6 a5 20 (ol.set (((l[k]).shard).toNat) (ol[((l[k]).shard).toNat] + ((l[k]).at_ - last))), base w0]) (sr (Sub.cons (by simp only [List.length_set, List.length_reverse]; rfl) (sr (sr (sr (sr (Sub.nil _))))))) (by rfl) ?_
     refine q_then (c_region ?_)
     refine o_p (p_fieldAddr (j' := 0) rfl fo86_0 rfl) ?_
     refine o_p (p_load (i := 0) (v := Vi ((l[k]).at_)) rfl rfl sh3 rfl) ?_
     refine o_as rfl rfl ?_
     refine o_nil ?_
     refine q_block_normal (q_then ?_)
     refine c_region ?_
     refine o_p (p_addb rfl rfl (by omega)) ?_
     refine o_mv rfl rfl ?_
     refine o_nil ?_
     refine q_round hK8 ((l[k]).at_, k + 1, (ol.set (((l[k]).shard).toNat) (ol[((l[k]).shard).toNat] + ((l[k]).at_ - last)))) ?_ ?_ ?_ ?_
     ·clear hK8
      exact hI.next (by omega) hpt.1 (by omega) (by omega) rfl
     ·(try dsimp only); omega
     ·exact sr (sr (sr (sr (sr (sr (Sub.nil _))))))
     ·exact pk [1, 2]
    ·simp only [decide_eq_false_iff_not, Int.not_lt] at hc9
     have hdn := hI.done (by omega)
     refine c_exit ?_
     refine q_then_exit (q_then_exit (q_block_exit (q_then ?_)))
     refine c_seq (c_region ?_)
     refine o_mv rfl rfl ?_
     refine o_mv rfl rfl ?_
     refine o_p (p_sliceH (L := ol) (T := tInt) (h := n) rfl rfl Try.underlying45 sz3 (by omega) (by omega) (rd_own (i := 0) rfl)) ?_
     refine o_as rfl rfl ?_
     refine o_as rfl rfl ?_
     refine o_nil (q_then (c_ret ?_))
     refine q_shrinkC (i := 0) (hi := n.toNat) (T := tInt) rfl (by omega) ?_
     obtain ⟨hv1, hv2⟩ : _ ∧ _ := by first | exact Rg.sh1 (l := l) (n := n) (by assumption) | exact Rg.sh2 (n := n) hck (by omega) | exact Rg.sh3 (n := n) hck hnn (by omega) | exact Rg.sh4 (n := n) hck hnn hpos
     have hr0 : ((ol.take n.toNat) : List Int) = (Rg.shares l n) := by
      first | exact hv1.symm | exact hv2.symm | (rw [hv1, hdn])
     have hr1 : (0 : Int) = (Rg.shErr l n) := by
      first | exact hv1.symm | exact hv2.symm | (rw [hv1, hdn])
     refine q_endM (p := (a5, 20)) S6 (rt2 rfl (r_tmp rfl) (r_tmp rfl)) (i := 1) rfl ?_ ?_ ?_
     ·exact (by have hcc := congr (congrArg (fun (y0 : List Int) (y1 : Int) => (.tuple #[.slice a5 y0.length 20, .int .i64 y1] : Value)) hr0) hr1; exact hcc)
     ·exact fun w hw => hw.above (i := 1) (j := 0) (by decide) rfl rfl
     ·intro w hw; exact Eq.mp (congrArg (fun y => SlO tInt _ w a5 20 y) hr0) ((hw.at (i := 0) rfl).here)
end Go.Proofs.Ythecfjipaepcgaa
