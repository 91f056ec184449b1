/- A wheel with one timer for each entry of a store. -/
import Derived.Test.YtnmbkopnopaigaaWhLaw5M2
import Derived.Test.YtnmbkopnopaigaaExPureM20
import Derived.Test.YtnmbkopnopaigaaTtF
import Derived.Test.YtnmbkopnopaigaaLrLawM2
import Derived.Test.YtnmbkopnopaigaaTtW4M4
import Derived.Test.YtnmbkopnopaigaaTtW8
import Derived.Test.YtnmbkopnopaigaaProg
import Derived.Test.YtnmbkopnopaigaaSx31M2
namespace Go.Sx.Tt
open Wh
theorem a31 (p : Int) : 0 ≤ andI p 31 ∧ andI p 31 ≤ 31 := andI_low p 31 (by decide)
theorem a15 (p : Int) : 0 ≤ andI p 15 ∧ andI p 15 ≤ 15 := andI_low p 15 (by decide)
theorem a63 (p : Int) : 0 ≤ andI p 63 ∧ andI p 63 ≤ 63 := andI_low p 63 (by decide)
theorem a1023 (p : Int) : 0 ≤ andI p 1023 ∧ andI p 1023 ≤ 1023 := andI_low p 1023 (by decide)
def tm (e : DEntry) : DTimer := ⟨e.key, e.till⟩
structure TI (life : Int) (w : DWheel) (l : DStore) (now : Int) (i : Nat) : Prop where
  ok : Wh.Ok w
  wn : w.now = now
  li : l.life = life
  es : Exp.Ok l
  same : (timers w.slots).Perm (l.entries.map tm)
  now0 : 0 ≤ now
  few : l.entries.length ≤ i
  ky : ∀ e ∈ l.entries, 0 ≤ e.key ∧ e.key ≤ 15
theorem flt_map (p : DTimer → Bool) (l : List DEntry) : (l.map tm).filter p = (l.filter (p ∘ tm)).map tm := List.filter_map
theorem TI.start {life : Int} (h1 : 1 ≤ life) (h2 : life ≤ 64) : TI life (Wh.new 0) ⟨life, []⟩ 0 0 :=
  ⟨Wh.check_ok.1 (by decide +kernel), rfl, rfl, ⟨⟨h1, by show life ≤ _; omega⟩, Nat.zero_le _, (fun _ h => nomatch h), List.Pairwise.nil⟩, List.Perm.refl _, Int.le_refl _, Nat.le_refl _, fun _ h => nomatch h⟩
section
variable {life now to : Int} {w : DWheel} {l : DStore} {i : Nat}
theorem TI.adv (h : TI life w l now i) (h1 : now ≤ to) (h2 : to ≤ 262143) : advErr w to = 0 := advErr0 h.ok (okTime_iff.2 ⟨by have := h.now0; omega, h2⟩) (by rw [h.wn]; omega)
theorem TI.swp (h : TI life w l now i) (h1 : now ≤ to) (h2 : to ≤ 262143) : Exp.nowErr l to = 0 := by
  rw [Exp.nowErr, if_pos (Exp.check_ok.2 h.es)]
  have : Exp.okNow to = true := by have := h.now0; simp [Exp.okNow]; omega
  rw [if_pos this]
theorem TI.gone (h : TI life w l now i) (h1 : now ≤ to) (h2 : to ≤ 262143) : (Wh.gone w to).Perm ((l.entries.filter fun e => decide (e.till ≤ to)).map tm) ∧ (Exp.sweep l to).2 = (l.entries.filter fun e => decide (e.till ≤ to)).map (·.key) := by
  constructor
  · rw [(adv_can (h.adv h1 h2)).2]
    have := h.same.filter fun t => decide (t.due ≤ to)
    rw [flt_map] at this
    exact this
  · rw [Exp.sweep2 (h.swp h1 h2)]; rfl
theorem TI.len (h : TI life w l now i) (h1 : now ≤ to) (h2 : to ≤ 262143) : (Wh.gone w to).length = (Exp.sweep l to).2.length := by
  obtain ⟨a, b⟩ := h.gone h1 h2
  rw [a.length_eq, b, List.length_map, List.length_map]
theorem TI.has (h : TI life w l now i) (h1 : now ≤ to) (h2 : to ≤ 262143) {k : Nat} (hk : k < (Wh.gone w to).length) : ((Wh.gone w to).getD k default).id ∈ (Exp.sweep l to).2 := by
  obtain ⟨a, b⟩ := h.gone h1 h2
  rw [getD_of hk, b]
  have := a.mem_iff.1 (List.getElem_mem hk)
  obtain ⟨e, he, e2⟩ := List.mem_map.1 this
  rw [← e2]
  exact List.mem_map.2 ⟨e, he, rfl⟩
theorem TI.step (h : TI life w l now i) (h1 : now ≤ to) (h3 : to ≤ 262143) : TI life (Wh.adv w to) (Exp.sweep l to).1 to i := by
  have ha := h.adv h1 h3
  have hs := h.swp h1 h3
  rw [Exp.sweep2 hs]
  refine ⟨by rw [(adv_can ha).1]; exact (adv_good ha).ok, by rw [(adv_can ha).1]; rfl, h.li, ⟨h.es.life, Nat.le_trans (Exp.live_len l to) h.es.len, fun x hx => h.es.entry x (Exp.mem_live.1 hx).1, Exp.live_sorted h.es.sorted to⟩, ?_, by have := h.now0; omega, Nat.le_trans (Exp.live_len l to) h.few, fun e he => h.ky e (Exp.mem_live.1 he).1⟩
  rw [adv_timers ha]
  have := h.same.filter fun t => decide (to < t.due)
  rw [flt_map] at this
  exact this
/-- the wheel without the key's timer -/
def cut1 (w : DWheel) (key : Int) : DWheel := if cancelErr w key = 0 then cancel w key else w
theorem cut1_timers (h : Wh.Ok w) (key : Int) : Wh.Ok (cut1 w key) ∧ (cut1 w key).now = w.now ∧ timers (cut1 w key).slots = (timers w.slots).filter fun t => decide (¬ t.id = key) := by
  unfold cut1
  by_cases c : cancelErr w key = 0
  · rw [if_pos c, cancel_can c]
    have hg : Wh.Good w.now ((timers w.slots).filter fun t => decide (¬ t.id = key)) := ⟨h.now, sd_filter h.sd _, fun t ht => h.right (List.mem_filter.1 ht).1, sub_ids List.filter_sublist h.ids, Nat.le_trans (List.length_filter_le _ _) h.few⟩
    exact ⟨hg.ok, rfl, hg.timers⟩
  · rw [if_neg c]
    refine ⟨h, rfl, (List.filter_eq_self.2 fun t ht => decide_eq_true (show ¬ t.id = key from fun e => c (cancel_iff.2 ⟨h, has_iff.2 ⟨t, ht, e⟩⟩))).symm⟩
/-! ### a timer and an entry more -/
theorem TI.okEnt (h : TI life w l now i) {key n : Int} (hk : 0 ≤ key ∧ key ≤ 15) (hn : 0 ≤ n ∧ n ≤ 20) (hl : 1 ≤ life ∧ life ≤ 64) (hw : now ≤ 262000) : Exp.okEntry ⟨key, n, now + life⟩ = true := by
  have := h.now0
  exact Exp.okEntry_iff.2 ⟨by simp only; omega, by simp only; omega, by simp only; omega⟩
theorem key_tm (l : List DEntry) : (l.map tm).map (·.id) = l.map (·.key) := by rw [List.map_map]; rfl
theorem TI.add_ (h : TI life w l now i) {key : Int} (hk : 0 ≤ key ∧ key ≤ 15) (hl : 1 ≤ life ∧ life ≤ 64) (hw : now ≤ 262000) (hi : i ≤ 20) : addErr (cut1 w key) ⟨key, now + life⟩ = 0 := by
  obtain ⟨c1, c2, c3⟩ := cut1_timers h.ok key
  have h0 := h.now0
  refine add_iff.2 ⟨c1, ?_, ?_, ?_⟩
  · rw [c2, h.wn]; exact right_iff.2 ⟨by simp only; omega, by simp only; omega, by simp only; omega⟩
  · cases e : Wh.has (timers (cut1 w key).slots) key with
    | false => rfl
    | true =>
      obtain ⟨t, ht, e2⟩ := has_iff.1 e
      rw [c3] at ht
      exact absurd e2 (by simpa using (List.mem_filter.1 ht).2)
  · rw [c3]
    have := List.length_filter_le (fun t : DTimer => decide (¬ t.id = key)) (timers w.slots)
    have e := h.same.length_eq
    rw [List.length_map] at e
    have := h.few
    omega
theorem all_live (h : TI life w l now i) (hlv : ∀ e ∈ l.entries, now < e.till) : Exp.live now l.entries = l.entries := List.filter_eq_self.2 fun e he => decide_eq_true (hlv e he)
theorem TI.alive (h : TI life w l now i) : ∀ e ∈ l.entries, now < e.till := fun e he => by
  have := h.same.mem_iff.2 (List.mem_map.2 ⟨e, he, rfl⟩)
  have := (right_iff.1 (h.ok.right this)).2.2
  rw [h.wn] at this; exact this
theorem TI.putE (h : TI life w l now i) {key n : Int} (hk : 0 ≤ key ∧ key ≤ 15) (hn : 0 ≤ n ∧ n ≤ 20) (hw : now ≤ 262000) (hi : i ≤ 20) : Exp.putErr l key n now = 0 := by
  have hs : Exp.nowErr l now = 0 := h.swp (Int.le_refl _) (by omega)
  have hg : Exp.getErr l key now = 0 := by rw [Exp.getErr, if_pos hs, if_pos]; simp [Lru.okKey]; omega
  rw [Exp.putErr, if_pos hg, if_pos (by simp [Exp.okValue]; omega), if_neg]
  have := Exp.putGo_len (Exp.live_sorted h.es.sorted now) ⟨key, n, now + l.life⟩
  have := Exp.live_len l now
  have := h.few
  split at * <;> omega
theorem putGo_perm {l : List DEntry} (hs : l.Pairwise fun a b => a.key < b.key) (x : DEntry) : (Exp.putGo l x).Perm (x :: l.filter fun y => decide (¬ y.key = x.key)) := by
  unfold Exp.putGo
  refine List.perm_middle.trans (List.Perm.cons x ?_)
  induction l with
  | nil => exact List.Perm.refl _
  | cons y l ih =>
    have ih := ih (List.pairwise_cons.1 hs).2
    rcases Int.lt_trichotomy y.key x.key with c | c | c
    · simp only [List.filter_cons, decide_eq_true c, if_true, decide_eq_false (show ¬ x.key < y.key by omega), decide_eq_true (show ¬ y.key = x.key by omega), Bool.false_eq_true, if_false, List.cons_append]
      exact List.Perm.cons y ih
    · simp only [List.filter_cons, decide_eq_false (show ¬ y.key < x.key by omega), decide_eq_false (show ¬ x.key < y.key by omega), decide_eq_false (show ¬ ¬ y.key = x.key by omega), Bool.false_eq_true, if_false]
      exact ih
    · simp only [List.filter_cons, decide_eq_false (show ¬ y.key < x.key by omega), decide_eq_true c, decide_eq_true (show ¬ y.key = x.key by omega), Bool.false_eq_true, if_false, if_true]
      exact List.perm_middle.trans (List.Perm.cons y ih)
theorem TI.put (h : TI life w l now i) {key n : Int} (hk : 0 ≤ key ∧ key ≤ 15) (hn : 0 ≤ n ∧ n ≤ 20) (hl : 1 ≤ life ∧ life ≤ 64) (hw : now ≤ 262000) (hi : i + 1 ≤ 20) : TI life (Wh.add (cut1 w key) ⟨key, now + life⟩) (Exp.put l key n now) now (i + 1) := by
  have ha := h.add_ hk hl hw (by omega)
  have hp := h.putE hk hn hw (by omega)
  obtain ⟨c1, c2, c3⟩ := cut1_timers h.ok key
  have hlv := all_live h h.alive
  have hgl := Exp.putGo_len h.es.sorted ⟨key, n, now + life⟩
  have hfw := h.few
  rw [Exp.put, if_pos hp, hlv, h.li]
  refine ⟨add_ok ha, by rw [add_now ha, c2, h.wn], rfl, ⟨by have := h.es.life; rw [h.li] at this; exact this, ?_, fun x hx => ?_, Exp.put_sorted h.es.sorted _⟩, ?_, h.now0, ?_, fun e he => ?_⟩
  · show (Exp.putGo l.entries _).length ≤ 40
    split at hgl <;> omega
  · rcases Exp.mem_put.1 hx with rfl | hx
    · exact h.okEnt hk hn hl hw
    · exact h.es.entry x hx.1
  · show (timers _).Perm ((Exp.putGo l.entries _).map tm)
    rw [add_timers ha, c3]
    refine (insI_perm _ _).trans (((List.Perm.cons _ ?_)).trans ((putGo_perm h.es.sorted ⟨key, n, now + life⟩).map tm).symm)
    have := h.same.filter fun t => decide (¬ t.id = key)
    rw [flt_map] at this
    exact this
  · show (Exp.putGo l.entries _).length ≤ i + 1
    split at hgl <;> omega
  · rcases Exp.mem_put.1 he with rfl | he
    · exact hk
    · exact h.ky e he.1
/-! ### the next time -/
theorem least_le : ∀ {l : List DEntry} {e : DEntry}, e ∈ l → Exp.least l ≤ e.till ∧ ∃ x ∈ l, x.till = Exp.least l := by
  have hf : ∀ (l : List DEntry) (m : Int), (l.foldl (fun m y => min m y.till) m ≤ m) ∧ (∀ e ∈ l, l.foldl (fun m y => min m y.till) m ≤ e.till) ∧ (l.foldl (fun m y => min m y.till) m = m ∨ ∃ x ∈ l, x.till = l.foldl (fun m y => min m y.till) m) := by
    intro l
    induction l with
    | nil => intro m; exact ⟨Int.le_refl _, (fun e h => nomatch h), Or.inl rfl⟩
    | cons x l ih =>
      intro m
      obtain ⟨a, b, c⟩ := ih (min m x.till)
      simp only [List.foldl_cons]
      refine ⟨by omega, fun e he => ?_, ?_⟩
      · rcases List.mem_cons.1 he with rfl | he
        · omega
        · exact b e he
      · rcases c with c | ⟨y, hy, hy2⟩
        · rcases Int.le_total m x.till with h | h
          · left; rw [c]; omega
          · right; exact ⟨x, by simp, by rw [c]; omega⟩
        · right; exact ⟨y, by simp [hy], hy2⟩
  intro l e he
  cases l with
  | nil => cases he
  | cons x l =>
    obtain ⟨a, b, c⟩ := hf l x.till
    refine ⟨?_, ?_⟩
    · rcases List.mem_cons.1 he with rfl | he
      · exact a
      · exact b e he
    · rcases c with c | ⟨y, hy, hy2⟩
      · exact ⟨x, by simp, c.symm⟩
      · exact ⟨y, by simp [hy], hy2⟩
theorem TI.nxt (h : TI life w l now i) : nextErr w = Exp.nextErr l ∧ Wh.next w = Exp.next l := by
  have he := h.same.length_eq
  rw [List.length_map] at he
  rcases next5 h.ok with ⟨a, b⟩ | ⟨a, b⟩
  · have e2 : Exp.nextErr l = 0 := by rw [Exp.nextErr, if_pos (Exp.check_ok.2 h.es), if_neg (by omega)]
    refine ⟨by rw [a, e2], ?_⟩
    rw [(next0 a).2.2, Exp.next, if_pos e2]
    have hm : (timers w.slots).getD 0 default ∈ timers w.slots := by rw [getD_of b]; exact List.getElem_mem b
    obtain ⟨e, he1, he2⟩ := List.mem_map.1 (h.same.mem_iff.1 hm)
    obtain ⟨q1, x, hx, hx2⟩ := least_le he1
    have q2 := sd_head h.ok.sd b (h.same.mem_iff.2 (List.mem_map.2 ⟨x, hx, rfl⟩))
    have q3 : ((timers w.slots).getD 0 default).due = e.till := by rw [← he2]; rfl
    have q4 : ((timers w.slots).getD 0 default).due ≤ x.till := q2
    omega
  · have e2 : Exp.nextErr l = 5 := by rw [Exp.nextErr, if_pos (Exp.check_ok.2 h.es), if_pos (by omega)]
    exact ⟨by rw [a, e2], by rw [Wh.next, if_neg (by rw [a]; decide), Exp.next, if_neg (by rw [e2]; decide)]⟩
end
end Go.Sx.Tt

/- The walks, printed by a program from the translation and a specification. -/
namespace Go.Proofs.Ytnmbkopnopaigaa
open Go.Sx Go.RowKit
set_option maxHeartbeats 8000000 in
set_option maxRecDepth 100000 in
theorem topTimers_ok (life : Int) (keys : List Int) (akeys : Option Addr) (ckeys : Nat) (at_ : List Int) (aat_ : Option Addr) (cat_ : Nat) (to : Int) : Fn0 Try.prog 12 [Vi life, .slice akeys keys.length ckeys, .slice aat_ at_.length cat_, Vi to] (fun w => Rd tInt w akeys ckeys keys ∧ Rd tInt w aat_ cat_ at_) (.bool true) := by
 refine fn0 (nt := 206) (F0 := [(0, Vi life), (1, .slice akeys keys.length ckeys), (2, .slice aat_ at_.length cat_), (3, Vi to)]) Try.func12 rfl Try.ntmps12 rfl rfl (fun w0 hpre => ?_)
 obtain ⟨hkeys, hat_⟩ := hpre
 have hlhkeys := hkeys.2.1
 have hlhat_ := hat_.2.1
 have hlf := Tt.a63 life
 have hta := Tt.a1023 to
 have hn0 : Wh.newErr 0 = 0 := by decide
 refine c_seq (c_region ?_)
 refine o_as rfl rfl ?_
 refine o_nil (q_then (c_seq (c_seq (c_region ?_))))
 refine o_call0 (v := .bool true) rfl (tbegun_ok ) hf44 (fun _ _ => trivial) rfl ?_
 refine o_p (p_not (b := true) rfl) ?_
 refine o_nil (q_then ?_)
 refine c_false rfl ?_
 refine c_skip (q_then (c_seq (c_region ?_)))
 refine o_mv rfl rfl ?_
 refine o_p (p_andI (p := life) (q := 63) rfl rfl) ?_
 refine o_p (p_addb rfl rfl (by omega)) ?_
 refine o_as rfl rfl ?_
 refine o_nil (q_then (c_seq (c_region ?_)))
 refine o_callM rfl (wnew_ok (0 : Int)) hf29 (fun _ _ => trivial) rfl (fun _ _ _ _ ha hA => SlON.agree ha hA) ?_
 rintro ⟨a3, c4⟩ S1
 refine o_know (fun w hw => own_lenN (i := 0) (T := tTimer) hw rfl) (fun hlr5 => ?_)
 refine o_mv rfl rfl ?_
 refine o_ex rfl rfl rfl ?_
 refine o_ex rfl rfl rfl ?_
 refine o_alloc ze50 rfl (fun B6 => ?_)
 refine o_storeN (i := 0) (vs := [Vi ((Wh.new (0 : Int)).now), .slice a3 ((Wh.new (0 : Int)).slots).length c4.n]) (cs' := [Vi ((Wh.new (0 : Int)).now), .slice a3 ((Wh.new (0 : Int)).slots).length c4.n]) rfl rfl rfl sz50 rfl rfl rfl rfl ?_
 refine o_as rfl rfl ?_
 refine o_nil (q_then (c_seq (c_seq (c_region ?_))))
 refine o_mv rfl rfl ?_
 refine o_p (p_ne rfl rfl) ?_
 refine o_nil (q_then ?_)
 refine c_cond rfl (fun hc7 => ?_) (fun hc7 => ?_)
 ·simp only [bne_iff_ne, ne_eq] at hc7
  exfalso; exact hc7 hn0
 ·simp only [bne_eq_false_iff_eq] at hc7
  refine c_skip (q_then (c_seq (c_region ?_)))
  refine o_mv rfl rfl ?_
  refine o_p (p_build (cells := [Vi (1 + (andI life 63)), .slice none 0 0]) fp86 ze86 rfl rfl) ?_
  refine o_alloc ze86 rfl (fun B8 => ?_)
  refine o_storeN (i := 0) (vs := [Vi (1 + (andI life 63)), .slice none 0 0]) (cs' := [Vi (1 + (andI life 63)), .slice none 0 0]) rfl rfl rfl sz86 rfl rfl rfl rfl ?_
  refine o_nil (q_then (c_seq (c_region ?_)))
  refine o_as rfl rfl ?_
  refine o_nil (q_then (c_seq (c_seq (c_region ?_))))
  refine o_as rfl rfl ?_
  refine o_nil (q_then (c_block ?_))
  refine c_ownNil tEntry ?_
  refine c_loop (St := Int × Nat × DWheel × Option Addr × NC × (Nat → Prop) × DStore × Option Addr × Nat × (Nat → Prop))
   (fun ⟨now, i, ww, aww_0, cww_0, Sww_0, ll, all_0, cll_0, Sll_0⟩ => [(0, Vi (1 + (andI life 63))), (1, .slice akeys keys.length ckeys), (2, .slice aat_ at_.length cat_), (3, Vi to), (9, .pointer (some ⟨B6, 0, none⟩)), (11, .pointer (some ⟨B8, 0, none⟩)), (12, Vi now), (13, Vi (i : Int))])
   (fun ⟨now, i, ww, aww_0, cww_0, Sww_0, ll, all_0, cll_0, Sll_0⟩ => [own tEntry Sll_0 all_0 cll_0 ll.entries, box B8 [Vi ll.life, .slice all_0 ll.entries.length cll_0] 86, box B6 [Vi ww.now, .slice aww_0 ww.slots.length cww_0.n] 50, ownN tTimer Sww_0 aww_0 cww_0 ww.slots, base w0])
   (fun ⟨now, i, ww, aww_0, cww_0, Sww_0, ll, all_0, cll_0, Sll_0⟩ => Tt.TI (1 + (andI life 63)) ww ll now i ∧ now ≤ 31 * (i : Int) ∧ i ≤ 20)
   (fun ⟨now, i, ww, aww_0, cww_0, Sww_0, ll, all_0, cll_0, Sll_0⟩ => 20 - i)
   (0, 0, (Wh.new (0 : Int)), a3, c4, S1, (⟨(1 + (andI life 63)), []⟩ : DStore), none, 0, (fun _ => False)) ?_ (sr (sr (sr (sr (sr (sr (sr (sr (Sub.nil _))))))))) (fun _ hw => hw) ?_
  ·exact ⟨Tt.TI.start (by omega) (by omega), by omega, by omega⟩
  rintro ⟨now, i, ww, aww_0, cww_0, Sww_0, ll, all_0, cll_0, Sll_0⟩ hI K hK10
  show SC _ _ Try.prog 206 w0 _ _ [(0, Vi (1 + (andI life 63))), (1, .slice akeys keys.length ckeys), (2, .slice aat_ at_.length cat_), (3, Vi to), (9, .pointer (some ⟨B6, 0, none⟩)), (11, .pointer (some ⟨B8, 0, none⟩)), (12, Vi now), (13, Vi (i : Int))] [own tEntry Sll_0 all_0 cll_0 ll.entries, box B8 [Vi ll.life, .slice all_0 ll.entries.length cll_0] 86, box B6 [Vi ww.now, .slice aww_0 ww.slots.length cww_0.n] 50, ownN tTimer Sww_0 aww_0 cww_0 ww.slots, base w0]
  refine c_seq (c_seq (c_region ?_))
  refine o_mv rfl rfl ?_
  refine o_mv rfl rfl ?_
  refine o_p (p_len_slice rfl rfl Try.underlying37) ?_
  refine o_p (p_lt rfl rfl) ?_
  refine o_mv rfl rfl ?_
  refine o_and (p := 60) 5 (decide ((i : Int) < (at_.length : Int))) ?_ ?_ ?_
  ·intro hb11 hk
   simp only [decide_eq_true_eq] at hb11
   refine o_unguard 55 rfl rfl ?_
   refine o_mv rfl rfl ?_
   refine o_unguard 55 rfl rfl ?_
   refine o_mv rfl rfl ?_
   refine o_unguard 55 rfl rfl ?_
   refine o_p (p_len_slice rfl rfl Try.underlying37) ?_
   refine o_unguard 55 rfl rfl ?_
   refine o_p (p_lt rfl rfl) ?_
   refine o_pt rfl rfl rfl ?_
   exact o_sub (sr (Sub.skip rfl (Sub.skip rfl (Sub.skip rfl (Sub.skip rfl (Sub.skip rfl (Sub.skip rfl (Sub.refl _)))))))) hk
  ·intro hb11 hk
   refine o_guard_no rfl 55 rfl rfl rfl rfl rfl ?_
   refine o_guard_no rfl 55 rfl rfl rfl rfl rfl ?_
   refine o_guard_no rfl 55 rfl rfl rfl rfl rfl ?_
   refine o_guard_no rfl 55 rfl rfl rfl rfl rfl ?_
   refine o_pf rfl rfl rfl ?_
   exact o_sub (sr (Sub.skip rfl (Sub.skip rfl (Sub.skip rfl (Sub.skip rfl (Sub.skip rfl (Sub.skip rfl (Sub.refl _)))))))) hk
  refine o_mv rfl rfl ?_
  refine o_and (p := 64) 3 (decide ((i : Int) < 20)) ?_ ?_ ?_
  ·intro hb12 hk
   simp only [Bool.and_eq_true, decide_eq_true_eq] at hb12
   refine o_unguard 61 rfl rfl ?_
   refine o_mv rfl rfl ?_
   refine o_unguard 61 rfl rfl ?_
   refine o_p (p_lt rfl rfl) ?_
   refine o_pt rfl rfl rfl ?_
   exact o_sub (sr (Sub.skip rfl (Sub.skip rfl (Sub.skip rfl (Sub.skip rfl (Sub.refl _)))))) hk
  ·intro hb12 hk
   refine o_guard_no rfl 61 rfl rfl rfl rfl rfl ?_
   refine o_guard_no rfl 61 rfl rfl rfl rfl rfl ?_
   refine o_pf rfl rfl rfl ?_
   exact o_sub (sr (Sub.skip rfl (Sub.skip rfl (Sub.skip rfl (Sub.skip rfl (Sub.refl _)))))) hk
  refine o_nil (q_then ?_)
  refine c_cond rfl (fun hc13 => ?_) (fun hc13 => ?_)
  ·simp only [Bool.and_eq_true, decide_eq_true_eq] at hc13
   have hkb := Tt.a15 (keys.getD i default)
   have hab := Tt.a31 (at_.getD i default)
   have hT := hI.1
   have hnb := hI.2
   have hn9 := hT.now0
   have hfe := hT.es.len
   refine c_skip (q_then (c_seq (c_block (c_seq (c_region ?_)))))
   refine o_mv rfl rfl ?_
   refine o_mv rfl rfl ?_
   refine o_p (p_indexAddr (L := keys) (T := tInt) (i := (i : Int)) rfl rfl (rd_base (i := 4) rfl hkeys) Try.underlying37 sz3 (by omega) (by omega)) ?_
   refine o_p (p_loadE1 (i := i) (T := tInt) (L := keys) (v := Vi (keys.getD i default)) rfl (rd_base (i := 4) rfl hkeys) (by first | assumption | omega) sh3 (congrArg tInt.enc (getd_at (by first | assumption | omega) default))) ?_
   refine o_p (p_andI (p := (keys.getD i default)) (q := 15) rfl rfl) ?_
   refine o_as rfl rfl ?_
   refine o_nil (q_then (c_seq (c_region ?_)))
   refine o_mv rfl rfl ?_
   refine o_mv rfl rfl ?_
   refine o_mv rfl rfl ?_
   refine o_p (p_indexAddr (L := at_) (T := tInt) (i := (i : Int)) rfl rfl (rd_base (i := 4) rfl hat_) Try.underlying37 sz3 (by omega) (by omega)) ?_
   refine o_p (p_loadE1 (i := i) (T := tInt) (L := at_) (v := Vi (at_.getD i default)) rfl (rd_base (i := 4) rfl hat_) (by first | assumption | omega) sh3 (congrArg tInt.enc (getd_at (by first | assumption | omega) default))) ?_
   refine o_p (p_andI (p := (at_.getD i default)) (q := 31) rfl rfl) ?_
   refine o_p (p_addb rfl rfl (by omega)) ?_
   refine o_as rfl rfl ?_
   refine o_nil (q_then (c_seq (c_region ?_)))
   refine o_p (p_load_agg (i := 2) (vs := [Vi ww.now, .slice aww_0 ww.slots.length cww_0.n]) rfl rfl sh50 rfl rfl) ?_
   refine o_mv rfl rfl ?_
   refine o_callX (pre := []) (R := [own tEntry Sll_0 all_0 cll_0 ll.entries, box B8 [Vi ll.life, .slice all_0 ll.entries.length cll_0] 86, box B6 [Vi ww.now, .slice aww_0 ww.slots.length cww_0.n] 50, ownN tTimer Sww_0 aww_0 cww_0 ww.slots, base w0]) rfl (wadvance_ok ww aww_0 cww_0 (now + (andI (at_.getD i default) 31))) hf32 rfl (fun w hw => (rdXN (i := 3) (js := []) rfl (by decide) rfl (fun _ hA => SlON.toR hA)) w hw) rfl ?_
   rintro ⟨a14, c15, S16, a17, c18, S19⟩
   refine o_asH (H' := [ownN tTimer S16 a14 c15 ((Wh.adv ww (now + (andI (at_.getD i default) 31))).slots), own tTimer S19 a17 c18 (Wh.gone ww (now + (andI (at_.getD i default) 31))), own tEntry Sll_0 all_0 cll_0 ll.entries, box B8 [Vi ll.life, .slice all_0 ll.entries.length cll_0] 86, box B6 [Vi ww.now, .slice aww_0 ww.slots.length cww_0.n] 50, ownN tTimer Sww_0 aww_0 cww_0 ww.slots, base w0]) rfl ?_
   refine o_mv rfl rfl ?_
   refine o_ex rfl rfl rfl ?_
   refine o_ex rfl rfl rfl ?_
   refine o_ex rfl rfl rfl ?_
   refine o_alloc ze50 rfl (fun B22 => ?_)
   refine o_storeN (i := 0) (vs := [Vi ((Wh.adv ww (now + (andI (at_.getD i default) 31))).now), .slice a14 ((Wh.adv ww (now + (andI (at_.getD i default) 31))).slots).length c15.n]) (cs' := [Vi ((Wh.adv ww (now + (andI (at_.getD i default) 31))).now), .slice a14 ((Wh.adv ww (now + (andI (at_.getD i default) 31))).slots).length c15.n]) rfl rfl rfl sz50 rfl rfl rfl rfl ?_
   refine o_as rfl rfl ?_
   refine o_as rfl rfl ?_
   refine o_nil (q_then (c_seq (c_region ?_)))
   refine o_p (p_load_agg (i := 4) (vs := [Vi ll.life, .slice all_0 ll.entries.length cll_0]) rfl rfl sh86 rfl rfl) ?_
   refine o_mv rfl rfl ?_
   refine o_callM rfl (esweep_ok ll all_0 cll_0 (now + (andI (at_.getD i default) 31))) hf47 (fun w hw => (rd_own (i := 3) rfl) w hw) rfl (fun _ _ _ _ ha hA => ⟨SlR.agree ha hA.1, SlR.agree ha hA.2⟩) ?_
   rintro ⟨a25, c26, a27, c28⟩ S23
   refine o_know (fun w hw => (hw.at (i := 0) rfl).here.1.2.1) (fun hlr29 => ?_)
   refine o_know (fun w hw => (hw.at (i := 0) rfl).here.2.2.1) (fun hlr30 => ?_)
   refine o_mv rfl rfl ?_
   refine o_ex rfl rfl rfl ?_
   refine o_ex rfl rfl rfl ?_
   refine o_ex rfl rfl rfl ?_
   refine o_alloc ze86 rfl (fun B31 => ?_)
   refine o_storeN (i := 0) (vs := [Vi (((Exp.sweep ll (now + (andI (at_.getD i default) 31))).1).life), .slice a25 (((Exp.sweep ll (now + (andI (at_.getD i default) 31))).1).entries).length c26]) (cs' := [Vi (((Exp.sweep ll (now + (andI (at_.getD i default) 31))).1).life), .slice a25 (((Exp.sweep ll (now + (andI (at_.getD i default) 31))).1).entries).length c26]) rfl rfl rfl sz86 rfl rfl rfl rfl ?_
   refine o_as rfl rfl ?_
   refine o_as rfl rfl ?_
   refine o_nil (q_then (c_seq (c_seq (c_region ?_))))
   refine o_mv rfl rfl ?_
   refine o_p (p_ne rfl rfl) ?_
   refine o_mv rfl rfl ?_
   refine o_or (p := 98) 3 ((Exp.nowErr ll (now + (andI (at_.getD i default) 31))) != 0) ?_ ?_ ?_
   ·intro hb32 hk
    simp only [bne_eq_false_iff_eq] at hb32
    refine o_unguard 95 rfl rfl ?_
    refine o_mv rfl rfl ?_
    refine o_unguard 95 rfl rfl ?_
    refine o_p (p_ne rfl rfl) ?_
    refine o_pf rfl rfl rfl ?_
    exact o_sub (sr (Sub.skip rfl (Sub.skip rfl (Sub.skip rfl (Sub.skip rfl (Sub.refl _)))))) hk
   ·intro hb32 hk
    refine o_guard_no rfl 95 rfl rfl rfl rfl rfl ?_
    refine o_guard_no rfl 95 rfl rfl rfl rfl rfl ?_
    refine o_pt rfl rfl rfl ?_
    exact o_sub (sr (Sub.skip rfl (Sub.skip rfl (Sub.skip rfl (Sub.skip rfl (Sub.refl _)))))) hk
   refine o_mv rfl rfl ?_
   refine o_or (p := 105) 6 (((Wh.gone ww (now + (andI (at_.getD i default) 31))).length : Int) != (((Exp.sweep ll (now + (andI (at_.getD i default) 31))).2).length : Int)) ?_ ?_ ?_
   ·intro hb33 hk
    simp only [Bool.or_eq_false_iff, bne_eq_false_iff_eq] at hb33
    refine o_unguard 99 rfl rfl ?_
    refine o_mv rfl rfl ?_
    refine o_unguard 99 rfl rfl ?_
    refine o_p (p_len_slice rfl rfl Try.underlying57) ?_
    refine o_unguard 99 rfl rfl ?_
    refine o_mv rfl rfl ?_
    refine o_unguard 99 rfl rfl ?_
    refine o_p (p_len_slice rfl rfl Try.underlying37) ?_
    refine o_unguard 99 rfl rfl ?_
    refine o_p (p_ne rfl rfl) ?_
    refine o_pf rfl rfl rfl ?_
    exact o_sub (sr (Sub.skip rfl (Sub.skip rfl (Sub.skip rfl (Sub.skip rfl (Sub.skip rfl (Sub.skip rfl (Sub.skip rfl (Sub.refl _))))))))) hk
   ·intro hb33 hk
    refine o_guard_no rfl 99 rfl rfl rfl rfl rfl ?_
    refine o_guard_no rfl 99 rfl rfl rfl rfl rfl ?_
    refine o_guard_no rfl 99 rfl rfl rfl rfl rfl ?_
    refine o_guard_no rfl 99 rfl rfl rfl rfl rfl ?_
    refine o_guard_no rfl 99 rfl rfl rfl rfl rfl ?_
    refine o_pt rfl rfl rfl ?_
    exact o_sub (sr (Sub.skip rfl (Sub.skip rfl (Sub.skip rfl (Sub.skip rfl (Sub.skip rfl (Sub.skip rfl (Sub.skip rfl (Sub.refl _))))))))) hk
   refine o_nil (q_then ?_)
   refine c_cond rfl (fun hc34 => ?_) (fun hc34 => ?_)
   ·simp only [Bool.or_eq_true, bne_iff_ne, ne_eq] at hc34
    exfalso; have q1 := hT.adv (to := (now + (andI (at_.getD i default) 31))) (by omega) (by omega); have q2 := hT.swp (to := (now + (andI (at_.getD i default) 31))) (by omega) (by omega); have q3 := hT.len (to := (now + (andI (at_.getD i default) 31))) (by omega) (by omega); rcases hc34 with (h9 | h9) | h9; exact h9 q1; exact h9 q2; omega
   ·simp only [Bool.or_eq_false_iff, bne_eq_false_iff_eq] at hc34
    have hT2 := hT.step (to := (now + (andI (at_.getD i default) 31))) (by omega) (by omega)
    have q3 := hT.len (to := (now + (andI (at_.getD i default) 31))) (by omega) (by omega)
    refine c_skip (q_then (c_seq (c_seq (c_region ?_))))
    refine o_as rfl rfl ?_
    refine o_nil (q_then (c_block ?_))
    refine c_loop (St := Nat)
     (fun k => [(0, Vi (1 + (andI life 63))), (1, .slice akeys keys.length ckeys), (2, .slice aat_ at_.length cat_), (3, Vi to), (9, .pointer (some ⟨B6, 0, none⟩)), (11, .pointer (some ⟨B8, 0, none⟩)), (12, Vi (now + (andI (at_.getD i default) 31))), (13, Vi (i : Int)), (14, Vi (andI (keys.getD i default) 15)), (15, .pointer (some ⟨B22, 0, none⟩)), (16, .slice a17 (Wh.gone ww (now + (andI (at_.getD i default) 31))).length c18), (18, .pointer (some ⟨B31, 0, none⟩)), (19, .slice a27 ((Exp.sweep ll (now + (andI (at_.getD i default) 31))).2).length c28), (21, Vi (k : Int))])
     (fun k => [box B31 [Vi (((Exp.sweep ll (now + (andI (at_.getD i default) 31))).1).life), .slice a25 (((Exp.sweep ll (now + (andI (at_.getD i default) 31))).1).entries).length c26] 86, ⟨S23, fun w => SlR tEntry S23 w a25 c26 (((Exp.sweep ll (now + (andI (at_.getD i default) 31))).1).entries) ∧ SlR tInt S23 w a27 c28 ((Exp.sweep ll (now + (andI (at_.getD i default) 31))).2)⟩, box B22 [Vi ((Wh.adv ww (now + (andI (at_.getD i default) 31))).now), .slice a14 ((Wh.adv ww (now + (andI (at_.getD i default) 31))).slots).length c15.n] 50, ownN tTimer S16 a14 c15 ((Wh.adv ww (now + (andI (at_.getD i default) 31))).slots), own tTimer S19 a17 c18 (Wh.gone ww (now + (andI (at_.getD i default) 31))), own tEntry Sll_0 all_0 cll_0 ll.entries, box B8 [Vi ll.life, .slice all_0 ll.entries.length cll_0] 86, box B6 [Vi ww.now, .slice aww_0 ww.slots.length cww_0.n] 50, ownN tTimer Sww_0 aww_0 cww_0 ww.slots, base w0])
     (fun k => k ≤ (Wh.gone ww (now + (andI (at_.getD i default) 31))).length)
     (fun k => (Wh.gone ww (now + (andI (at_.getD i default) 31))).length - k)
     0 ?_ (sr (sr (sr (sr (sr (sr (sr (sr (sr (sr (sr (sr (sr (sr (Sub.nil _))))))))))))))) (fun _ hw => hw) ?_
    ·exact Nat.zero_le _
    rintro k hI K hK35
    show SC _ _ Try.prog 206 w0 _ _ [(0, Vi (1 + (andI life 63))), (1, .slice akeys keys.length ckeys), (2, .slice aat_ at_.length cat_), (3, Vi to), (9, .pointer (some ⟨B6, 0, none⟩)), (11, .pointer (some ⟨B8, 0, none⟩)), (12, Vi (now + (andI (at_.getD i default) 31))), (13, Vi (i : Int)), (14, Vi (andI (keys.getD i default) 15)), (15, .pointer (some ⟨B22, 0, none⟩)), (16, .slice a17 (Wh.gone ww (now + (andI (at_.getD i default) 31))).length c18), (18, .pointer (some ⟨B31, 0, none⟩)), (19, .slice a27 ((Exp.sweep ll (now + (andI (at_.getD i default) 31))).2).length c28), (21, Vi (k : Int))] [box B31 [Vi (((Exp.sweep ll (now + (andI (at_.getD i default) 31))).1).life), .slice a25 (((Exp.sweep ll (now + (andI (at_.getD i default) 31))).1).entries).length c26] 86, ⟨S23, fun w => SlR tEntry S23 w a25 c26 (((Exp.sweep ll (now + (andI (at_.getD i default) 31))).1).entries) ∧ SlR tInt S23 w a27 c28 ((Exp.sweep ll (now + (andI (at_.getD i default) 31))).2)⟩, box B22 [Vi ((Wh.adv ww (now + (andI (at_.getD i default) 31))).now), .slice a14 ((Wh.adv ww (now + (andI (at_.getD i default) 31))).slots).length c15.n] 50, ownN tTimer S16 a14 c15 ((Wh.adv ww (now + (andI (at_.getD i default) 31))).slots), own tTimer S19 a17 c18 (Wh.gone ww (now + (andI (at_.getD i default) 31))), own tEntry Sll_0 all_0 cll_0 ll.entries, box B8 [Vi ll.life, .slice all_0 ll.entries.length cll_0] 86, box B6 [Vi ww.now, .slice aww_0 ww.slots.length cww_0.n] 50, ownN tTimer Sww_0 aww_0 cww_0 ww.slots, base w0]
    refine c_seq (c_seq (c_region ?_))
    refine o_mv rfl rfl ?_
    refine o_mv rfl rfl ?_
    refine o_p (p_len_slice rfl rfl Try.underlying57) ?_
    refine o_p (p_lt rfl rfl) ?_
    refine o_nil (q_then ?_)
    refine c_cond rfl (fun hc36 => ?_) (fun hc36 => ?_)
    ·simp only [decide_eq_true_eq] at hc36
     refine c_skip (q_then (c_seq (c_block (c_seq (c_region ?_)))))
     refine o_mv rfl rfl ?_
     refine o_mv rfl rfl ?_
     refine o_mv rfl rfl ?_
     refine o_p (p_indexAddr (L := (Wh.gone ww (now + (andI (at_.getD i default) 31)))) (T := tTimer) (i := (k : Int)) rfl rfl (rd_own (i := 4) rfl) Try.underlying57 sz52 (by omega) (by omega)) ?_
     refine o_p (p_fieldAddrE rfl fo52_0) ?_
     refine o_p (p_loadF (i := k) (j := 0) (T := tTimer) (L := (Wh.gone ww (now + (andI (at_.getD i default) 31)))) (v := Vi (((Wh.gone ww (now + (andI (at_.getD i default) 31))).getD k default).id)) rfl (rd_own (i := 4) rfl) (by first | assumption | omega) sh3 (congrArg (fun z => (tTimer.enc z)[0]?) (getd_at (by first | assumption | omega) default))) ?_
     refine o_call0 (v := .bool (Ref.hasInt ((Exp.sweep ll (now + (andI (at_.getD i default) 31))).2) (((Wh.gone ww (now + (andI (at_.getD i default) 31))).getD k default).id))) rfl (thas_ok ((Exp.sweep ll (now + (andI (at_.getD i default) 31))).2) a27 c28 (((Wh.gone ww (now + (andI (at_.getD i default) 31))).getD k default).id)) hf48 (fun w hw => (rd_ent (i := 1) rfl (fun w h => h.2)) w hw) rfl ?_
     refine o_p (p_not (b := (Ref.hasInt ((Exp.sweep ll (now + (andI (at_.getD i default) 31))).2) (((Wh.gone ww (now + (andI (at_.getD i default) 31))).getD k default).id))) rfl) ?_
     refine o_nil (q_then ?_)
     refine c_cond rfl (fun hc37 => ?_) (fun hc37 => ?_)
     ·simp only [Bool.not_eq_true'] at hc37
      exfalso; have q4 := hT.has (to := (now + (andI (at_.getD i default) 31))) (by omega) (by omega) (k := k) (by omega); simp [Ref.hasInt] at hc37; exact hc37 (by simpa using q4)
     ·simp only [Bool.not_eq_false'] at hc37
      refine c_skip ?_
      refine q_block_normal (q_then ?_)
      refine c_region ?_
      refine o_mv rfl rfl ?_
      refine o_p (p_addb rfl rfl (by omega)) ?_
      refine o_as rfl rfl ?_
      refine o_nil ?_
      refine q_round hK35 (k + 1) ?_ ?_ ?_ ?_
      ·clear hK35
       omega
      ·(try dsimp only); omega
      ·exact sr (sr (sr (sr (sr (sr (sr (sr (sr (sr (sr (sr (sr (sr (Sub.nil _))))))))))))))
      ·exact pk [0, 1, 2, 3, 4, 5, 6, 7, 8, 9]
    ·simp only [decide_eq_false_iff_not, Int.not_lt] at hc36
     refine c_exit ?_
     refine q_then_exit (q_then_exit (q_block_exit (q_then ?_)))
     refine c_seq ?_
     refine c_held hmix [box B31 [Vi (((Exp.sweep ll (now + (andI (at_.getD i default) 31))).1).life), .slice a25 (((Exp.sweep ll (now + (andI (at_.getD i default) 31))).1).entries).length c26] 86, ⟨S23, fun w => SlR tEntry S23 w a25 c26 (((Exp.sweep ll (now + (andI (at_.getD i default) 31))).1).entries) ∧ SlR tInt S23 w a27 c28 ((Exp.sweep ll (now + (andI (at_.getD i default) 31))).2)⟩, box B22 [Vi ((Wh.adv ww (now + (andI (at_.getD i default) 31))).now), .slice a14 ((Wh.adv ww (now + (andI (at_.getD i default) 31))).slots).length c15.n] 50, ownN tTimer S16 a14 c15 ((Wh.adv ww (now + (andI (at_.getD i default) 31))).slots), own tTimer S19 a17 c18 (Wh.gone ww (now + (andI (at_.getD i default) 31))), own tEntry Sll_0 all_0 cll_0 ll.entries, ownN tTimer Sww_0 aww_0 cww_0 ww.slots, base w0] rfl rfl ?_
     refine h_tk (i := 0) (ls := #[T1,F0,F0,F0]) rfl (p_load_agg (i := 2) (vs := [Vi ((Wh.adv ww (now + (andI (at_.getD i default) 31))).now), .slice a14 ((Wh.adv ww (now + (andI (at_.getD i default) 31))).slots).length c15.n]) rfl rfl sh50 rfl rfl) (dp (lj (lj (lj (lj (lj (lj (lz (lz (lj (lj (ln)))))))))))) ?_
     refine h_tk (i := 1) (ls := #[T1,T1,F0,F0]) rfl (p_load_agg (i := 0) (vs := [Vi (((Exp.sweep ll (now + (andI (at_.getD i default) 31))).1).life), .slice a25 (((Exp.sweep ll (now + (andI (at_.getD i default) 31))).1).entries).length c26]) rfl rfl sh86 rfl rfl) (dp (lj (lj (lj (lj (lj (lj (lz (lz (lj (lj (ln)))))))))))) ?_
     refine h_one (i := 2) (ls := #[T1,T1,T1,F0]) (by kernel_rfl) rfl rfl ?_
     refine o_storeN (i := 7) (vs := [Vi ((Wh.adv ww (now + (andI (at_.getD i default) 31))).now), .slice a14 ((Wh.adv ww (now + (andI (at_.getD i default) 31))).slots).length c15.n]) (cs' := [Vi ((Wh.adv ww (now + (andI (at_.getD i default) 31))).now), .slice a14 ((Wh.adv ww (now + (andI (at_.getD i default) 31))).slots).length c15.n]) rfl rfl rfl sz50 rfl rfl rfl rfl ?_
     refine o_nil ?_
     refine h_next (dp (lj (lj (lj (lj (lj (lj (lz (lz (lj (lj (ln)))))))))))) ?_
     refine h_one (i := 3) (ls := #[T1,T1,T1,T1]) (by kernel_rfl) rfl rfl ?_
     refine o_storeN (i := 6) (vs := [Vi (((Exp.sweep ll (now + (andI (at_.getD i default) 31))).1).life), .slice a25 (((Exp.sweep ll (now + (andI (at_.getD i default) 31))).1).entries).length c26]) (cs' := [Vi (((Exp.sweep ll (now + (andI (at_.getD i default) 31))).1).life), .slice a25 (((Exp.sweep ll (now + (andI (at_.getD i default) 31))).1).entries).length c26]) rfl rfl rfl sz86 rfl rfl rfl rfl ?_
     refine o_nil ?_
     refine h_next (dp (lj (lj (lj (lj (lj (lj (lz (lz (lj (lj (ln)))))))))))) ?_
     refine h_done (by kernel_rfl) ?_
     refine q_then (c_seq (c_seq (c_region ?_)))
     refine o_p (p_load_agg (i := 7) (vs := [Vi ((Wh.adv ww (now + (andI (at_.getD i default) 31))).now), .slice a14 ((Wh.adv ww (now + (andI (at_.getD i default) 31))).slots).length c15.n]) rfl rfl sh50 rfl rfl) ?_
     refine o_mv rfl rfl ?_
     refine o_callM rfl (wcancel_ok (Wh.adv ww (now + (andI (at_.getD i default) 31))) a14 c15 (andI (keys.getD i default) 15)) hf31 (fun w hw => (rd_ownN (i := 3) rfl) w hw) rfl (fun _ _ _ _ ha hA => SlON.agree ha hA) ?_
     rintro ⟨a41, c42⟩ S39
     refine o_know (fun w hw => own_lenN (i := 0) (T := tTimer) hw rfl) (fun hlr43 => ?_)
     refine o_mv rfl rfl ?_
     refine o_ex rfl rfl rfl ?_
     refine o_ex rfl rfl rfl ?_
     refine o_alloc ze50 rfl (fun B44 => ?_)
     refine o_storeN (i := 0) (vs := [Vi ((Wh.cancel (Wh.adv ww (now + (andI (at_.getD i default) 31))) (andI (keys.getD i default) 15)).now), .slice a41 ((Wh.cancel (Wh.adv ww (now + (andI (at_.getD i default) 31))) (andI (keys.getD i default) 15)).slots).length c42.n]) (cs' := [Vi ((Wh.cancel (Wh.adv ww (now + (andI (at_.getD i default) 31))) (andI (keys.getD i default) 15)).now), .slice a41 ((Wh.cancel (Wh.adv ww (now + (andI (at_.getD i default) 31))) (andI (keys.getD i default) 15)).slots).length c42.n]) rfl rfl rfl sz50 rfl rfl rfl rfl ?_
     refine o_as rfl rfl ?_
     refine o_nil (q_then (c_seq (c_region ?_)))
     refine o_mv rfl rfl ?_
     refine o_p (p_eq rfl rfl) ?_
     refine o_nil (q_then ?_)
     refine c_join (G := DWheel × Option Addr × NC × (Nat → Prop))
      (fun ⟨wj, awj_0, cwj_0, Swj_0⟩ => [(0, Vi (1 + (andI life 63))), (1, .slice akeys keys.length ckeys), (2, .slice aat_ at_.length cat_), (3, Vi to), (9, .pointer (some ⟨B6, 0, none⟩)), (11, .pointer (some ⟨B8, 0, none⟩)), (12, Vi (now + (andI (at_.getD i default) 31))), (13, Vi (i : Int)), (14, Vi (andI (keys.getD i default) 15))])
      (fun ⟨wj, awj_0, cwj_0, Swj_0⟩ => [box B31 [Vi (((Exp.sweep ll (now + (andI (at_.getD i default) 31))).1).life), .slice a25 (((Exp.sweep ll (now + (andI (at_.getD i default) 31))).1).entries).length c26] 86, ⟨S23, fun w => SlR tEntry S23 w a25 c26 (((Exp.sweep ll (now + (andI (at_.getD i default) 31))).1).entries) ∧ SlR tInt S23 w a27 c28 ((Exp.sweep ll (now + (andI (at_.getD i default) 31))).2)⟩, box B22 [Vi ((Wh.adv ww (now + (andI (at_.getD i default) 31))).now), .slice a14 ((Wh.adv ww (now + (andI (at_.getD i default) 31))).slots).length c15.n] 50, ownN tTimer Swj_0 awj_0 cwj_0 wj.slots, own tTimer S19 a17 c18 (Wh.gone ww (now + (andI (at_.getD i default) 31))), own tEntry Sll_0 all_0 cll_0 ll.entries, box B8 [Vi (((Exp.sweep ll (now + (andI (at_.getD i default) 31))).1).life), .slice a25 (((Exp.sweep ll (now + (andI (at_.getD i default) 31))).1).entries).length c26] 86, box B6 [Vi wj.now, .slice awj_0 wj.slots.length cwj_0.n] 50, ownN tTimer Sww_0 aww_0 cww_0 ww.slots, base w0])
      (fun ⟨wj, awj_0, cwj_0, Swj_0⟩ => wj = Tt.cut1 (Wh.adv ww (now + (andI (at_.getD i default) 31))) (andI (keys.getD i default) 15))
      (fun K hK45 => ?_) ?_
     ·refine c_cond rfl (fun hc46 => ?_) (fun hc46 => ?_)
      ·simp only [beq_iff_eq] at hc46
       refine c_region ?_
       refine o_p (p_load_agg (i := 0) (vs := [Vi ((Wh.cancel (Wh.adv ww (now + (andI (at_.getD i default) 31))) (andI (keys.getD i default) 15)).now), .slice a41 ((Wh.cancel (Wh.adv ww (now + (andI (at_.getD i default) 31))) (andI (keys.getD i default) 15)).slots).length c42.n]) rfl rfl sh50 rfl rfl) ?_
       refine o_storeN (i := 9) (vs := [Vi ((Wh.cancel (Wh.adv ww (now + (andI (at_.getD i default) 31))) (andI (keys.getD i default) 15)).now), .slice a41 ((Wh.cancel (Wh.adv ww (now + (andI (at_.getD i default) 31))) (andI (keys.getD i default) 15)).slots).length c42.n]) (cs' := [Vi ((Wh.cancel (Wh.adv ww (now + (andI (at_.getD i default) 31))) (andI (keys.getD i default) 15)).now), .slice a41 ((Wh.cancel (Wh.adv ww (now + (andI (at_.getD i default) 31))) (andI (keys.getD i default) 15)).slots).length c42.n]) rfl rfl rfl sz50 rfl rfl rfl rfl ?_
       refine o_nil ?_
       refine q_join hK45 ((Wh.cancel (Wh.adv ww (now + (andI (at_.getD i default) 31))) (andI (keys.getD i default) 15)), a41, c42, S39) ?_ (sr (sr (sr (sr (sr (sr (sr (sr (sr (Sub.nil _)))))))))) (pk [2, 3, 4, 1, 6, 7, 8, 9, 10, 11])
       clear hK45
       first | exact (if_pos (by assumption)).symm | exact (if_neg (by assumption)).symm
      ·simp only [beq_eq_false_iff_ne, ne_eq] at hc46
       refine c_skip ?_
       refine q_join hK45 ((Wh.adv ww (now + (andI (at_.getD i default) 31))), a14, c15, S16) ?_ (sr (sr (sr (sr (sr (sr (sr (sr (sr (Sub.nil _)))))))))) (pk [2, 3, 4, 5, 6, 7, 8, 9, 10, 11])
       clear hK45
       first | exact (if_pos (by assumption)).symm | exact (if_neg (by assumption)).symm
     rintro ⟨wj, awj_0, cwj_0, Swj_0⟩ hjw
     show SQ _ 206 w0 _ _ [(0, Vi (1 + (andI life 63))), (1, .slice akeys keys.length ckeys), (2, .slice aat_ at_.length cat_), (3, Vi to), (9, .pointer (some ⟨B6, 0, none⟩)), (11, .pointer (some ⟨B8, 0, none⟩)), (12, Vi (now + (andI (at_.getD i default) 31))), (13, Vi (i : Int)), (14, Vi (andI (keys.getD i default) 15))] [box B31 [Vi (((Exp.sweep ll (now + (andI (at_.getD i default) 31))).1).life), .slice a25 (((Exp.sweep ll (now + (andI (at_.getD i default) 31))).1).entries).length c26] 86, ⟨S23, fun w => SlR tEntry S23 w a25 c26 (((Exp.sweep ll (now + (andI (at_.getD i default) 31))).1).entries) ∧ SlR tInt S23 w a27 c28 ((Exp.sweep ll (now + (andI (at_.getD i default) 31))).2)⟩, box B22 [Vi ((Wh.adv ww (now + (andI (at_.getD i default) 31))).now), .slice a14 ((Wh.adv ww (now + (andI (at_.getD i default) 31))).slots).length c15.n] 50, ownN tTimer Swj_0 awj_0 cwj_0 wj.slots, own tTimer S19 a17 c18 (Wh.gone ww (now + (andI (at_.getD i default) 31))), own tEntry Sll_0 all_0 cll_0 ll.entries, box B8 [Vi (((Exp.sweep ll (now + (andI (at_.getD i default) 31))).1).life), .slice a25 (((Exp.sweep ll (now + (andI (at_.getD i default) 31))).1).entries).length c26] 86, box B6 [Vi wj.now, .slice awj_0 wj.slots.length cwj_0.n] 50, ownN tTimer Sww_0 aww_0 cww_0 ww.slots, base w0]
     refine q_then (c_seq (c_region ?_))
     refine o_p (p_load_agg (i := 7) (vs := [Vi wj.now, .slice awj_0 wj.slots.length cwj_0.n]) rfl rfl sh50 rfl rfl) ?_
     refine o_mv rfl rfl ?_
     refine o_mv rfl rfl ?_
     refine o_mv rfl rfl ?_
     refine o_p (p_addb rfl rfl (by omega)) ?_
     refine o_p (p_build (cells := [Vi (andI (keys.getD i default) 15), Vi ((now + (andI (at_.getD i default) 31)) + (1 + (andI life 63)))]) fp52 ze52 rfl rfl) ?_
     refine o_callM rfl (wadd_ok wj awj_0 cwj_0 (⟨(andI (keys.getD i default) 15), ((now + (andI (at_.getD i default) 31)) + (1 + (andI life 63)))⟩ : DTimer)) hf30 (fun w hw => (rd_ownN (i := 3) rfl) w hw) rfl (fun _ _ _ _ ha hA => SlON.agree ha hA) ?_
     rintro ⟨a49, c50⟩ S47
     refine o_know (fun w hw => own_lenN (i := 0) (T := tTimer) hw rfl) (fun hlr51 => ?_)
     refine o_mv rfl rfl ?_
     refine o_ex rfl rfl rfl ?_
     refine o_ex rfl rfl rfl ?_
     refine o_alloc ze50 rfl (fun B52 => ?_)
     refine o_storeN (i := 0) (vs := [Vi ((Wh.add wj (⟨(andI (keys.getD i default) 15), ((now + (andI (at_.getD i default) 31)) + (1 + (andI life 63)))⟩ : DTimer)).now), .slice a49 ((Wh.add wj (⟨(andI (keys.getD i default) 15), ((now + (andI (at_.getD i default) 31)) + (1 + (andI life 63)))⟩ : DTimer)).slots).length c50.n]) (cs' := [Vi ((Wh.add wj (⟨(andI (keys.getD i default) 15), ((now + (andI (at_.getD i default) 31)) + (1 + (andI life 63)))⟩ : DTimer)).now), .slice a49 ((Wh.add wj (⟨(andI (keys.getD i default) 15), ((now + (andI (at_.getD i default) 31)) + (1 + (andI life 63)))⟩ : DTimer)).slots).length c50.n]) rfl rfl rfl sz50 rfl rfl rfl rfl ?_
     refine o_as rfl rfl ?_
     refine o_nil (q_then (c_seq (c_region ?_)))
     refine o_p (p_load_agg (i := 8) (vs := [Vi (((Exp.sweep ll (now + (andI (at_.getD i default) 31))).1).life), .slice a25 (((Exp.sweep ll (now + (andI (at_.getD i default) 31))).1).entries).length c26]) rfl rfl sh86 rfl rfl) ?_
     refine o_mv rfl rfl ?_
     refine o_mv rfl rfl ?_
     refine o_mv rfl rfl ?_
     refine o_callM rfl (eput_ok ((Exp.sweep ll (now + (andI (at_.getD i default) 31))).1) a25 c26 (andI (keys.getD i default) 15) (i : Int) (now + (andI (at_.getD i default) 31))) hf49 (fun w hw => (rd_ent (i := 3) rfl (fun w h => h.1)) w hw) rfl (fun _ _ _ _ ha hA => SlO.agree ha hA) ?_
     rintro ⟨a55, c56⟩ S53
     refine o_know (fun w hw => own_len (i := 0) (T := tEntry) hw rfl) (fun hlr57 => ?_)
     refine o_mv rfl rfl ?_
     refine o_ex rfl rfl rfl ?_
     refine o_ex rfl rfl rfl ?_
     refine o_alloc ze86 rfl (fun B58 => ?_)
     refine o_storeN (i := 0) (vs := [Vi ((Exp.put ((Exp.sweep ll (now + (andI (at_.getD i default) 31))).1) (andI (keys.getD i default) 15) (i : Int) (now + (andI (at_.getD i default) 31))).life), .slice a55 ((Exp.put ((Exp.sweep ll (now + (andI (at_.getD i default) 31))).1) (andI (keys.getD i default) 15) (i : Int) (now + (andI (at_.getD i default) 31))).entries).length c56]) (cs' := [Vi ((Exp.put ((Exp.sweep ll (now + (andI (at_.getD i default) 31))).1) (andI (keys.getD i default) 15) (i : Int) (now + (andI (at_.getD i default) 31))).life), .slice a55 ((Exp.put ((Exp.sweep ll (now + (andI (at_.getD i default) 31))).1) (andI (keys.getD i default) 15) (i : Int) (now + (andI (at_.getD i default) 31))).entries).length c56]) rfl rfl rfl sz86 rfl rfl rfl rfl ?_
     refine o_as rfl rfl ?_
     refine o_nil (q_then (c_seq (c_seq (c_region ?_))))
     refine o_mv rfl rfl ?_
     refine o_p (p_ne rfl rfl) ?_
     refine o_mv rfl rfl ?_
     refine o_or (p := 154) 3 ((Exp.putErr ((Exp.sweep ll (now + (andI (at_.getD i default) 31))).1) (andI (keys.getD i default) 15) (i : Int) (now + (andI (at_.getD i default) 31))) != 0) ?_ ?_ ?_
     ·intro hb59 hk
      simp only [bne_eq_false_iff_eq] at hb59
      refine o_unguard 151 rfl rfl ?_
      refine o_mv rfl rfl ?_
      refine o_unguard 151 rfl rfl ?_
      refine o_p (p_ne rfl rfl) ?_
      refine o_pf rfl rfl rfl ?_
      exact o_sub (sr (Sub.skip rfl (Sub.skip rfl (Sub.skip rfl (Sub.skip rfl (Sub.refl _)))))) hk
     ·intro hb59 hk
      refine o_guard_no rfl 151 rfl rfl rfl rfl rfl ?_
      refine o_guard_no rfl 151 rfl rfl rfl rfl rfl ?_
      refine o_pt rfl rfl rfl ?_
      exact o_sub (sr (Sub.skip rfl (Sub.skip rfl (Sub.skip rfl (Sub.skip rfl (Sub.refl _)))))) hk
     refine o_nil (q_then ?_)
     refine c_cond rfl (fun hc60 => ?_) (fun hc60 => ?_)
     ·simp only [Bool.or_eq_true, bne_iff_ne, ne_eq] at hc60
      exfalso; rcases hc60 with h9 | h9; exact h9 (by rw [hjw]; exact hT2.add_ (by omega) (by omega) (by omega) (by omega)); exact h9 (hT2.putE (by omega) (by omega) (by omega) (by omega))
     ·simp only [Bool.or_eq_false_iff, bne_eq_false_iff_eq] at hc60
      have hT3 := hT2.put (key := (andI (keys.getD i default) 15)) (n := (i : Int)) (by omega) (by omega) (by omega) (by omega) (by omega)
      have hnx := hT3.nxt
      refine c_skip (q_then (c_seq ?_))
      refine c_held hmix [box B58 [Vi ((Exp.put ((Exp.sweep ll (now + (andI (at_.getD i default) 31))).1) (andI (keys.getD i default) 15) (i : Int) (now + (andI (at_.getD i default) 31))).life), .slice a55 ((Exp.put ((Exp.sweep ll (now + (andI (at_.getD i default) 31))).1) (andI (keys.getD i default) 15) (i : Int) (now + (andI (at_.getD i default) 31))).entries).length c56] 86, own tEntry S53 a55 c56 ((Exp.put ((Exp.sweep ll (now + (andI (at_.getD i default) 31))).1) (andI (keys.getD i default) 15) (i : Int) (now + (andI (at_.getD i default) 31))).entries), box B52 [Vi ((Wh.add wj (⟨(andI (keys.getD i default) 15), ((now + (andI (at_.getD i default) 31)) + (1 + (andI life 63)))⟩ : DTimer)).now), .slice a49 ((Wh.add wj (⟨(andI (keys.getD i default) 15), ((now + (andI (at_.getD i default) 31)) + (1 + (andI life 63)))⟩ : DTimer)).slots).length c50.n] 50, ownN tTimer S47 a49 c50 ((Wh.add wj (⟨(andI (keys.getD i default) 15), ((now + (andI (at_.getD i default) 31)) + (1 + (andI life 63)))⟩ : DTimer)).slots), box B31 [Vi (((Exp.sweep ll (now + (andI (at_.getD i default) 31))).1).life), .slice a25 (((Exp.sweep ll (now + (andI (at_.getD i default) 31))).1).entries).length c26] 86, ⟨S23, fun w => SlR tEntry S23 w a25 c26 (((Exp.sweep ll (now + (andI (at_.getD i default) 31))).1).entries) ∧ SlR tInt S23 w a27 c28 ((Exp.sweep ll (now + (andI (at_.getD i default) 31))).2)⟩, box B22 [Vi ((Wh.adv ww (now + (andI (at_.getD i default) 31))).now), .slice a14 ((Wh.adv ww (now + (andI (at_.getD i default) 31))).slots).length c15.n] 50, ownN tTimer Swj_0 awj_0 cwj_0 wj.slots, own tTimer S19 a17 c18 (Wh.gone ww (now + (andI (at_.getD i default) 31))), own tEntry Sll_0 all_0 cll_0 ll.entries, ownN tTimer Sww_0 aww_0 cww_0 ww.slots, base w0] rfl rfl ?_
      refine h_tk (i := 0) (ls := #[T1,F0,F0,F0]) rfl (p_load_agg (i := 2) (vs := [Vi ((Wh.add wj (⟨(andI (keys.getD i default) 15), ((now + (andI (at_.getD i default) 31)) + (1 + (andI life 63)))⟩ : DTimer)).now), .slice a49 ((Wh.add wj (⟨(andI (keys.getD i default) 15), ((now + (andI (at_.getD i default) 31)) + (1 + (andI life 63)))⟩ : DTimer)).slots).length c50.n]) rfl rfl sh50 rfl rfl) (dp (lj (lj (lj (lj (lj (lj (lj (lj (lj (lj (lz (lz (lj (lj (ln)))))))))))))))) ?_
      refine h_tk (i := 1) (ls := #[T1,T1,F0,F0]) rfl (p_load_agg (i := 0) (vs := [Vi ((Exp.put ((Exp.sweep ll (now + (andI (at_.getD i default) 31))).1) (andI (keys.getD i default) 15) (i : Int) (now + (andI (at_.getD i default) 31))).life), .slice a55 ((Exp.put ((Exp.sweep ll (now + (andI (at_.getD i default) 31))).1) (andI (keys.getD i default) 15) (i : Int) (now + (andI (at_.getD i default) 31))).entries).length c56]) rfl rfl sh86 rfl rfl) (dp (lj (lj (lj (lj (lj (lj (lj (lj (lj (lj (lz (lz (lj (lj (ln)))))))))))))))) ?_
      refine h_one (i := 2) (ls := #[T1,T1,T1,F0]) (by kernel_rfl) rfl rfl ?_
      refine o_storeN (i := 11) (vs := [Vi ((Wh.add wj (⟨(andI (keys.getD i default) 15), ((now + (andI (at_.getD i default) 31)) + (1 + (andI life 63)))⟩ : DTimer)).now), .slice a49 ((Wh.add wj (⟨(andI (keys.getD i default) 15), ((now + (andI (at_.getD i default) 31)) + (1 + (andI life 63)))⟩ : DTimer)).slots).length c50.n]) (cs' := [Vi ((Wh.add wj (⟨(andI (keys.getD i default) 15), ((now + (andI (at_.getD i default) 31)) + (1 + (andI life 63)))⟩ : DTimer)).now), .slice a49 ((Wh.add wj (⟨(andI (keys.getD i default) 15), ((now + (andI (at_.getD i default) 31)) + (1 + (andI life 63)))⟩ : DTimer)).slots).length c50.n]) rfl rfl rfl sz50 rfl rfl rfl rfl ?_
      refine o_nil ?_
      refine h_next (dp (lj (lj (lj (lj (lj (lj (lj (lj (lj (lj (lz (lz (lj (lj (ln)))))))))))))))) ?_
      refine h_one (i := 3) (ls := #[T1,T1,T1,T1]) (by kernel_rfl) rfl rfl ?_
      refine o_storeN (i := 10) (vs := [Vi ((Exp.put ((Exp.sweep ll (now + (andI (at_.getD i default) 31))).1) (andI (keys.getD i default) 15) (i : Int) (now + (andI (at_.getD i default) 31))).life), .slice a55 ((Exp.put ((Exp.sweep ll (now + (andI (at_.getD i default) 31))).1) (andI (keys.getD i default) 15) (i : Int) (now + (andI (at_.getD i default) 31))).entries).length c56]) (cs' := [Vi ((Exp.put ((Exp.sweep ll (now + (andI (at_.getD i default) 31))).1) (andI (keys.getD i default) 15) (i : Int) (now + (andI (at_.getD i default) 31))).life), .slice a55 ((Exp.put ((Exp.sweep ll (now + (andI (at_.getD i default) 31))).1) (andI (keys.getD i default) 15) (i : Int) (now + (andI (at_.getD i default) 31))).entries).length c56]) rfl rfl rfl sz86 rfl rfl rfl rfl ?_
      refine o_nil ?_
      refine h_next (dp (lj (lj (lj (lj (lj (lj (lj (lj (lj (lj (lz (lz (lj (lj (ln)))))))))))))))) ?_
      refine h_done (by kernel_rfl) ?_
      refine q_then (c_seq (c_region ?_))
      refine o_p (p_load_agg (i := 11) (vs := [Vi ((Wh.add wj (⟨(andI (keys.getD i default) 15), ((now + (andI (at_.getD i default) 31)) + (1 + (andI life 63)))⟩ : DTimer)).now), .slice a49 ((Wh.add wj (⟨(andI (keys.getD i default) 15), ((now + (andI (at_.getD i default) 31)) + (1 + (andI life 63)))⟩ : DTimer)).slots).length c50.n]) rfl rfl sh50 rfl rfl) ?_
      refine o_call0 (v := .tuple #[Vi (Wh.next (Wh.add wj (⟨(andI (keys.getD i default) 15), ((now + (andI (at_.getD i default) 31)) + (1 + (andI life 63)))⟩ : DTimer))), Vi (Wh.nextErr (Wh.add wj (⟨(andI (keys.getD i default) 15), ((now + (andI (at_.getD i default) 31)) + (1 + (andI life 63)))⟩ : DTimer)))]) rfl (wnext_ok (Wh.add wj (⟨(andI (keys.getD i default) 15), ((now + (andI (at_.getD i default) 31)) + (1 + (andI life 63)))⟩ : DTimer)) a49 c50) hf33 (fun w hw => (rd_ownN (i := 3) rfl) w hw) rfl ?_
      refine o_mv rfl rfl ?_
      refine o_ex rfl rfl rfl ?_
      refine o_ex rfl rfl rfl ?_
      refine o_as rfl rfl ?_
      refine o_as rfl rfl ?_
      refine o_nil (q_then (c_seq (c_region ?_)))
      refine o_p (p_load_agg (i := 10) (vs := [Vi ((Exp.put ((Exp.sweep ll (now + (andI (at_.getD i default) 31))).1) (andI (keys.getD i default) 15) (i : Int) (now + (andI (at_.getD i default) 31))).life), .slice a55 ((Exp.put ((Exp.sweep ll (now + (andI (at_.getD i default) 31))).1) (andI (keys.getD i default) 15) (i : Int) (now + (andI (at_.getD i default) 31))).entries).length c56]) rfl rfl sh86 rfl rfl) ?_
      refine o_call0 (v := .tuple #[Vi (Exp.next (Exp.put ((Exp.sweep ll (now + (andI (at_.getD i default) 31))).1) (andI (keys.getD i default) 15) (i : Int) (now + (andI (at_.getD i default) 31)))), Vi (Exp.nextErr (Exp.put ((Exp.sweep ll (now + (andI (at_.getD i default) 31))).1) (andI (keys.getD i default) 15) (i : Int) (now + (andI (at_.getD i default) 31))))]) rfl (enext_ok (Exp.put ((Exp.sweep ll (now + (andI (at_.getD i default) 31))).1) (andI (keys.getD i default) 15) (i : Int) (now + (andI (at_.getD i default) 31))) a55 c56) hf50 (fun w hw => (rd_own (i := 1) rfl) w hw) rfl ?_
      refine o_mv rfl rfl ?_
      refine o_ex rfl rfl rfl ?_
      refine o_ex rfl rfl rfl ?_
      refine o_as rfl rfl ?_
      refine o_as rfl rfl ?_
      refine o_nil (q_then (c_seq (c_region ?_)))
      refine o_mv rfl rfl ?_
      refine o_mv rfl rfl ?_
      refine o_p (p_ne rfl rfl) ?_
      refine o_mv rfl rfl ?_
      refine o_or (p := 174) 4 ((Wh.next (Wh.add wj (⟨(andI (keys.getD i default) 15), ((now + (andI (at_.getD i default) 31)) + (1 + (andI life 63)))⟩ : DTimer))) != (Exp.next (Exp.put ((Exp.sweep ll (now + (andI (at_.getD i default) 31))).1) (andI (keys.getD i default) 15) (i : Int) (now + (andI (at_.getD i default) 31))))) ?_ ?_ ?_
      ·intro hb62 hk
       simp only [bne_eq_false_iff_eq] at hb62
       refine o_unguard 170 rfl rfl ?_
       refine o_mv rfl rfl ?_
       refine o_unguard 170 rfl rfl ?_
       refine o_mv rfl rfl ?_
       refine o_unguard 170 rfl rfl ?_
       refine o_p (p_ne rfl rfl) ?_
       refine o_pf rfl rfl rfl ?_
       exact o_sub (sr (Sub.skip rfl (Sub.skip rfl (Sub.skip rfl (Sub.skip rfl (Sub.skip rfl (Sub.refl _))))))) hk
      ·intro hb62 hk
       refine o_guard_no rfl 170 rfl rfl rfl rfl rfl ?_
       refine o_guard_no rfl 170 rfl rfl rfl rfl rfl ?_
       refine o_guard_no rfl 170 rfl rfl rfl rfl rfl ?_
       refine o_pt rfl rfl rfl ?_
       exact o_sub (sr (Sub.skip rfl (Sub.skip rfl (Sub.skip rfl (Sub.skip rfl (Sub.skip rfl (Sub.refl _))))))) hk
      refine o_nil (q_then ?_)
      refine c_cond rfl (fun hc63 => ?_) (fun hc63 => ?_)
      ·simp only [Bool.or_eq_true, bne_iff_ne, ne_eq] at hc63
       exfalso; rw [hjw] at hc63; rcases hc63 with h9 | h9; exact h9 hnx.1; exact h9 hnx.2
      ·simp only [Bool.or_eq_false_iff, bne_eq_false_iff_eq] at hc63
       refine c_skip ?_
       refine q_block_normal (q_then ?_)
       refine c_region ?_
       refine o_mv rfl rfl ?_
       refine o_p (p_addb rfl rfl (by omega)) ?_
       refine o_as rfl rfl ?_
       refine o_nil ?_
       refine q_round hK10 ((now + (andI (at_.getD i default) 31)), i + 1, (Wh.add wj (⟨(andI (keys.getD i default) 15), ((now + (andI (at_.getD i default) 31)) + (1 + (andI life 63)))⟩ : DTimer)), a49, c50, S47, (Exp.put ((Exp.sweep ll (now + (andI (at_.getD i default) 31))).1) (andI (keys.getD i default) 15) (i : Int) (now + (andI (at_.getD i default) 31))), a55, c56, S53) ?_ ?_ ?_ ?_
       ·clear hK10
        exact ⟨by rw [hjw]; exact hT3, by omega, by omega⟩
       ·(try dsimp only); omega
       ·exact sr (sr (sr (sr (sr (sr (sr (sr (Sub.nil _))))))))
       ·exact pk [1, 10, 11, 3, 13]
  ·simp only [Bool.and_eq_false_iff, decide_eq_false_iff_not, Int.not_lt] at hc13
   have hT := hI.1
   have hnb := hI.2
   have hn9 := hT.now0
   refine c_exit ?_
   refine q_then_exit (q_then_exit (q_block_exit (q_then ?_)))
   refine c_seq (c_region ?_)
   refine o_mv rfl rfl ?_
   refine o_mv rfl rfl ?_
   refine o_p (p_andI (p := to) (q := 1023) rfl rfl) ?_
   refine o_p (p_addb rfl rfl (by omega)) ?_
   refine o_as rfl rfl ?_
   refine o_nil (q_then (c_seq (c_region ?_)))
   refine o_p (p_load_agg (i := 2) (vs := [Vi ww.now, .slice aww_0 ww.slots.length cww_0.n]) rfl rfl sh50 rfl rfl) ?_
   refine o_mv rfl rfl ?_
   refine o_callX (pre := []) (R := [own tEntry Sll_0 all_0 cll_0 ll.entries, box B8 [Vi ll.life, .slice all_0 ll.entries.length cll_0] 86, box B6 [Vi ww.now, .slice aww_0 ww.slots.length cww_0.n] 50, ownN tTimer Sww_0 aww_0 cww_0 ww.slots, base w0]) rfl (wadvance_ok ww aww_0 cww_0 (now + (andI to 1023))) hf32 rfl (fun w hw => (rdXN (i := 3) (js := []) rfl (by decide) rfl (fun _ hA => SlON.toR hA)) w hw) rfl ?_
   rintro ⟨a64, c65, S66, a67, c68, S69⟩
   refine o_asH (H' := [ownN tTimer S66 a64 c65 ((Wh.adv ww (now + (andI to 1023))).slots), own tTimer S69 a67 c68 (Wh.gone ww (now + (andI to 1023))), own tEntry Sll_0 all_0 cll_0 ll.entries, box B8 [Vi ll.life, .slice all_0 ll.entries.length cll_0] 86, box B6 [Vi ww.now, .slice aww_0 ww.slots.length cww_0.n] 50, ownN tTimer Sww_0 aww_0 cww_0 ww.slots, base w0]) rfl ?_
   refine o_mv rfl rfl ?_
   refine o_ex rfl rfl rfl ?_
   refine o_ex rfl rfl rfl ?_
   refine o_ex rfl rfl rfl ?_
   refine o_alloc ze50 rfl (fun B72 => ?_)
   refine o_storeN (i := 0) (vs := [Vi ((Wh.adv ww (now + (andI to 1023))).now), .slice a64 ((Wh.adv ww (now + (andI to 1023))).slots).length c65.n]) (cs' := [Vi ((Wh.adv ww (now + (andI to 1023))).now), .slice a64 ((Wh.adv ww (now + (andI to 1023))).slots).length c65.n]) rfl rfl rfl sz50 rfl rfl rfl rfl ?_
   refine o_as rfl rfl ?_
   refine o_as rfl rfl ?_
   refine o_nil (q_then (c_seq (c_region ?_)))
   refine o_p (p_load_agg (i := 4) (vs := [Vi ll.life, .slice all_0 ll.entries.length cll_0]) rfl rfl sh86 rfl rfl) ?_
   refine o_mv rfl rfl ?_
   refine o_callM rfl (esweep_ok ll all_0 cll_0 (now + (andI to 1023))) hf47 (fun w hw => (rd_own (i := 3) rfl) w hw) rfl (fun _ _ _ _ ha hA => ⟨SlR.agree ha hA.1, SlR.agree ha hA.2⟩) ?_
   rintro ⟨a75, c76, a77, c78⟩ S73
   refine o_know (fun w hw => (hw.at (i := 0) rfl).here.1.2.1) (fun hlr79 => ?_)
   refine o_know (fun w hw => (hw.at (i := 0) rfl).here.2.2.1) (fun hlr80 => ?_)
   refine o_mv rfl rfl ?_
   refine o_ex rfl rfl rfl ?_
   refine o_ex rfl rfl rfl ?_
   refine o_ex rfl rfl rfl ?_
   refine o_alloc ze86 rfl (fun B81 => ?_)
   refine o_storeN (i := 0) (vs := [Vi (((Exp.sweep ll (now + (andI to 1023))).1).life), .slice a75 (((Exp.sweep ll (now + (andI to 1023))).1).entries).length c76]) (cs' := [Vi (((Exp.sweep ll (now + (andI to 1023))).1).life), .slice a75 (((Exp.sweep ll (now + (andI to 1023))).1).entries).length c76]) rfl rfl rfl sz86 rfl rfl rfl rfl ?_
   refine o_as rfl rfl ?_
   refine o_as rfl rfl ?_
   refine o_nil (q_then (c_seq (c_region ?_)))
   refine o_mv rfl rfl ?_
   refine o_p (p_eq rfl rfl) ?_
   refine o_mv rfl rfl ?_
   refine o_and (p := 198) 3 ((Exp.nowErr ll (now + (andI to 1023))) == 0) ?_ ?_ ?_
   ·intro hb82 hk
    simp only [beq_iff_eq] at hb82
    refine o_unguard 195 rfl rfl ?_
    refine o_mv rfl rfl ?_
    refine o_unguard 195 rfl rfl ?_
    refine o_p (p_eq rfl rfl) ?_
    refine o_pt rfl rfl rfl ?_
    exact o_sub (sr (Sub.skip rfl (Sub.skip rfl (Sub.skip rfl (Sub.skip rfl (Sub.refl _)))))) hk
   ·intro hb82 hk
    refine o_guard_no rfl 195 rfl rfl rfl rfl rfl ?_
    refine o_guard_no rfl 195 rfl rfl rfl rfl rfl ?_
    refine o_pf rfl rfl rfl ?_
    exact o_sub (sr (Sub.skip rfl (Sub.skip rfl (Sub.skip rfl (Sub.skip rfl (Sub.refl _)))))) hk
   refine o_mv rfl rfl ?_
   refine o_and (p := 205) 6 (((Wh.gone ww (now + (andI to 1023))).length : Int) == (((Exp.sweep ll (now + (andI to 1023))).2).length : Int)) ?_ ?_ ?_
   ·intro hb83 hk
    simp only [Bool.and_eq_true, beq_iff_eq] at hb83
    refine o_unguard 199 rfl rfl ?_
    refine o_mv rfl rfl ?_
    refine o_unguard 199 rfl rfl ?_
    refine o_p (p_len_slice rfl rfl Try.underlying57) ?_
    refine o_unguard 199 rfl rfl ?_
    refine o_mv rfl rfl ?_
    refine o_unguard 199 rfl rfl ?_
    refine o_p (p_len_slice rfl rfl Try.underlying37) ?_
    refine o_unguard 199 rfl rfl ?_
    refine o_p (p_eq rfl rfl) ?_
    refine o_pt rfl rfl rfl ?_
    exact o_sub (sr (Sub.skip rfl (Sub.skip rfl (Sub.skip rfl (Sub.skip rfl (Sub.skip rfl (Sub.skip rfl (Sub.skip rfl (Sub.refl _))))))))) hk
   ·intro hb83 hk
    refine o_guard_no rfl 199 rfl rfl rfl rfl rfl ?_
    refine o_guard_no rfl 199 rfl rfl rfl rfl rfl ?_
    refine o_guard_no rfl 199 rfl rfl rfl rfl rfl ?_
    refine o_guard_no rfl 199 rfl rfl rfl rfl rfl ?_
    refine o_guard_no rfl 199 rfl rfl rfl rfl rfl ?_
    refine o_pf rfl rfl rfl ?_
    exact o_sub (sr (Sub.skip rfl (Sub.skip rfl (Sub.skip rfl (Sub.skip rfl (Sub.skip rfl (Sub.skip rfl (Sub.skip rfl (Sub.refl _))))))))) hk
   refine o_as rfl rfl ?_
   refine o_nil (q_then (c_ret ?_))
   have hr0 : (((((Wh.advErr ww (now + (andI to 1023))) == 0) && ((Exp.nowErr ll (now + (andI to 1023))) == 0)) && (((Wh.gone ww (now + (andI to 1023))).length : Int) == (((Exp.sweep ll (now + (andI to 1023))).2).length : Int))) : Bool) = true := by
    first | rfl | (have q1 := hT.adv (to := now + (andI to 1023)) (by omega) (by omega); have q2 := hT.swp (to := now + (andI to 1023)) (by omega) (by omega); have q3 := hT.len (to := now + (andI to 1023)) (by omega) (by omega); simp [q1, q2, q3]; done)
   refine q_end0 (v := .bool ((((Wh.advErr ww (now + (andI to 1023))) == 0) && ((Exp.nowErr ll (now + (andI to 1023))) == 0)) && (((Wh.gone ww (now + (andI to 1023))).length : Int) == (((Exp.sweep ll (now + (andI to 1023))).2).length : Int)))) (rt1 rfl (r_tmp rfl)) (i := 9) rfl ?_
   exact (by have hcc := congrArg (fun (y0 : Bool) => (.bool y0 : Value)) hr0; exact hcc)
end Go.Proofs.Ytnmbkopnopaigaa

/- How the arguments read. -/
namespace Go.Proofs.Ytnmbkopnopaigaa
open Go.ChangeShapes Go.WideShapes Go.ChangeAt Go.RowKit Go.Sx

end Go.Proofs.Ytnmbkopnopaigaa
