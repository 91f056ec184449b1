/- Two-level caches: the plain functions, and what a touch does. -/
import Derived.Test.YtkndekkacimekaaLrLaw2
import Derived.Test.YtkndekkacimekaaSx22
namespace Go.Sx
structure DTiers where
  near : Int
  far : Int
  first : List Int
  rest : List Int
deriving DecidableEq
namespace Tier
open Lru (okKey trace)
def okRoom (n : Int) : Bool := decide (1 ≤ n) && decide (n ≤ 20)
def check (t : DTiers) : Int :=
  if okRoom t.near = false ∨ okRoom t.far = false then 3 else if t.near < (t.first.length : Int) ∨ t.far < (t.rest.length : Int) then 2
  else if Lru.keys (t.first ++ t.rest) ≠ 0 then Lru.keys (t.first ++ t.rest) else if 0 < (t.rest.length : Int) ∧ (t.first.length : Int) < t.near then 4 else 0
structure Ok (t : DTiers) : Prop where
  near : 1 ≤ t.near ∧ t.near ≤ 20
  far : 1 ≤ t.far ∧ t.far ≤ 20
  len1 : (t.first.length : Int) ≤ t.near
  len2 : (t.rest.length : Int) ≤ t.far
  key : ∀ k ∈ t.first ++ t.rest, okKey k = true
  once : (t.first ++ t.rest).Nodup
  full : 0 < t.rest.length → (t.first.length : Int) = t.near
theorem check_ok {t : DTiers} : check t = 0 ↔ Ok t := by
  unfold check
  constructor
  · intro e
    split at e
    · cases e
    · split at e
      · cases e
      · split at e
        · contradiction
        · split at e
          · cases e
          · rename_i h1 h2 h3 h4
            have h5 := Lru.keys_ok.1 (Decidable.not_not.1 h3)
            simp [okRoom] at h1
            exact ⟨by omega, by omega, by omega, by omega, h5.1, h5.2, fun h => by omega⟩
  · rintro ⟨a, b, c, d, e, f, g⟩
    rw [if_neg (by simp [okRoom]; omega), if_neg (by omega), if_neg (fun h => h (Lru.keys_ok.2 ⟨e, f⟩)), if_neg (fun h => by have := g (by omega); omega)]
theorem ok_of {t : DTiers} (e : check t = 0) : Ok t := check_ok.1 e
def push (l : List Int) (key room : Int) : List Int := (key :: l).take room.toNat
def over (l : List Int) (key room : Int) : Int := (key :: l).getD room.toNat (-1)
def down (t : DTiers) (key : Int) : Int := over (t.first.erase key) key t.near
def near_ (t : DTiers) (key : Int) : List Int := push (t.first.erase key) key t.near
def rest_ (t : DTiers) (key : Int) : List Int := if 0 ≤ down t key then push (t.rest.erase key) (down t key) t.far else t.rest.erase key
def gone (t : DTiers) (key : Int) : Int := if 0 ≤ down t key then over (t.rest.erase key) (down t key) t.far else -1
def place (t : DTiers) (key : Int) : Int := if key ∈ t.first then 1 else if key ∈ t.rest then 2 else 0
def touch (t : DTiers) (key : Int) : DTiers × Int × Int := (⟨t.near, t.far, near_ t key, rest_ t key⟩, place t key, gone t key)
def zero : DTiers := ⟨0, 0, [], []⟩
def accessErr (c : DTiers) (key : Int) : Int := if check c = 0 then (if okKey key then 0 else 3) else check c
def access (c : DTiers) (key : Int) : DTiers × Int × Int := if accessErr c key = 0 then touch c key else (zero, 0, 0)
def runGo (c : DTiers) (n m : Int) : List Int → DTiers × Int × Int
  | [] => (c, n, m)
  | k :: l => runGo (touch c k).1 (if place c k = 1 then n + 1 else n) (if place c k = 2 then m + 1 else m) l
def runErr (c : DTiers) (l : List Int) : Int := if check c = 0 then trace l else check c
def run (c : DTiers) (l : List Int) : DTiers × Int × Int := if runErr c l = 0 then runGo c 0 0 l else (zero, 0, 0)
def whole (t : DTiers) : DCache := ⟨t.near + t.far, t.first ++ t.rest⟩
def merged (t : DTiers) : DCache := if check t = 0 then whole t else ⟨0, []⟩
theorem place_is (t : DTiers) (key : Int) : place t key = 0 ∨ place t key = 1 ∨ place t key = 2 := by unfold place; split; simp; split <;> simp
/-- all keys, the one that is touched first -/
def list (t : DTiers) (key : Int) : List Int := key :: (t.first.erase key ++ t.rest.erase key)
theorem Ok.parts {t : DTiers} (h : Ok t) : t.first.Nodup ∧ t.rest.Nodup ∧ ∀ x ∈ t.first, x ∉ t.rest := by
  have h1 := List.nodup_append.1 h.once
  exact ⟨h1.1, h1.2.1, fun x hx hy => h1.2.2 x hx x hy rfl⟩
theorem key_ge {k : Int} (h : okKey k = true) : 0 ≤ k := (Lru.key_ok h).1
/-- what a touch does, as one list that is cut -/
structure Cut (t : DTiers) (key : Int) : Prop where
  first : near_ t key = (list t key).take t.near.toNat
  rest : rest_ t key = ((list t key).drop t.near.toNat).take t.far.toNat
  gone : gone t key = (list t key).getD (t.near + t.far).toNat (-1)
theorem over_none {l : List Int} {key room : Int} (h : (l.length : Int) + 1 ≤ room) : over l key room = -1 := by
  unfold over; rw [List.getD_eq_getElem?_getD, List.getElem?_eq_none (by simp only [List.length_cons]; omega)]; rfl
theorem over_some {l : List Int} {key room : Int} (h : 0 ≤ room) (h2 : room ≤ (l.length : Int)) (hk : okKey key = true) (hl : ∀ x ∈ l, okKey x = true) : 0 ≤ over l key room ∧ over l key room ∈ key :: l := by
  unfold over; rw [List.getD_eq_getElem?_getD, List.getElem?_eq_getElem (by simp only [List.length_cons]; omega)]
  refine ⟨?_, List.getElem_mem _⟩
  simp only [Option.getD_some]
  rcases List.mem_cons.1 (List.getElem_mem (l := key :: l) (n := room.toNat) (by simp only [List.length_cons]; omega)) with e | e
  · rw [e]; exact key_ge hk
  · exact key_ge (hl _ e)
theorem cut_of {t : DTiers} (h : Ok t) {key : Int} (hk : okKey key = true) : Cut t key := by
  have hp := h.parts
  have h1 := List.length_erase_le (a := key) (l := t.first)
  have h2 := List.length_erase_le (a := key) (l := t.rest)
  have hn := h.near; have hf := h.far; have hl1 := h.len1; have hl2 := h.len2
  have e0 : list t key = (key :: t.first.erase key) ++ t.rest.erase key := rfl
  by_cases hd : ((t.first.erase key).length : Int) + 1 ≤ t.near
  · have hdn : down t key = -1 := over_none hd
    have hr : rest_ t key = t.rest.erase key := by unfold rest_; rw [hdn, if_neg (by decide)]
    have hg : gone t key = -1 := by unfold Tier.gone; rw [hdn, if_neg (by decide)]
    -- nothing behind unless the first list is full
    have hfull : t.rest.erase key = [] ∨ ((t.first.erase key).length : Int) + 1 = t.near := by
      rcases Nat.eq_zero_or_pos (t.rest.erase key).length with h0 | h0
      · exact .inl (List.length_eq_zero_iff.1 h0)
      · have h3 := h.full (by omega)
        by_cases hm : key ∈ t.first
        · have := List.length_erase_of_mem hm
          have := List.length_pos_of_mem hm
          exact .inr (by omega)
        · rw [List.erase_of_not_mem hm] at hd ⊢; exact .inr (by omega)
    refine ⟨?_, ?_, ?_⟩
    · rw [e0]; unfold near_ push
      rcases hfull with e | e
      · rw [e, List.append_nil]
      · rw [List.take_append_of_le_length (by simp only [List.length_cons]; omega)]
    · rw [e0, hr]
      rcases hfull with e | e
      · rw [e, List.append_nil, List.drop_of_length_le (by simp only [List.length_cons]; omega)]; simp
      · rw [show t.near.toNat = (key :: t.first.erase key).length by simp only [List.length_cons]; omega, List.drop_left, List.take_of_length_le (by omega)]
    · rw [hg, e0, List.getD_eq_getElem?_getD, List.getElem?_eq_none (by simp only [List.length_append, List.length_cons]; omega)]; rfl
  · have hl : ((t.first.erase key).length : Int) = t.near := by omega
    have hds := over_some (l := t.first.erase key) (key := key) (room := t.near) (by omega) (by omega) hk (fun x hx => h.key x (List.mem_append_left _ (List.mem_of_mem_erase hx)))
    have hdn : 0 ≤ down t key := hds.1
    have hr : rest_ t key = push (t.rest.erase key) (down t key) t.far := if_pos hdn
    have hg : gone t key = over (t.rest.erase key) (down t key) t.far := if_pos hdn
    have e1 : key :: t.first.erase key = (key :: t.first.erase key).take t.near.toNat ++ [down t key] := by
      have h4 : t.near.toNat < (key :: t.first.erase key).length := by simp only [List.length_cons]; omega
      have h5 := List.take_append_drop t.near.toNat (key :: t.first.erase key)
      rw [List.drop_eq_getElem_cons h4, List.drop_of_length_le (by simp only [List.length_cons]; omega)] at h5
      have h6 : down t key = (key :: t.first.erase key)[t.near.toNat] := by unfold down over; rw [List.getD_eq_getElem?_getD, List.getElem?_eq_getElem h4]; rfl
      rw [h6]; exact h5.symm
    have e2 : list t key = (key :: t.first.erase key).take t.near.toNat ++ (down t key :: t.rest.erase key) := by
      rw [e0]
      conv => lhs; rw [e1]
      simp
    have h7 : ((key :: t.first.erase key).take t.near.toNat).length = t.near.toNat := by simp only [List.length_take, List.length_cons]; omega
    refine ⟨?_, ?_, ?_⟩
    · rw [e2]; unfold near_ push
      rw [List.take_append_of_le_length (by omega), List.take_of_length_le (l := (key :: t.first.erase key).take t.near.toNat) (by omega)]
    · rw [hr, e2, List.drop_left' h7]; rfl
    · rw [hg, e2]; unfold over
      rw [List.getD_eq_getElem?_getD, List.getD_eq_getElem?_getD, List.getElem?_append_right (by omega), h7]
      congr 2; omega
theorem list_len {t : DTiers} (h : Ok t) (key : Int) : (list t key).length ≤ (t.first ++ t.rest).length + 1 ∧ (key ∈ t.first ++ t.rest → (list t key).length = (t.first ++ t.rest).length) := by
  have h1 := List.length_erase_le (a := key) (l := t.first)
  have h2 := List.length_erase_le (a := key) (l := t.rest)
  simp only [list, List.length_cons, List.length_append]
  refine ⟨by omega, fun hm => ?_⟩
  have hp := h.parts
  rcases List.mem_append.1 hm with hm | hm
  · have := List.length_erase_of_mem hm; have := List.length_pos_of_mem hm
    rw [List.erase_of_not_mem (hp.2.2 key hm)]; omega
  · have := List.length_erase_of_mem hm; have := List.length_pos_of_mem hm
    rw [List.erase_of_not_mem (fun h => hp.2.2 key h hm)]; omega
theorem list_erase {t : DTiers} (h : Ok t) (key : Int) : list t key = key :: (t.first ++ t.rest).erase key := by
  have hp := h.parts
  unfold list
  by_cases hm : key ∈ t.first
  · rw [List.erase_append_left _ hm, List.erase_of_not_mem (hp.2.2 key hm)]
  · rw [List.erase_append_right _ hm, List.erase_of_not_mem hm]
theorem take_join {t : DTiers} (h : Ok t) {key : Int} (hk : okKey key = true) : near_ t key ++ rest_ t key = (list t key).take (t.near + t.far).toNat := by
  have hc := cut_of h hk
  have hn := h.near; have hf := h.far
  rw [hc.first, hc.rest, show (t.near + t.far).toNat = t.near.toNat + t.far.toNat by omega, List.take_add]
/-- both levels are one cache -/
theorem whole_touch {t : DTiers} (h : Ok t) {key : Int} (hk : okKey key = true) : whole (touch t key).1 = (Lru.touch (whole t) key).1 := by
  show (⟨t.near + t.far, near_ t key ++ rest_ t key⟩ : DCache) = ⟨t.near + t.far, Lru.front (t.near + t.far).toNat (t.first ++ t.rest) key⟩
  rw [take_join h hk, list_erase h]; rfl
theorem whole_hit {t : DTiers} (key : Int) : (Lru.touch (whole t) key).2.1 = decide (place t key = 1 ∨ place t key = 2) := by
  show decide (key ∈ t.first ++ t.rest) = _
  refine decide_eq_decide.2 ?_
  rw [List.mem_append]; unfold place
  split
  · simp [*]
  · split <;> simp [*]
theorem near_touch (t : DTiers) (key : Int) : near_ t key = Lru.front t.near.toNat t.first key := rfl
theorem near_hit (t : DTiers) (key : Int) : decide (key ∈ t.first) = decide (place t key = 1) := by
  refine decide_eq_decide.2 ?_
  unfold place; split
  · simp [*]
  · split <;> simp [*]
theorem Ok.whole {t : DTiers} (h : Ok t) : Lru.Ok (whole t) := ⟨by have := h.near; have := h.far; show 1 ≤ t.near + t.far ∧ t.near + t.far ≤ 40; omega, by show ((t.first ++ t.rest).length : Int) ≤ t.near + t.far; have := h.len1; have := h.len2; rw [List.length_append]; omega, h.key, h.once⟩
theorem Ok.nearer {t : DTiers} (h : Ok t) : Lru.Ok ⟨t.near, t.first⟩ := ⟨by have := h.near; show 1 ≤ t.near ∧ t.near ≤ 40; omega, h.len1, fun k hk => h.key k (List.mem_append_left _ hk), h.parts.1⟩
theorem Ok.touch {t : DTiers} (h : Ok t) {key : Int} (hk : okKey key = true) : Ok (touch t key).1 := by
  have hc := cut_of h hk
  have hw := (Lru.Ok.touch h.whole hk)
  rw [← whole_touch h hk] at hw
  refine ⟨h.near, h.far, ?_, ?_, hw.key, hw.once, ?_⟩
  · show ((near_ t key).length : Int) ≤ t.near
    have := h.near; rw [hc.first, List.length_take]; omega
  · show ((rest_ t key).length : Int) ≤ t.far
    have := h.far; rw [hc.rest, List.length_take]; omega
  · show 0 < (rest_ t key).length → ((near_ t key).length : Int) = t.near
    have := h.near; rw [hc.first, hc.rest]; simp only [List.length_take, List.length_drop]; omega
theorem Ok.gone {t : DTiers} (h : Ok t) {key : Int} (hk : okKey key = true) : (place t key ≠ 0 → gone t key = -1) ∧ ∀ x ∈ t.first ++ t.rest, (x ∈ near_ t key ∨ x ∈ rest_ t key ↔ x ≠ gone t key) := by
  have hc := cut_of h hk
  have hn := h.near; have hf := h.far; have hl1 := h.len1; have hl2 := h.len2
  have hll := list_len h key
  rw [List.length_append] at hll
  refine ⟨fun hp => ?_, fun x hx => ?_⟩
  · have hm : key ∈ t.first ++ t.rest := by
      rw [List.mem_append]; unfold place at hp
      split at hp
      · left; assumption
      · split at hp
        · right; assumption
        · exact absurd rfl hp
    rw [hc.gone, List.getD_eq_getElem?_getD, List.getElem?_eq_none (by have := hll.2 hm; omega)]; rfl
  · have hxl : x ∈ list t key := by
      rw [list_erase h]
      by_cases e : x = key
      · rw [e]; simp
      · exact List.mem_cons_of_mem _ ((List.mem_erase_of_ne e).2 hx)
    have hnd : (list t key).Nodup := by
      rw [list_erase h]; exact List.nodup_cons.2 ⟨fun hm => absurd rfl (h.once.mem_erase_iff.1 hm).1, h.once.erase _⟩
    have hx0 : 0 ≤ x := key_ge (h.key x hx)
    rw [← List.mem_append, take_join h hk]
    by_cases hlen : (list t key).length ≤ (t.near + t.far).toNat
    · rw [List.take_of_length_le hlen, hc.gone, List.getD_eq_getElem?_getD, List.getElem?_eq_none (by omega)]
      simp only [hxl, true_iff, Option.getD_none]; omega
    · have hlt : (t.near + t.far).toNat < (list t key).length := by omega
      rw [hc.gone, List.getD_eq_getElem?_getD, List.getElem?_eq_getElem hlt, Option.getD_some]
      have e1 : list t key = (list t key).take (t.near + t.far).toNat ++ [(list t key)[(t.near + t.far).toNat]] := by
        conv => lhs; rw [← List.take_append_drop (t.near + t.far).toNat (list t key), List.drop_eq_getElem_cons hlt, List.drop_of_length_le (by omega)]
      have h2 := hnd; rw [e1, List.nodup_append] at h2
      constructor
      · exact fun hm e => h2.2.2 x hm _ (by simp) e
      · intro hne
        rw [e1] at hxl
        rcases List.mem_append.1 hxl with h3 | h3
        · exact h3
        · simp at h3; exact absurd h3 hne
theorem first_key (t : DTiers) (h : Ok t) (key : Int) : ∃ l, near_ t key = key :: l := by
  have := h.near
  obtain ⟨n, hn⟩ : ∃ n, t.near.toNat = n + 1 := ⟨t.near.toNat - 1, by omega⟩
  unfold near_ push; rw [hn, List.take_succ_cons]; exact ⟨_, rfl⟩
end Tier
end Go.Sx
