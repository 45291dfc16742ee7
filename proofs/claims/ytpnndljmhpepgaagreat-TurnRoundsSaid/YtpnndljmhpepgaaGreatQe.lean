/- Lemmas: the program and the reference walked, plain laws. -/
import Derived.Test.YtpnndljmhpepgaaGreatQd
namespace Go.Proofs.YtpnndljmhpepgaaGreat
open Go Go.T
variable {b : Barn} {g : Int}
theorem goR_cons {p q : Pl} {l : List Tur} {rs : List (List Tur)} (h : goR b g p (l :: rs) = some q) : l ∈ allR b p g ∧ goR b g (movedAll p l) rs = some q := by
  have h : (if l ∈ allR b p g then goR b g (movedAll p l) rs else none) = some q := h
  by_cases hu : l ∈ allR b p g
  · rw [if_pos hu] at h; exact ⟨hu, h⟩
  · rw [if_neg hu] at h; cases h
theorem goR_cons' {p : Pl} {l : List Tur} {rs : List (List Tur)} (h : l ∈ allR b p g) : goR b g p (l :: rs) = goR b g (movedAll p l) rs := if_pos h
theorem goR_flat (h6 : b.lots.length ≤ 6) (hg : 0 ≤ g) : ∀ (rs : List (List Tur)) {p q : Pl}, goR b g p rs = some q → goP b p rs.flatten = some q
  | [], p, q, h => h
  | l :: rs, p, q, h => by
    obtain ⟨h1, h2⟩ := goR_cons h
    rw [List.flatten_cons, goP_append, round_go h6 l ((mem_allR hg).1 h1)]
    exact goR_flat h6 hg rs h2
theorem one_round {p : Pl} {t : Tur} (hg : 1 ≤ g) (h : t ∈ turnsL b p) : [t] ∈ allR b p g := by
  rw [mem_allR (by omega)]
  have := mem_turnsL.1 h
  refine ⟨by simpa using hg, fun u hu => ?_, List.pairwise_singleton _ _⟩
  rw [List.mem_singleton.1 hu]
  exact ⟨⟨this.1, this.2.1⟩, ⟨this.2.2.1, this.2.2.2.1⟩, this.2.2.2.2.1, this.2.2.2.2.2⟩
theorem goR_singles (hg : 1 ≤ g) : ∀ (l : List Tur) {p q : Pl}, goP b p l = some q → goR b g p (l.map fun t => [t]) = some q
  | [], p, q, h => h
  | t :: l, p, q, h => by
    obtain ⟨h1, h2⟩ := goP_cons h
    rw [List.map_cons, goR_cons' (one_round hg h1)]
    exact goR_singles hg l h2
theorem goR_more {g' : Int} (hg : 0 ≤ g) (hgg : g ≤ g') : ∀ (rs : List (List Tur)) {p q : Pl}, goR b g p rs = some q → goR b g' p rs = some q
  | [], p, q, h => h
  | l :: rs, p, q, h => by
    obtain ⟨h1, h2⟩ := goR_cons h
    have h3 := (mem_allR hg).1 h1
    rw [goR_cons' ((mem_allR (by omega)).2 ⟨by have := h3.len; omega, h3.ok, h3.apart⟩)]
    exact goR_more hg hgg rs h2
theorem goR_rows (hg : 0 ≤ g) : ∀ (rs : List (List Tur)) {p q : Pl}, goR b g p rs = some q → ∀ l ∈ rs, (l.length : Int) ≤ g
  | [], p, q, _, l, hl => by cases hl
  | r :: rs, p, q, h, l, hl => by
    obtain ⟨h1, h2⟩ := goR_cons h
    rcases List.mem_cons.1 hl with rfl | hl
    · exact ((mem_allR hg).1 h1).len
    · exact goR_rows hg rs h2 l hl
theorem flat_le (hg : 0 ≤ g) : ∀ (rs : List (List Tur)), (∀ l ∈ rs, (l.length : Int) ≤ g) → (rs.flatten.length : Int) ≤ rs.length * g
  | [], _ => by simp
  | l :: rs, h => by
    have h1 := h l List.mem_cons_self
    have h2 := flat_le hg rs fun r hr => h r (List.mem_cons_of_mem _ hr)
    rw [List.flatten_cons, List.length_append, List.length_cons]
    have e : (((rs.length + 1 : Nat) : Int)) * g = rs.length * g + g := by rw [Int.natCast_add, Int.add_mul]; simp
    rw [e]; omega
structure Rnds (b : Barn) (g e : Int) (rs : List (List Tur)) : Prop where
  err : e = 0 ∨ e = 7
  yes : e = 0 → ∃ q, goR b g (firstP b) rs = some q ∧ madeP b q = true ∧ ∀ rs' q', goR b g (firstP b) rs' = some q' → madeP b q' = true → rs.length ≤ rs'.length
  no : e = 7 → rs = [] ∧ ∀ rs' q, goR b g (firstP b) rs' = some q → madeP b q = false
theorem rnds (hr : b.Right) (hg : 1 ≤ g ∧ g ≤ 3) : Rnds b g (roundsE b g) (roundsV b g) := by
  have h0 := right_check hr
  obtain ⟨hs, _⟩ := rounds_spec hr (show 0 ≤ g by omega)
  have ha : askE b g = 0 := by unfold askE; rw [if_pos h0, if_pos (inB_true.2 hg)]
  unfold roundsE roundsV
  rw [if_pos ha, if_pos ha]
  cases hi : (roundsM b g).is with
  | true =>
    rw [if_pos rfl, if_pos rfl]
    refine ⟨.inl rfl, fun _ => ?_, fun e => by cases e⟩
    obtain ⟨L, h1, h2, h3, _, h4⟩ := hs.yes hi
    rw [chainM_spec h1]
    exact ⟨_, h2, h3, h4⟩
  | false =>
    rw [if_neg (by decide), if_neg (by decide)]
    exact ⟨.inr rfl, (fun e => by cases e), fun _ => ⟨rfl, hs.no hi⟩⟩
section
variable {e e' n : Int} {l : List Tur} {rs rs' : List (List Tur)}
theorem Rnds.same (h : Rnds b g e' rs) (h6 : b.lots.length ≤ 6) (hg : 1 ≤ g) (hc : Cheap b oneC e l n) : e' = e := by
  rcases h.err with rfl | rfl
  · rcases hc.err with rfl | rfl
    · rfl
    · obtain ⟨q, h1, h2, _⟩ := h.yes rfl
      have := (hc.no rfl).2.2 rs.flatten
      rw [(right_iff h6).2 ⟨q, goR_flat h6 (by omega) rs h1, h2⟩] at this; cases this
  · rcases hc.err with rfl | rfl
    · obtain ⟨q, h1, h2⟩ := (right_iff h6).1 (hc.yes rfl).1
      have := (h.no rfl).2 _ q (goR_singles hg l h1)
      rw [h2] at this; cases this
    · rfl
theorem Rnds.right (h : Rnds b g 0 rs) (h6 : b.lots.length ≤ 6) (hg : 1 ≤ g) : rightV b rs.flatten = true := by
  obtain ⟨q, h1, h2, _⟩ := h.yes rfl
  exact (right_iff h6).2 ⟨q, goR_flat h6 (by omega) rs h1, h2⟩
theorem Rnds.few (h : Rnds b g 0 rs) (h6 : b.lots.length ≤ 6) (hg : 1 ≤ g) (hc : Cheap b oneC 0 l n) : n ≤ rs.length * g ∧ (rs.length : Int) ≤ n := by
  obtain ⟨q, h1, h2, h3⟩ := h.yes rfl
  obtain ⟨c1, c2, c3⟩ := hc.yes rfl
  rw [cost_one] at c2
  constructor
  · have h4 := c3 _ (h.right h6 hg)
    rw [cost_one] at h4
    have := flat_le (by omega) rs (goR_rows (by omega) rs h1)
    omega
  · obtain ⟨q', g1, g2⟩ := (right_iff h6).1 c1
    have := h3 _ q' (goR_singles hg l g1) g2
    rw [List.length_map] at this; omega
theorem Rnds.less (h : Rnds b g 0 rs) (h' : Rnds b (g + 1) 0 rs') (hg : 1 ≤ g) : rs'.length ≤ rs.length := by
  obtain ⟨q, h1, h2, _⟩ := h.yes rfl
  obtain ⟨_, _, _, h3⟩ := h'.yes rfl
  exact h3 _ q (goR_more (by omega) (by omega) rs h1) h2
theorem goR_drop (hg : 0 ≤ g) : ∀ (rs1 : List (List Tur)) {rs2 : List (List Tur)} {p q : Pl}, goR b g p (rs1 ++ [] :: rs2) = some q → goR b g p (rs1 ++ rs2) = some q
  | [], rs2, p, q, h => (goR_cons h).2
  | r :: rs1, rs2, p, q, h => by
    obtain ⟨h1, h2⟩ := goR_cons h
    rw [List.cons_append, goR_cons' h1]
    exact goR_drop hg rs1 h2
theorem Rnds.rows (h : Rnds b g 0 rs) (hg : 1 ≤ g) : ∀ l ∈ rs, 0 < l.length ∧ (l.length : Int) ≤ g := fun l hl => by
  obtain ⟨q, h1, h2, h3⟩ := h.yes rfl
  refine ⟨?_, goR_rows (by omega) rs h1 l hl⟩
  cases l with
  | cons t l => exact Nat.zero_lt_succ _
  | nil =>
    obtain ⟨s, r, e⟩ := List.append_of_mem hl
    rw [e] at h1
    have := h3 _ q (goR_drop (by omega) s h1) h2
    rw [e] at this; simp at this
    omega
end
def listsM (m : Nat) : Nat → List (List Int)
  | 0 => [[]]
  | n + 1 => (List.range m).flatMap fun (k : Nat) => (listsM m n).map fun l => (k : Int) :: l
theorem go_named {b : Barn} (h6 : b.lots.length ≤ 6) : ∀ (l : List Tur) {p q : Pl}, (∀ i, i < b.lots.length → 0 ≤ nth p.1 i ∧ nth p.1 i < b.sizes.length) → goP b p l = some q → ∀ i, i < b.lots.length → 0 ≤ nth q.1 i ∧ nth q.1 i < b.sizes.length
  | [], p, q, hp, h => by injection h with h; rw [← h]; exact hp
  | t :: l, p, q, hp, h => by
    obtain ⟨h1, h2⟩ := goP_cons h
    have h3 := mem_turnsL.1 h1
    refine go_named h6 l (fun i hi => ?_) h2
    rw [moved_nth (by omega)]
    by_cases e : t.lot.toNat = i
    · rw [if_pos e]; exact ⟨h3.2.2.1, h3.2.2.2.1⟩
    · rw [if_neg e]; exact hp i hi
theorem first_named {b : Barn} (hr : b.Right) : ∀ i, i < b.lots.length → 0 ≤ nth (firstP b).1 i ∧ nth (firstP b).1 i < b.sizes.length := fun i hi => by
  rw [first_nth hr.lots hi]; exact hr.inn _ (nth_mem hi)
def ordB (l : List Tur) : Bool := (List.range (l.length - 1)).any fun i => decide ((nth l (i + 1)).lot ≤ (nth l i).lot)
def twI (b : Barn) (p : Pl) (l : List Tur) (i : Nat) : Bool := takenP b p (nth l i).aim || (l.take i).any fun u => decide (u.aim = (nth l i).aim)
def twB (b : Barn) (p : Pl) (l : List Tur) : Bool := (List.range l.length).any fun i => twI b p l i
def roundE (b : Barn) (p : Pl) (g : Int) (l : List Tur) : Int :=
  if (!l.all fun t => b.lot t.lot && b.bin t.aim) = true then 1 else if ordB l = true then 4 else if twB b p l = true then 5 else if (!l.all fun t => b.hold t.aim t.lot) = true then 9 else if (l.length : Int) > g then 2 else 0
theorem roundE_ok {p : Pl} {l : List Tur} : roundE b p g l = 0 ↔ RoundOk b p g l := by
  unfold roundE
  constructor
  · intro h
    split at h
    · cases h
    rename_i h1
    split at h
    · cases h
    rename_i h2
    split at h
    · cases h
    rename_i h3
    split at h
    · cases h
    rename_i h4
    split at h
    · cases h
    rename_i h5
    have h1' : ∀ t ∈ l, (0 ≤ t.lot ∧ t.lot < b.lots.length) ∧ 0 ≤ t.aim ∧ t.aim < b.sizes.length := fun t ht => by
      simp only [Bool.not_eq_true, Bool.not_eq_false', List.all_eq_true, Bool.and_eq_true, Barn.lot, Barn.bin, inB_true] at h1
      have := h1 t ht; omega
    have h4' : ∀ t ∈ l, b.hold t.aim t.lot = true := fun t ht => by
      simp only [Bool.not_eq_true, Bool.not_eq_false', List.all_eq_true] at h4
      exact h4 t ht
    have h3' : ∀ i, i < l.length → twI b p l i = false := by
      rw [Bool.not_eq_true] at h3
      exact any_range_false.1 h3
    have h2' : ∀ i, i < l.length - 1 → (nth l i).lot < (nth l (i + 1)).lot := fun i hi => by
      rw [Bool.not_eq_true] at h2
      have := any_range_false.1 h2 i hi
      simpa using this
    have h2'' : ∀ i k, i < k → k < l.length → (nth l i).lot < (nth l k).lot := fun i k hik hk => by
      induction k with
      | zero => omega
      | succ k ih =>
        have := h2' k (by omega)
        by_cases e : i = k
        · subst e; exact this
        · have := ih (by omega) (by omega); omega
    refine ⟨by omega, fun t ht => ?_, ?_⟩
    · obtain ⟨i, hi, rfl⟩ := mem_nth ht
      have := h3' i hi
      unfold twI at this
      rw [Bool.or_eq_false_iff] at this
      have e := h1' _ ht
      exact ⟨e.1, e.2, this.1, h4' _ ht⟩
    · rw [List.pairwise_iff_getElem]
      intro i k hi hk hik
      rw [← nth_lt hi, ← nth_lt hk]
      refine ⟨h2'' i k hik hk, fun e => ?_⟩
      have := h3' k hk
      unfold twI at this
      rw [Bool.or_eq_false_iff, List.any_eq_false] at this
      exact this.2 (nth l i) (by rw [List.mem_take_iff_getElem]; exact ⟨i, by omega, (nth_lt hi).symm⟩) (decide_eq_true e)
  · intro h
    rw [if_neg, if_neg, if_neg, if_neg, if_neg]
    · have := h.len; omega
    · simp only [Bool.not_eq_true, Bool.not_eq_false', List.all_eq_true]
      exact fun t ht => (h.ok t ht).2.2.2
    · rw [Bool.not_eq_true]
      refine any_range_false.2 fun i hi => ?_
      unfold twI
      rw [Bool.or_eq_false_iff, List.any_eq_false]
      refine ⟨(h.ok _ (nth_mem hi)).2.2.1, fun u hu e => ?_⟩
      rw [List.mem_take_iff_getElem] at hu
      obtain ⟨k, hk, rfl⟩ := hu
      have := List.pairwise_iff_getElem.1 h.apart k i (by omega) hi (by omega)
      rw [← nth_lt, ← nth_lt] at this
      rw [← nth_lt] at e
      exact this.2 (of_decide_eq_true e)
    · rw [Bool.not_eq_true]
      refine any_range_false.2 fun i hi => ?_
      rw [decide_eq_false_iff_not]
      have := List.pairwise_iff_getElem.1 h.apart i (i + 1) (by omega) (by omega) (by omega)
      rw [← nth_lt, ← nth_lt] at this
      omega
    · simp only [Bool.not_eq_true, Bool.not_eq_false', List.all_eq_true, Bool.and_eq_true, Barn.lot, Barn.bin, inB_true]
      intro t ht
      have := h.ok t ht
      have h1 := this.1
      have h2 := this.2.1
      omega
def worksGo (b : Barn) (g : Int) : Pl → List (List Tur) → Bool × Int
  | p, [] => (madeP b p, 0)
  | p, l :: rs => if roundE b p g l = 0 then worksGo b g (movedAll p l) rs else (false, roundE b p g l)
def worksV (b : Barn) (g : Int) (rs : List (List Tur)) : Bool × Int := if askE b g = 0 then if (rs.length : Int) > 6000 then (false, 2) else worksGo b g (firstP b) rs else (false, askE b g)
theorem works_go (hg : 0 ≤ g) : ∀ (rs : List (List Tur)) {p q : Pl}, goR b g p rs = some q → worksGo b g p rs = (madeP b q, 0)
  | [], p, q, h => by injection h with h; rw [← h]; rfl
  | l :: rs, p, q, h => by
    obtain ⟨h1, h2⟩ := goR_cons h
    have h3 := roundE_ok.2 ((mem_allR hg).1 h1)
    show (if roundE b p g l = 0 then worksGo b g (movedAll p l) rs else (false, roundE b p g l)) = _
    rw [if_pos h3]; exact works_go hg rs h2
structure WIx (b : Barn) (g : Int) (rs : List (List Tur)) (k : Nat) (p : Pl) : Prop where
  same : worksGo b g (firstP b) rs = worksGo b g p (rs.drop k)
  le : k ≤ rs.length
theorem wix0 (b : Barn) (g : Int) (rs : List (List Tur)) : WIx b g rs 0 (firstP b) := ⟨by rw [List.drop_zero], Nat.zero_le _⟩
theorem WIx.stop {rs : List (List Tur)} {k : Nat} {p : Pl} (h : WIx b g rs k p) (hk : k < rs.length) (he : ¬ roundE b p g (nth rs k) = 0) : worksGo b g (firstP b) rs = (false, roundE b p g (nth rs k)) := by
  rw [h.same, drop_nth hk]; exact if_neg he
theorem WIx.next {rs : List (List Tur)} {k : Nat} {p : Pl} (h : WIx b g rs k p) (hk : k < rs.length) (he : roundE b p g (nth rs k) = 0) : WIx b g rs (k + 1) (movedAll p (nth rs k)) :=
  ⟨by rw [h.same, drop_nth hk]; exact if_pos he, hk⟩
theorem WIx.end {rs : List (List Tur)} {k : Nat} {p : Pl} (h : WIx b g rs k p) (hk : rs.length ≤ k) : worksGo b g (firstP b) rs = (madeP b p, 0) := by
  rw [h.same, List.drop_of_length_le hk]; rfl
end Go.Proofs.YtpnndljmhpepgaaGreat

namespace Go.Proofs.YtpnndljmhpepgaaGreat
open Go Go.T
def putP (b : Barn) (p : Pl) : Barn := ⟨b.sizes, (List.range b.lots.length).map fun i => ⟨(nth b.lots i).sacks, nth p.1 i, (nth b.lots i).aim⟩⟩
variable {b : Barn} {p q : Pl} {t : Tur}
def backL : Pl → List Tur → List Tur
  | _, [] => []
  | p, t :: l => ⟨t.lot, nth p.1 t.lot.toNat⟩ :: backL (moved p t) l
structure VP (b : Barn) (p : Pl) : Prop where
  apart : apartP b p
  named : ∀ i, i < b.lots.length → 0 ≤ nth p.1 i ∧ nth p.1 i < b.sizes.length
  holds : ∀ i, i < b.lots.length → (nth b.lots i).sacks ≤ nth b.sizes (nth p.1 i).toNat
theorem places_of {c : Barn} (hr : c.Right) {L : List Pl} (hn : L.Nodup) (h : ∀ r, r ∈ L ↔ ∃ l, goP c (firstP c) l = some r) : placesV c = (L.length : Nat) := by
  unfold placesV
  rw [if_pos (right_check hr)]
  obtain ⟨hs, _⟩ := search_spec hr (one_ok c) true
  have hw := (hs.whole rfl).2
  have e1 := nodup_sub hs.keys (L := L) fun r hr' => by
    obtain ⟨w, hw'⟩ := mem_mget hr'
    obtain ⟨l, hl, _⟩ := hs.walk r w hw'
    exact (h r).2 ⟨l, hl⟩
  have e2 := nodup_sub hn (L := (searchM c oneC true).ways.map Prod.fst) fun r hr' => by
    obtain ⟨l, hl⟩ := (h r).1 hr'
    obtain ⟨w, hw'⟩ := hw l r hl
    exact mget_some_mem hw'
  rw [List.length_map] at e1 e2
  congr 1
  omega
theorem reached (hr : b.Right) : ∃ L : List Pl, L.Nodup ∧ (∀ r, r ∈ L ↔ ∃ l, goP b (firstP b) l = some r) ∧ placesV b = (L.length : Nat) := by
  obtain ⟨hs, _⟩ := search_spec hr (one_ok b) true
  have hw := (hs.whole rfl).2
  have h : ∀ r, r ∈ (searchM b oneC true).ways.map Prod.fst ↔ ∃ l, goP b (firstP b) l = some r := fun r => by
    constructor
    · intro hr'
      obtain ⟨w, hw'⟩ := mem_mget hr'
      obtain ⟨l, hl, _⟩ := hs.walk r w hw'
      exact ⟨l, hl⟩
    · rintro ⟨l, hl⟩
      obtain ⟨w, hw'⟩ := hw l r hl
      exact mget_some_mem hw'
  exact ⟨_, hs.keys, h, places_of hr hs.keys h⟩
structure Backs (b : Barn) (plan : List Tur) (a : Barn) (back : List Tur) (p : List Int) : Prop where
  done : doneV b plan = (a, back, 0)
  home : doneV a back = (b, plan, 0)
  right : a.Right
  cost : costL (sackC a) back = costL (sackC b) plan
  ok : (lawV a back).2 = true
  at_ : lawV b plan = (p, true)
  sizes : a.sizes = b.sizes
  len : a.lots.length = b.lots.length
  plen : p.length = b.lots.length
  lot : ∀ i, i < b.lots.length → nth a.lots i = ⟨(nth b.lots i).sacks, nth p i, (nth b.lots i).aim⟩
  places : placesV a = placesV b
  one : 1 ≤ placesV b
  makes : makesB b plan = rightV b plan
  few : ∀ e l n e' l' n', Cheap b oneC e l n → Cheap a oneC e' l' n' → e = e' ∧ (e = 0 → n ≤ n' + plan.length ∧ n' ≤ n + plan.length)
end Go.Proofs.YtpnndljmhpepgaaGreat

namespace Go.Proofs.YtpnndljmhpepgaaGreat
open Go Go.T
def widerB (b : Barn) (n : Int) : Barn := ⟨b.sizes ++ [n], b.lots⟩
def looserB (b : Barn) (i : Nat) : Barn := ⟨b.sizes, b.lots.set i ⟨(nth b.lots i).sacks, (nth b.lots i).inn, -1⟩⟩
variable {b : Barn} {n : Int} {i : Nat}
theorem nth_left {l : List Int} (h : i < l.length) : nth (l ++ [n]) i = nth l i := by
  unfold nth; rw [List.getD_eq_getElem?_getD, List.getD_eq_getElem?_getD, List.getElem?_append_left h]
theorem wider_len (b : Barn) (n : Int) : (widerB b n).sizes.length = b.sizes.length + 1 := by
  show (b.sizes ++ [n]).length = _; rw [List.length_append]; rfl
theorem wider_right (hr : b.Right) (hl : b.sizes.length ≤ 6) (hn : 0 ≤ n ∧ n ≤ 300) : (widerB b n).Right := by
  have hb := hr.bins
  have e := wider_len b n
  refine ⟨by omega, hr.lots, fun x hx => ?_, hr.sacks, fun l hl' => ?_, fun l hl' => ?_, hr.apart, fun i hi => ?_⟩
  · rcases List.mem_append.1 (show x ∈ b.sizes ++ [n] from hx) with h | h
    · exact hr.size x h
    · rw [List.mem_singleton.1 h]; exact hn
  · have := hr.inn l hl'; omega
  · have := hr.aim l hl'; omega
  · have h1 := hr.holds i hi
    have h2 := hr.inn _ (nth_mem hi)
    have h3 := hr.aim _ (nth_mem hi)
    refine ⟨?_, fun hne => ?_⟩
    · show (nth b.lots i).sacks ≤ nth (b.sizes ++ [n]) (nth b.lots i).inn.toNat
      rw [nth_left (by omega)]; exact h1.1
    · show (nth b.lots i).sacks ≤ nth (b.sizes ++ [n]) (nth b.lots i).aim.toNat
      have hne' : (nth b.lots i).aim ≠ -1 := hne
      rw [nth_left (by omega)]; exact h1.2 hne
theorem wider_turns {p : Pl} {t : Tur} (h : t ∈ turnsL b p) : t ∈ turnsL (widerB b n) p := by
  rw [mem_turnsL] at h ⊢
  obtain ⟨h1, h2, h3, h4, h5, h6⟩ := h
  refine ⟨h1, h2, h3, by rw [wider_len]; omega, h5, ?_⟩
  unfold Barn.hold at h6 ⊢
  show decide (nth (b.sizes ++ [n]) t.aim.toNat ≥ _) = true
  rw [nth_left (by omega)]; exact h6
theorem wider_go : ∀ (l : List Tur) {p q : Pl}, goP b p l = some q → goP (widerB b n) p l = some q
  | [], _, _, h => h
  | t :: l, p, q, h => by
    obtain ⟨h1, h2⟩ := goP_cons h
    rw [goP_cons' (wider_turns h1)]; exact wider_go l h2
theorem wider_rightV (h6 : b.lots.length ≤ 6) {l : List Tur} (h : rightV b l = true) : rightV (widerB b n) l = true := by
  obtain ⟨q, h1, h2⟩ := (right_iff h6).1 h
  exact (right_iff (b := widerB b n) h6).2 ⟨q, wider_go l h1, h2⟩
theorem wider_places (hr : b.Right) (hr' : (widerB b n).Right) : placesV b ≤ placesV (widerB b n) := by
  obtain ⟨L, h1, h2, h3⟩ := reached hr
  obtain ⟨L', g1, g2, g3⟩ := reached hr'
  have := nodup_sub h1 (L := L') fun r hr0 => by
    obtain ⟨l, hl⟩ := (h2 r).1 hr0
    exact (g2 r).2 ⟨l, wider_go l hl⟩
  rw [h3, g3]; omega
theorem looser_len (b : Barn) (i : Nat) : (looserB b i).lots.length = b.lots.length := by
  show (b.lots.set _ _).length = _; rw [List.length_set]
theorem looser_nth {k : Nat} (hk : k < b.lots.length) : nth (looserB b i).lots k = if i = k then ⟨(nth b.lots k).sacks, (nth b.lots k).inn, -1⟩ else nth b.lots k := by
  have hk' : k < (b.lots.set i ⟨(nth b.lots i).sacks, (nth b.lots i).inn, -1⟩).length := by rw [List.length_set]; exact hk
  show nth (b.lots.set i _) k = _
  rw [nth_lt hk', List.getElem_set]
  by_cases e : i = k
  · subst e; rw [if_pos rfl, if_pos rfl]
  · rw [if_neg e, if_neg e, nth_lt hk]
theorem looser_sacks {k : Nat} (hk : k < b.lots.length) : (nth (looserB b i).lots k).sacks = (nth b.lots k).sacks ∧ (nth (looserB b i).lots k).inn = (nth b.lots k).inn ∧ ((nth (looserB b i).lots k).aim = (nth b.lots k).aim ∨ (nth (looserB b i).lots k).aim = -1) := by
  rw [looser_nth hk]
  by_cases e : i = k
  · rw [if_pos e]; exact ⟨rfl, rfl, .inr rfl⟩
  · rw [if_neg e]; exact ⟨rfl, rfl, .inl rfl⟩
theorem looser_mem {l : Lot} (h : l ∈ (looserB b i).lots) : ∃ k, k < b.lots.length ∧ l.sacks = (nth b.lots k).sacks ∧ l.inn = (nth b.lots k).inn ∧ (l.aim = (nth b.lots k).aim ∨ l.aim = -1) := by
  obtain ⟨k, hk, rfl⟩ := mem_nth h
  rw [looser_len] at hk
  exact ⟨k, hk, looser_sacks hk⟩
theorem looser_right (hr : b.Right) (i : Nat) : (looserB b i).Right := by
  have e := looser_len b i
  have hb := hr.bins
  refine ⟨hr.bins, by rw [e]; exact hr.lots, hr.size, fun l hl => ?_, fun l hl => ?_, fun l hl => ?_, fun x k hk hx => ?_, fun k hk => ?_⟩
  · obtain ⟨k, hk, h1, _, _⟩ := looser_mem hl
    rw [h1]; exact hr.sacks _ (nth_mem hk)
  · obtain ⟨k, hk, _, h1, _⟩ := looser_mem hl
    rw [h1]; exact hr.inn _ (nth_mem hk)
  · obtain ⟨k, hk, _, _, h1⟩ := looser_mem hl
    have h2 := hr.aim _ (nth_mem hk)
    show -1 ≤ l.aim ∧ l.aim < (b.sizes.length : Int)
    omega
  · rw [e] at hx
    obtain ⟨_, h2, h3⟩ := looser_sacks (i := i) (k := x) hx
    obtain ⟨_, g2, g3⟩ := looser_sacks (b := b) (i := i) (k := k) (by omega)
    have h4 := hr.apart x k hk hx
    rw [h2, g2]
    refine ⟨h4.1, fun e' => ?_⟩
    rcases h3 with h3 | h3
    · rcases g3 with g3 | g3
      · rw [h3]; exact h4.2 (by rw [← h3, ← g3]; exact e')
      · rw [e']; exact g3
    · exact h3
  · rw [e] at hk
    obtain ⟨h1, h2, h3⟩ := looser_sacks (i := i) (k := k) hk
    have h4 := hr.holds k hk
    rw [h1, h2]
    refine ⟨h4.1, fun hne => ?_⟩
    rcases h3 with h3 | h3
    · rw [h3] at hne ⊢; exact h4.2 hne
    · exact absurd h3 hne
theorem looser_turns {p : Pl} {t : Tur} : t ∈ turnsL (looserB b i) p ↔ t ∈ turnsL b p := by
  rw [mem_turnsL, mem_turnsL, looser_len]
  have h1 : takenP (looserB b i) p t.aim = takenP b p t.aim := by unfold takenP; rw [looser_len]
  rw [h1]
  have h2 : 0 ≤ t.lot → t.lot < b.lots.length → Barn.hold (looserB b i) t.aim t.lot = b.hold t.aim t.lot := fun h0 h => by
    unfold Barn.hold
    rw [(looser_sacks (i := i) (k := t.lot.toNat) (by omega)).1]; rfl
  constructor
  · rintro ⟨a1, a2, a3, a4, a5, a6⟩; exact ⟨a1, a2, a3, a4, a5, (h2 a1 a2).symm.trans a6⟩
  · rintro ⟨a1, a2, a3, a4, a5, a6⟩; exact ⟨a1, a2, a3, a4, a5, (h2 a1 a2).trans a6⟩
theorem looser_go : ∀ (l : List Tur) {p q : Pl}, goP b p l = some q → goP (looserB b i) p l = some q
  | [], _, _, h => h
  | t :: l, p, q, h => by
    obtain ⟨h1, h2⟩ := goP_cons h
    rw [goP_cons' (looser_turns.2 h1)]; exact looser_go l h2
theorem looser_first (b : Barn) (i : Nat) : firstP (looserB b i) = firstP b := by
  apply Subtype.ext
  show List.take 6 (((looserB b i).lots.map fun (l : Lot) => l.inn) ++ _) = List.take 6 ((b.lots.map fun (l : Lot) => l.inn) ++ _)
  congr 2
  apply List.ext_getElem
  · rw [List.length_map, List.length_map, looser_len]
  · intro k h1 h2
    rw [List.length_map] at h2
    rw [List.length_map] at h1
    rw [List.getElem_map, List.getElem_map, ← nth_lt h1, ← nth_lt h2]
    exact (looser_sacks h2).2.1
theorem looser_rightV (h6 : b.lots.length ≤ 6) {l : List Tur} (h : rightV b l = true) : rightV (looserB b i) l = true := by
  obtain ⟨q, h1, h2⟩ := (right_iff h6).1 h
  refine (right_iff (b := looserB b i) (by rw [looser_len]; exact h6)).2 ⟨q, by rw [looser_first]; exact looser_go l h1, ?_⟩
  unfold madeP
  rw [List.all_eq_true, looser_len]
  intro k hk
  have hk := List.mem_range.1 hk
  rcases (looser_sacks (i := i) hk).2.2 with e | e
  · rw [e]
    rcases made_at h2 hk with e | e
    · rw [decide_eq_true e]; rfl
    · rw [decide_eq_true e, Bool.or_true]
  · rw [decide_eq_true e]; rfl
theorem cheap_more {b' : Barn} {c : Tur → Int} {e e' n n' : Int} {l l' : List Tur} (h : ∀ l, rightV b l = true → rightV b' l = true) (hc : Cheap b c e l n) (hc' : Cheap b' c e' l' n') (h0 : e = 0) : e' = 0 ∧ n' ≤ n := by
  obtain ⟨h1, h2, _⟩ := hc.yes h0
  have h3 := h l h1
  rcases hc'.err with e0 | e7
  · exact ⟨e0, by rw [← h2]; exact (hc'.yes e0).2.2 l h3⟩
  · rw [(hc'.no e7).2.2 l] at h3; cases h3
theorem inn_nodup (hr : b.Right) : (innL b).Nodup := by
  rw [List.nodup_iff_pairwise_ne, List.pairwise_iff_getElem]
  intro i k hi hk hik e
  unfold innL at hi hk e
  rw [List.length_map] at hi hk
  rw [List.getElem_map, List.getElem_map, ← nth_lt hi, ← nth_lt hk] at e
  exact (hr.apart k i hik hk).1 e.symm
theorem free_inn {k : Int} : b.free k = true ↔ k ∉ innL b := by
  unfold Barn.free innL
  rw [List.all_eq_true, List.mem_map]
  constructor
  · rintro h ⟨l, hl, e⟩
    have := h l hl
    rw [decide_eq_true e] at this; cases this
  · intro h l hl
    rw [decide_eq_false fun e => h ⟨l, hl, e⟩]; rfl
theorem filtUp_true (n : Nat) : (filtUp (fun _ => true) n).length = n := by
  unfold filtUp; rw [List.length_map, List.filter_eq_self.2 (fun _ _ => rfl), List.length_range]
theorem free_count (hr : b.Right) : (freeL b).length + b.lots.length = b.sizes.length := by
  have hn : (freeL b ++ innL b).Nodup := by
    rw [List.nodup_append]
    refine ⟨filtUp_nodup _ _, inn_nodup hr, fun x hx y hy e => ?_⟩
    obtain ⟨k, _, h1, e'⟩ := filtUp_mem.1 hx
    have h1 : b.free (k : Int) = true := h1
    rw [← e', e] at h1
    exact free_inn.1 h1 hy
  have hl : (innL b).length = b.lots.length := by unfold innL; rw [List.length_map]
  have h1 := nodup_sub hn (L := filtUp (fun _ => true) b.sizes.length) fun x hx => by
    rcases List.mem_append.1 hx with h | h
    · obtain ⟨k, h1, _, h2⟩ := filtUp_mem.1 h
      exact filtUp_mem.2 ⟨k, h1, rfl, h2⟩
    · obtain ⟨l, hl', rfl⟩ := List.mem_map.1 h
      have := hr.inn l hl'
      exact filtUp_mem.2 ⟨l.inn.toNat, by omega, rfl, by omega⟩
  have h2 := nodup_sub (filtUp_nodup (fun _ => true) b.sizes.length) (L := freeL b ++ innL b) fun x hx => by
    obtain ⟨k, h1, _, h2⟩ := filtUp_mem.1 hx
    by_cases e : b.free (k : Int) = true
    · exact List.mem_append.2 (.inl (filtUp_mem.2 ⟨k, h1, e, h2⟩))
    · rw [free_inn] at e
      rw [h2]
      exact List.mem_append.2 (.inr (Classical.not_not.1 e))
  rw [filtUp_true, List.length_append] at h1 h2
  omega
theorem no_free (h6 : b.lots.length ≤ 6) (h : (freeL b).length = 0) {l : List Tur} {q : Pl} (hg : goP b (firstP b) l = some q) : l = [] ∧ q = firstP b := by
  cases l with
  | nil => injection hg with hg; exact ⟨rfl, hg.symm⟩
  | cons t l =>
    obtain ⟨h1, _⟩ := goP_cons hg
    obtain ⟨_, _, h3, h4, h5, _⟩ := mem_turnsL.1 h1
    have hf : b.free t.aim = true := by
      rw [free_inn]
      rw [takenP_not, first_inn h6] at h5; exact h5
    have : t.aim ∈ freeL b := filtUp_mem.2 ⟨t.aim.toNat, by omega, by rw [show ((t.aim.toNat : Nat) : Int) = t.aim by omega]; exact hf, by omega⟩
    rw [List.length_eq_zero_iff.1 h] at this; cases this
theorem no_places (hr : b.Right) (h : (freeL b).length = 0) : placesV b = 1 := by
  refine places_of hr (L := [firstP b]) (by simp) fun r => ?_
  rw [List.mem_singleton]
  constructor
  · rintro rfl; exact ⟨[], rfl⟩
  · rintro ⟨l, hl⟩; exact (no_free hr.lots h hl).2
theorem no_cost (hr : b.Right) (h : (freeL b).length = 0) {c : Tur → Int} {e n : Int} {l : List Tur} (hc : Cheap b c e l n) (h0 : e = 0) : n = 0 := by
  obtain ⟨h1, h2, _⟩ := hc.yes h0
  obtain ⟨q, g1, _⟩ := (right_iff hr.lots).1 h1
  rw [(no_free hr.lots h g1).1] at h2
  rw [← h2]; rfl
theorem no_lots (h : b.lots.length = 0) {e n : Int} {l : List Tur} (hc : Cheap b oneC e l n) : e = 0 ∧ n = 0 := by
  have h1 : rightV b [] = true := by
    refine (right_iff (by omega)).2 ⟨firstP b, rfl, ?_⟩
    unfold madeP; rw [h]; rfl
  rcases hc.err with e0 | e7
  · obtain ⟨h2, h3, h4⟩ := hc.yes e0
    have h5 := h4 [] h1
    rw [cost_one] at h3 h5
    exact ⟨e0, by rw [List.length_nil] at h5; omega⟩
  · rw [(hc.no e7).2.2 []] at h1; cases h1
structure Roomy (b : Barn) (n : Int) : Prop where
  free : ((freeL b).length : Int) = b.sizes.length - b.lots.length
  places : (freeL b).length = 0 → placesV b = 1
  cost : (freeL b).length = 0 → planE b oneC = 0 → costR b oneC = 0
  right : (widerB b n).Right
  more : placesV b ≤ placesV (widerB b n)
  few : planE b oneC = 0 → planE (widerB b n) oneC = 0 ∧ costR (widerB b n) oneC ≤ costR b oneC
  none : b.lots.length = 0 → planE b oneC = 0 ∧ costR b oneC = 0
  loose : ∀ i, planE b oneC = 0 → planE (looserB b i) oneC = 0 ∧ costR (looserB b i) oneC ≤ costR b oneC
theorem roomy (hr : b.Right) (hl : b.sizes.length ≤ 6) (hn : 0 ≤ n ∧ n ≤ 300) : Roomy b n := by
  have hw := wider_right hr hl hn
  have h1 := cheap hr (one_ok b)
  have h2 := cheap hw (one_ok _)
  have hf := free_count hr
  exact ⟨by omega, no_places hr, fun h => no_cost hr h h1, hw, wider_places hr hw, cheap_more (fun _ => wider_rightV hr.lots) h1 h2, fun h => no_lots h h1, fun i => cheap_more (fun _ => looser_rightV hr.lots) h1 (cheap (looser_right hr i) (one_ok _))⟩
end Go.Proofs.YtpnndljmhpepgaaGreat

namespace Go.T
open Go Go.RowKit
end Go.T

namespace Go.Proofs.YtpnndljmhpepgaaGreat
open Go Go.T
set_option maxHeartbeats 4000000
def aimedB (b : Barn) (i k : Int) : Barn := ⟨b.sizes, b.lots.set i.toNat ⟨(nth b.lots i.toNat).sacks, (nth b.lots i.toNat).inn, k⟩⟩
def aimV (b : Barn) (i k : Int) : Barn × Int := if knownE b i = 0 then if checkB (aimedB b i k) = 0 then (aimedB b i k, 0) else (noB, checkB (aimedB b i k)) else (noB, knownE b i)
attribute [local irreducible] planE costR placesV checkB freeL
attribute [local irreducible] dInt dBool dSl dPp dPtr dAgg dTup dClo dAny dEx dStr dGd dCells dVec dVs dRow dOp nth Tri Into TOps Ctr bodyPost Exit.then Exit.inBlock Code.wp Code.wpIn dWhen dPa dPe dAo dArr dMp dPm dMap dCJ CtrG CtrI OpY keepPost iterPost bodyPostM roundQ
end Go.Proofs.YtpnndljmhpepgaaGreat

namespace Go.Proofs.YtpnndljmhpepgaaGreat
open Go Go.T
set_option maxHeartbeats 4000000
theorem und4 : Tryz.prog.underlying 4 = some .bool := Tryz.underlying4
def sackV (b : Barn) (plan : List Tur) : Int × Int := if (doneV b plan).2.2 = 0 then (costL (sackC b) plan, 0) else (0, (doneV b plan).2.2)
def sameV (a b : Barn) : Bool := decide (a.sizes = b.sizes) && decide (a.lots = b.lots)
theorem sameV_self (b : Barn) : sameV b b = true := by unfold sameV; simp
section
variable {b a : Barn} {P back : List Tur} {p : List Int}
end
attribute [local irreducible] planE costR placesV checkB doneV costL sackC walkP walkE rightV makesB lawV sumUp sameV
attribute [local irreducible] dInt dBool dSl dPp dPtr dAgg dTup dClo dAny dEx dStr dGd dCells dVec dVs dRow dOp nth Tri Into TOps Ctr bodyPost Exit.then Exit.inBlock Code.wp Code.wpIn dWhen dPa dPe dAo dArr dMp dPm dMap dCJ CtrG CtrI OpY keepPost iterPost bodyPostM roundQ
set_option maxRecDepth 100000 in
theorem c_same (a b : Barn) : Ctr Tryz.prog 17 [barnT a, barnT b] (Ty.bool (sameV a b)) := by
  refine fn_intro Tryz.func17 rfl (by decide) Tryz.ntmps17 (by exact Nat.le_of_ble_eq_true rfl) fun w0 M0 => ?_
  refine t_seq ?_
  refine t_region ?_
  refine r_box_agg rfl ?_
  refine r_box_agg rfl ?_
  refine asB rfl ?_
  refine r_nil ?_
  refine i_then ?_
  refine t_seq ?_
  refine t_region ?_
  refine r_field_pp rfl rfl rfl rfl rfl (by decide) ?_
  refine r_load_pp rfl rfl rfl rfl ?_
  refine r_field_pp rfl rfl rfl rfl rfl (by decide) ?_
  refine r_load_pp rfl rfl rfl rfl ?_
  refine r_call (c_Eq_int a.sizes b.sizes) rfl rfl rfl rfl rfl ?_
  refine mvB rfl ?_
  apply r_guard (s := 10) rfl rfl rfl
  · intro hg; apply opT_of; (refine r_field_pp rfl rfl rfl rfl rfl (by decide) ?_); refine r_nil ?_; exact rfl
  · exact rfl
  · exact rfl
  apply r_guard (s := 10) rfl rfl rfl
  · intro hg; apply opT_strip (s := 11) rfl (by (rw [hg]; rfl)); apply opT_of; (refine r_load_pp rfl rfl rfl rfl ?_); refine r_nil ?_; exact rfl
  · exact rfl
  · exact rfl
  apply r_guard (s := 10) rfl rfl rfl
  · intro hg; apply opT_of; (refine r_field_pp rfl rfl rfl rfl rfl (by decide) ?_); refine r_nil ?_; exact rfl
  · exact rfl
  · exact rfl
  apply r_guard (s := 10) rfl rfl rfl
  · intro hg; apply opT_strip (s := 13) rfl (by (rw [hg]; rfl)); apply opT_of; (refine r_load_pp rfl rfl rfl rfl ?_); refine r_nil ?_; exact rfl
  · exact rfl
  · exact rfl
  apply r_guard (s := 10) rfl rfl rfl
  · intro hg; apply opT_strip (s := 12) rfl (by (rw [hg]; rfl)); apply opT_strip (s := 14) rfl (by (rw [hg]; rfl)); apply opT_of; (refine r_call (c_Eq_lot a.lots b.lots) rfl rfl rfl rfl rfl ?_); refine r_nil ?_; exact rfl
  · exact rfl
  · exact rfl
  refine r_and rfl rfl ?_
  refine asB rfl ?_
  refine r_nil ?_
  refine i_then ?_
  refine t_ret ?_
  refine i_rp1 rfl rfl ?_
  all_goals skip
  all_goals exact ret_eq rfl rfl (congrArg Ty.bool (by unfold sameV; rfl))
section
variable {b a : Barn} {P back : List Tur}
end
end Go.Proofs.YtpnndljmhpepgaaGreat

namespace Go.Proofs.YtpnndljmhpepgaaGreat
open Go Go.T
set_option maxHeartbeats 4000000
def rowO (x : Option (List Int)) : List Ty := match x with | none => [Ty.ex (.slice none 0 0)] | some l => [Ty.sl I64 l]
def RowOE : El (Option (List Int)) := El.mk' 1 rowO (fun x => by cases x <;> rfl) (fun x => by cases x <;> exact ⟨rfl, rfl, rfl⟩)
instance : Inhabited (Option (List Int)) := ⟨none⟩
def rowU (l : List (List Int)) (k : Nat) : List (Option (List Int)) := (l.take k).map some ++ List.replicate (l.length - k) none
def greatV (b : Barn) : Bool := decide ((b.sizes.length : Int) > 12) || decide ((b.lots.length : Int) > 10)
theorem small_great {b : Barn} (h : greatV b = false) : b.Small := by
  unfold greatV at h
  simp only [Bool.or_eq_false_iff, decide_eq_false_iff_not] at h
  exact ⟨by omega, by omega⟩
def aimTys (s t : Nat) (b : Barn) : List Ty := [Ty.row I64 3 s b.sizes, Ty.vs t b.lots.length]
attribute [local irreducible] dInt dBool dSl dPp dPtr dAgg dTup dClo dAny dEx dStr dGd dCells dVec dVs dRow dOp nth Tri Into TOps Ctr bodyPost Exit.then Exit.inBlock Code.wp Code.wpIn dWhen dPa dPe dAo dArr dMp dPm dMap dCJ CtrG CtrI OpY keepPost iterPost bodyPostM roundQ
attribute [local irreducible] dRowJ dMs dFit
set_option maxRecDepth 100000 in
theorem c_great (b : Barn) : Ctr Tryz.prog 27 [barnT b] (Ty.bool (greatV b)) := by
  refine fn_intro Tryz.func27 rfl (by decide) Tryz.ntmps27 (by exact Nat.le_of_ble_eq_true rfl) fun w0 M0 => ?_
  refine t_seq ?_
  refine t_region ?_
  refine r_box_agg rfl ?_
  refine asB rfl ?_
  refine r_nil ?_
  refine i_then ?_
  refine t_seq ?_
  refine t_region ?_
  refine r_field_pp rfl rfl rfl rfl rfl (by decide) ?_
  refine r_load_pp rfl rfl rfl rfl ?_
  refine r_len rfl rfl rfl ?_
  refine r_bin rfl rfl rfl ?_
  refine mvB rfl ?_
  apply r_guard (s := 7) rfl rfl rfl
  · intro hg; apply opT_of; (refine r_field_pp rfl rfl rfl rfl rfl (by decide) ?_); refine r_nil ?_; exact rfl
  · exact rfl
  · exact rfl
  apply r_guard (s := 7) rfl rfl rfl
  · intro hg; apply opT_strip (s := 8) rfl (by (rw [hg]; rfl)); apply opT_of; (refine r_load_pp rfl rfl rfl rfl ?_); refine r_nil ?_; exact rfl
  · exact rfl
  · exact rfl
  apply r_guard (s := 7) rfl rfl rfl
  · intro hg; apply opT_strip (s := 9) rfl (by (rw [hg]; rfl)); apply opT_of; (refine r_len rfl rfl rfl ?_); refine r_nil ?_; exact rfl
  · exact rfl
  · exact rfl
  apply r_guard (s := 7) rfl rfl rfl
  · intro hg; apply opT_strip (s := 10) rfl (by (rw [hg]; rfl)); apply opT_of; (refine r_bin rfl rfl rfl ?_); refine r_nil ?_; exact rfl
  · exact rfl
  · exact rfl
  refine r_or rfl rfl ?_
  refine asB rfl ?_
  refine r_nil ?_
  refine i_then ?_
  refine t_ret ?_
  refine i_rp1 rfl rfl ?_
  all_goals exact ret_refl rfl rfl
  all_goals trace_state
set_option maxRecDepth 100000 in
theorem c_theirs (b : Barn) (hs : b.Small) : Ctr Tryz.prog 8 [barnT b] (barnT b) := by
  refine fn_intro Tryz.func8 rfl (by decide) Tryz.ntmps8 (by exact Nat.le_of_ble_eq_true rfl) fun w0 M0 => ?_
  have hs1 := hs.lots
  refine t_seq ?_
  refine t_region ?_
  refine r_box_agg rfl ?_
  refine r_alloc rfl (by exact List.cons_ne_nil _ _) rfl ?_
  refine r_nil ?_
  refine i_then ?_
  refine t_seq ?_
  refine t_region ?_
  refine r_field_pp rfl rfl rfl rfl rfl (by decide) ?_
  refine r_load_pp rfl rfl rfl rfl ?_
  refine r_build rfl rfl (by exact List.cons_ne_nil _ _) rfl (by repeat (first | exact (Parts.nil : Parts _ _ [] _) | (show Parts _ _ ((_, _) :: _) _; apply Parts.one; (· exact (rfl : _ = Ty.sl _ _)); (· exact rfl)))) (by exact (rfl : _ = some [_, _])) ?_
  refine r_alloc rfl (by exact List.cons_ne_nil _ _) rfl ?_
  refine r_storeN rfl rfl (by decide) rfl rfl rfl rfl rfl rfl ?_
  refine r_nil ?_
  refine i_then ?_
  refine t_seq ?_
  refine t_seq ?_
  refine t_region ?_
  refine r_field_pp rfl rfl rfl rfl rfl (by decide) ?_
  refine r_load_pp rfl rfl rfl rfl ?_
  refine r_len rfl rfl rfl ?_
  refine mvI rfl ?_
  refine r_nil ?_
  refine i_then ?_
  refine t_block ?_
  refine t_loop (fun (k : {k : Nat // k ≤ b.lots.length}) => live [(2, Ty.ptr 3 0), (3, Ty.ptr 4 0), (10, Ty.sl LotE b.lots), (11, Ty.int .i64 b.lots.length), (12, Ty.int .i64 (k.1 : Nat))] [(3, Cont.cells 33 [Ty.ex (.slice none 0 0), Ty.ex (.slice none 0 0)]), (4, Cont.cells 33 [Ty.sl I64 b.sizes, Ty.row LotE 76 21 (b.lots.take k.1)])]) (fun k => b.lots.length - k.1) (⟨0, by omega⟩) ?_ fun k => ?_
  · (refine Ent.mk' ?_ ?_ <;> (repeat' (first | exact allSub_zero | exact allTags_nil | exact subs_nil | refine allSub_succ' ?_ (Ty.sub_any _) | refine allSub_succ' ?_ (Ty.sub_refl _) | refine allTags_cons rfl (Cont.sub_refl _) ?_ | refine allTags_cons rfl (Cont.sub_subs ?_) ?_ | refine subs_cons ?_ (Ty.sub_refl _) | refine subs_cons ?_ Ty.nil_row)))
    all_goals trace_state
  ·
    have hk := k.2
    refine t_seq ?_
    refine t_region ?_
    refine r_bin rfl rfl rfl ?_
    refine r_nil ?_
    refine i_then ?_
    refine t_seq ?_
    refine t_cond_dec rfl (fun hc1 => ?_) (fun hc1 => ?_)
    ·
      refine t_skip ?_
      refine i_then ?_
      refine t_seq ?_
      refine t_block ?_
      refine t_seq ?_
      refine t_region ?_
      refine r_index_slN rfl rfl rfl rfl rfl rfl (by omega) ?_
      refine r_load_ppN rfl rfl rfl (by exact Nat.le_of_ble_eq_true rfl) ?_
      refine r_alloc rfl (by exact List.cons_ne_nil _ _) rfl ?_
      refine r_storeN rfl rfl (by decide) rfl rfl rfl rfl rfl rfl ?_
      refine r_nil ?_
      refine i_then ?_
      refine t_region ?_
      refine r_field_ptr rfl rfl rfl rfl rfl (by decide) ?_
      refine r_load_ptr rfl rfl (by decide) rfl rfl rfl ?_
      refine r_load_ptrN rfl rfl (by decide) rfl rfl (by exact Nat.le_of_ble_eq_true rfl) ?_
      refine r_buildSlice (E := LotE) (xs := [nth b.lots k.1]) rfl rfl rfl rfl rfl (by decide) (by decide) (by repeat (first | exact (Parts.nil : Parts _ _ [] _) | (show Parts _ _ ((_, _) :: _) _; apply Parts.agg; (· exact (rfl : _ = Ty.agg _))))) (by exact rfl) rfl ?_
      refine r_append rfl rfl (by decide) rfl rfl rfl rfl rfl rfl (by decide) (by (simp <;> omega)) (by (simp <;> omega)) ?_
      refine r_field_ptr rfl rfl rfl rfl rfl (by decide) ?_
      refine r_store1 rfl rfl (by decide) rfl rfl (by exact (rfl : _ = Ty.row _ _ _ _)) rfl (by exact Nat.le_of_ble_eq_true rfl) rfl rfl (by exact rfl) ?_
      refine r_nil ?_
      refine i_block ?_
      refine i_then ?_
      refine t_region ?_
      refine r_add rfl rfl (by omega) (by omega) ?_
      refine mvI rfl ?_
      refine r_nil ?_
      refine i_round (⟨k.1 + 1, by omega⟩) ?_ (by show b.lots.length - (k.1 + 1) < b.lots.length - k.1; omega)
      (refine Ent.mk' ?_ ?_ <;> (repeat' (first | exact allSub_zero | exact allTags_nil | exact subs_nil | refine allSub_succ' ?_ (Ty.sub_any _) | refine allSub_succ' ?_ (Ty.sub_refl _) | refine allTags_cons rfl (Cont.sub_refl _) ?_ | refine allTags_cons rfl (Cont.sub_subs ?_) ?_ | refine subs_cons ?_ (Ty.sub_refl _) | refine subs_cons ?_ ?_)))
      all_goals exact Ty.sub_row (take_nth (by omega)).symm
      all_goals trace_state
    ·
      refine t_exit ?_
      refine i_then_exit ?_
      refine i_then_exit ?_
      refine i_block_exit rfl ?_
      refine i_then ?_
      refine t_seq ?_
      refine t_pubC (tg := 21) [] [(4, Cont.cells 33 [Ty.sl I64 b.sizes, Ty.sl LotE (b.lots.take k.1)])] (by decide) rfl trivial ⟨pubC_cells rfl rfl ⟨pubTy_same rfl, pubTy_row, trivial⟩, trivial⟩ ?_
      refine t_region ?_
      refine r_load_ptrN rfl rfl (by decide) rfl rfl (by exact Nat.le_of_ble_eq_true rfl) ?_
      refine r_storeN rfl rfl (by decide) rfl rfl rfl rfl rfl rfl ?_
      refine r_nil ?_
      refine i_then ?_
      refine t_ret ?_
      refine i_rcell rfl rfl rfl rfl (by decide) rfl rfl rfl ?_
      all_goals exact ret_eq rfl rfl (congrArg (fun l => barnT ⟨b.sizes, l⟩) (show b.lots.take k.1 = b.lots from List.take_of_length_le (by have := k.2; omega)))
set_option maxRecDepth 100000 in
theorem c_Own (b : Barn) (hs : b.Small) : Ctr Tryz.prog 7 [barnT b] (barnT b) := by
  refine fn_intro Tryz.func7 rfl (by decide) Tryz.ntmps7 (by exact Nat.le_of_ble_eq_true rfl) fun w0 M0 => ?_
  refine t_seq ?_
  refine t_region ?_
  refine r_box_agg rfl ?_
  refine r_alloc rfl (by exact List.cons_ne_nil _ _) rfl ?_
  refine r_nil ?_
  refine i_then ?_
  refine t_seq ?_
  refine t_draw mixed rfl ?_
  refine r_field_pp rfl rfl rfl rfl rfl (by decide) ?_
  refine r_load_pp rfl rfl rfl rfl ?_
  refine r_call (c_Dup_int b.sizes (by have := hs.sizes; omega)) rfl rfl rfl rfl rfl ?_
  refine r_field_pp rfl rfl rfl rfl rfl (by decide) ?_
  refine r_load_pp rfl rfl rfl rfl ?_
  refine r_call (c_Dup_lot b.lots (by have := hs.lots; omega)) rfl rfl rfl rfl rfl ?_
  refine r_build rfl rfl (by exact List.cons_ne_nil _ _) rfl (by repeat (first | exact (Parts.nil : Parts _ _ [] _) | (show Parts _ _ ((_, _) :: _) _; apply Parts.one; (· exact (rfl : _ = Ty.sl _ _)); (· exact rfl)))) (by exact (rfl : _ = some [_, _])) ?_
  refine r_storeN rfl rfl (by decide) rfl rfl rfl rfl rfl rfl ?_
  refine r_nil ?_
  refine ⟨by kernel_rfl, ?_⟩
  refine i_then ?_
  refine t_ret ?_
  refine i_rcell rfl rfl rfl rfl (by decide) rfl rfl rfl ?_
  all_goals exact ret_eq rfl rfl rfl
end Go.Proofs.YtpnndljmhpepgaaGreat

namespace Go.T
open Go Go.RowKit
end Go.T

namespace Go.T
open Go Go.RowKit
section
variable {P : Program} {fr : Fr} {A : As} {c : Code} {Q : Exit → Act → World → Prop}
end
end Go.T

namespace Go.Proofs.YtpnndljmhpepgaaGreat
open Go Go.T
set_option maxHeartbeats 6000000
def takenU (b : Barn) (k : Int) (j : Nat) : Bool := ((b.lots.map (·.inn)).take j).any fun n => decide (n = k)
def freeR (b : Barn) : List Int := if checkB b = 0 then freeL b else []
def holdR (b : Barn) (i : Int) : List Int := if knownE b i = 0 then holdL b i else []
def mustR (b : Barn) : List Int := if checkB b = 0 then mustL b else []
def ringR (b : Barn) : List (List Int) := if checkB b = 0 then ringsL b else []
section
variable {b : Barn} {i k : Int} {rings : List (List Int)}
end
attribute [local irreducible] aimV knownE showV showsR freeL holdL mustL ringsL checkB checkR sameV takenU Barn.free Barn.hold
attribute [local irreducible] dInt dBool dSl dPp dPtr dAgg dTup dClo dAny dEx dStr dGd dCells dVec dVs dRow dOp nth Tri Into TOps Ctr bodyPost Exit.then Exit.inBlock Code.wp Code.wpIn dWhen dPa dPe dAo dArr dMp dPm dMap dCJ CtrG CtrI OpY keepPost iterPost bodyPostM roundQ
attribute [local irreducible] dRowJ dMs dFit
end Go.Proofs.YtpnndljmhpepgaaGreat

namespace Go.T
open Go Go.RowKit
section
variable {P : Program} {A : As} {fn : Func} {n : Nat} {w0 : World} {M0 : Tags}
end
end Go.T

namespace Go.Proofs.YtpnndljmhpepgaaGreat
open Go Go.T
set_option maxHeartbeats 4000000
def rturn (b : Barn) (p : List Int) (t : Tur) : List Int × Int :=
  if (offB t.lot 0 (b.lots.length - 1) || offB t.aim 0 (b.sizes.length - 1)) = true then ([], 1) else if t.aim ∈ p then ([], 5) else if nth b.sizes t.aim.toNat < (nth b.lots t.lot.toNat).sacks then ([], 9) else (p.set t.lot.toNat t.aim, 0)
section
variable {b cur : Barn} {p : List Int} {t : Tur}
theorem rturn_1 (h : (offB t.lot 0 (b.lots.length - 1) || offB t.aim 0 (b.sizes.length - 1)) = true) : rturn b p t = ([], 1) := if_pos h
theorem rturn_5 (h : (offB t.lot 0 (b.lots.length - 1) || offB t.aim 0 (b.sizes.length - 1)) = false) (h2 : t.aim ∈ p) : rturn b p t = ([], 5) := (if_neg (ng h)).trans (if_pos h2)
theorem rturn_9 (h : (offB t.lot 0 (b.lots.length - 1) || offB t.aim 0 (b.sizes.length - 1)) = false) (h2 : t.aim ∉ p) (h3 : nth b.sizes t.aim.toNat < (nth b.lots t.lot.toNat).sacks) : rturn b p t = ([], 9) := (if_neg (ng h)).trans ((if_neg h2).trans (if_pos h3))
theorem rturn_0 (h : (offB t.lot 0 (b.lots.length - 1) || offB t.aim 0 (b.sizes.length - 1)) = false) (h2 : t.aim ∉ p) (h3 : ¬ nth b.sizes t.aim.toNat < (nth b.lots t.lot.toNat).sacks) : rturn b p t = (p.set t.lot.toNat t.aim, 0) := (if_neg (ng h)).trans ((if_neg h2).trans (if_neg h3))
theorem off_rng (h : (offB t.lot 0 (b.lots.length - 1) || offB t.aim 0 (b.sizes.length - 1)) = false) : (0 ≤ t.lot ∧ t.lot < b.lots.length) ∧ 0 ≤ t.aim ∧ t.aim < b.sizes.length := by
  rw [Bool.or_eq_false_iff, offB_false, offB_false] at h; omega
structure Kept (b cur : Barn) : Prop where
  sizes : cur.sizes = b.sizes
  len : cur.lots.length = b.lots.length
  sacks : ∀ i, i < b.lots.length → (nth cur.lots i).sacks = (nth b.lots i).sacks
theorem kept_turn (h : Kept b cur) (h0 : (turnedB cur t).2 = 0) : Kept b (turnedB cur t).1 ∧ 0 ≤ t.lot ∧ t.lot < b.lots.length := by
  obtain ⟨h1, _, _, _, e⟩ := turned_err h0
  rw [h.len] at h1
  refine ⟨?_, h1⟩
  rw [e]
  refine ⟨h.sizes, by show (lotsTo cur t).length = _; unfold lotsTo; rw [List.length_set]; exact h.len, fun i hi => ?_⟩
  show (nth (lotsTo cur t) i).sacks = _
  unfold lotsTo
  rw [nthA_set (by rw [h.len]; exact hi)]
  by_cases c : t.lot.toNat = i
  · rw [if_pos c, ← h.sacks i hi, c]
  · rw [if_neg c]; exact h.sacks i hi
def afterR (b : Barn) (plan : List Tur) : List Int × List Tur × Int × Int :=
  if (plan.length : Int) > 6000 then ([], [], 0, 2) else if (doneGo b [] plan).2.2 = 0 then (innL (doneGo b [] plan).1, (doneGo b [] plan).2.1, costL (sackC b) plan, 0) else ([], [], 0, (doneGo b [] plan).2.2)
variable {plan : List Tur}
structure AIx (b : Barn) (plan : List Tur) (k : Nat) (cur : Barn) (back : List Tur) : Prop where
  ix : DIx b plan k cur back
  kept : Kept b cur
  sum : 0 ≤ sumUp b plan k ∧ sumUp b plan k ≤ 300 * k
variable {k : Nat} {back : List Tur}
theorem AIx.next (h : AIx b plan k cur back) (hr : b.Right) (hk : k < plan.length) (he : (turnedB cur (nth plan k)).2 = 0) : AIx b plan (k + 1) (turnedB cur (nth plan k)).1 (back ++ [⟨(nth plan k).lot, (nth cur.lots (nth plan k).lot.toNat).inn⟩]) := by
  obtain ⟨h1, h2⟩ := kept_turn h.kept he
  have h3 := sack_bound hr h2
  have h4 := h.sum
  refine ⟨h.ix.next hk he, h1, ?_⟩
  rw [sumUp_succ hk]; omega
theorem inn_map (b : Barn) : (b.lots.map fun x => x.inn) = innL b := rfl
def wrongI (b : Barn) (p : List Int) (i : Nat) : Bool := decide ((nth b.lots i).aim ≥ 0) && !decide ((nth b.lots i).aim = nth p i)
def madeL (b : Barn) (p : List Int) : Bool := !(List.range p.length).any (wrongI b p)
end
attribute [local irreducible] rturn turnedB sumUp innL
attribute [local irreducible] dInt dBool dSl dPp dPtr dAgg dTup dClo dAny dEx dStr dGd dCells dVec dVs dRow dOp nth Tri Into TOps Ctr bodyPost Exit.then Exit.inBlock Code.wp Code.wpIn dWhen dPa dPe dAo dArr dMp dPm dMap dCJ CtrG CtrI OpY keepPost iterPost bodyPostM roundQ
set_option maxRecDepth 100000 in
theorem c_rMade (b : Barn) (hs : b.Small) (p : List Int) (hp : p.length ≤ b.lots.length) : Ctr Tryz.prog 39 [barnT b, Ty.sl I64 p] (Ty.bool (madeL b p)) := by
  refine fn_intro Tryz.func39 rfl (by decide) Tryz.ntmps39 (by exact Nat.le_of_ble_eq_true rfl) fun w0 M0 => ?_
  have hs2 := hs.lots
  refine t_seq ?_
  refine t_region ?_
  refine r_box_agg rfl ?_
  refine asB rfl ?_
  refine r_nil ?_
  refine i_then ?_
  refine t_seq ?_
  refine t_seq ?_
  refine t_region ?_
  refine asI rfl ?_
  refine r_nil ?_
  refine i_then ?_
  refine t_block ?_
  refine t_loop (fun (k : {k : Nat // ∀ j, j < k → wrongI b p j = false}) => live [(1, Ty.sl I64 p), (2, Ty.pp (barnTys b)), (5, Ty.int .i64 (k.1 : Nat))] []) (fun k => p.length - k.1) (⟨0, fun i hi => absurd hi (Nat.not_lt_zero i)⟩) ?_ fun k => ?_
  · (refine Ent.mk' ?_ ?_ <;> (repeat' (first | exact allSub_zero | exact allTags_nil | refine allSub_succ' ?_ (Ty.sub_any _) | refine allSub_succ' ?_ (Ty.sub_refl _))))
  ·
    refine t_seq ?_
    refine t_seq ?_
    refine t_region ?_
    refine mvI rfl ?_
    refine mvS rfl ?_
    refine r_len rfl rfl rfl ?_
    refine r_bin rfl rfl rfl ?_
    refine r_nil ?_
    refine i_then ?_
    refine t_cond_dec rfl (fun hc1 => ?_) (fun hc1 => ?_)
    ·
      refine t_skip ?_
      refine i_then ?_
      refine t_seq ?_
      refine t_block ?_
      refine t_seq ?_
      refine t_draw mixed rfl ?_
      refine r_field_pp rfl rfl rfl rfl rfl (by decide) ?_
      refine r_load_pp rfl rfl rfl rfl ?_
      refine mvI rfl ?_
      refine r_index_slN rfl rfl rfl rfl rfl rfl (by omega) ?_
      refine r_field_pp rfl rfl rfl rfl rfl (by decide) ?_
      refine r_load_pp rfl rfl rfl rfl ?_
      refine r_bin rfl rfl rfl ?_
      refine mvB rfl ?_
      apply r_guard (s := 19) rfl rfl rfl
      · intro hg; apply opT_of; (refine r_field_pp rfl rfl rfl rfl rfl (by decide) ?_); refine r_nil ?_; exact rfl
      · exact rfl
      · exact rfl
      apply r_guard (s := 19) rfl rfl rfl
      · intro hg; apply opT_strip (s := 20) rfl (by (rw [hg]; rfl)); apply opT_of; (refine r_load_pp rfl rfl rfl rfl ?_); refine r_nil ?_; exact rfl
      · exact rfl
      · exact rfl
      apply r_guard (s := 19) rfl rfl rfl
      · intro hg; apply opT_of; (refine mvI rfl ?_); refine r_nil ?_; exact rfl
      · exact rfl
      · exact rfl
      apply r_guard (s := 19) rfl rfl rfl
      · intro hg; apply opT_strip (s := 21) rfl (by (rw [hg]; rfl)); apply opT_strip (s := 22) rfl (by (rw [hg]; rfl)); apply opT_of; (refine r_index_slN rfl rfl rfl rfl rfl rfl (by omega) ?_); refine r_nil ?_; exact rfl
      · exact rfl
      · exact rfl
      apply r_guard (s := 19) rfl rfl rfl
      · intro hg; apply opT_strip (s := 23) rfl (by (rw [hg]; rfl)); apply opT_of; (refine r_field_pp rfl rfl rfl rfl rfl (by decide) ?_); refine r_nil ?_; exact rfl
      · exact rfl
      · exact rfl
      apply r_guard (s := 19) rfl rfl rfl
      · intro hg; apply opT_strip (s := 24) rfl (by (rw [hg]; rfl)); apply opT_of; (refine r_load_pp rfl rfl rfl rfl ?_); refine r_nil ?_; exact rfl
      · exact rfl
      · exact rfl
      apply r_guard (s := 19) rfl rfl rfl
      · intro hg; apply opT_of; (refine mvS rfl ?_); refine r_nil ?_; exact rfl
      · exact rfl
      · exact rfl
      apply r_guard (s := 19) rfl rfl rfl
      · intro hg; apply opT_of; (refine mvI rfl ?_); refine r_nil ?_; exact rfl
      · exact rfl
      · exact rfl
      apply r_guard (s := 19) rfl rfl rfl
      · intro hg; apply opT_strip (s := 26) rfl (by (rw [hg]; rfl)); apply opT_strip (s := 27) rfl (by (rw [hg]; rfl)); apply opT_of; (refine r_index_slN rfl rfl rfl rfl rfl rfl (by omega) ?_); refine r_nil ?_; exact rfl
      · exact rfl
      · exact rfl
      apply r_guard (s := 19) rfl rfl rfl
      · intro hg; apply opT_strip (s := 28) rfl (by (rw [hg]; rfl)); apply opT_of; (refine r_load_pp rfl rfl rfl rfl ?_); refine r_nil ?_; exact rfl
      · exact rfl
      · exact rfl
      apply r_guard (s := 19) rfl rfl rfl
      · intro hg; apply opT_strip (s := 25) rfl (by (rw [hg]; rfl)); apply opT_strip (s := 29) rfl (by (rw [hg]; rfl)); apply opT_of; (refine r_bin rfl rfl rfl ?_); refine r_nil ?_; exact rfl
      · exact rfl
      · exact rfl
      refine r_and rfl rfl ?_
      refine r_nil ?_
      refine ⟨by kernel_rfl, ?_⟩
      refine i_then ?_
      refine t_cond rfl (fun hc2 => ?_) (fun hc2 => ?_)
      ·
        refine t_seq ?_
        refine t_region ?_
        refine asB rfl ?_
        refine r_nil ?_
        refine i_then ?_
        refine t_ret ?_
        refine i_block_ret ?_
        refine i_then_ret ?_
        refine i_then_ret ?_
        refine i_block_ret ?_
        refine i_then_ret ?_
        refine i_rp1 rfl rfl ?_
        all_goals skip
        all_goals exact ret_eq rfl rfl (congrArg Ty.bool (by unfold madeL; rw [rng_at (q := wrongI b p) (k := k.1) (by omega) hc2]; rfl))
      ·
        refine t_skip ?_
        refine i_block ?_
        refine i_then ?_
        refine t_region ?_
        refine mvI rfl ?_
        refine r_add rfl rfl (by omega) (by omega) ?_
        refine asI rfl ?_
        refine r_nil ?_
        refine i_round (⟨k.1 + 1, rng_ext k.2 hc2⟩) ?_ (by show p.length - (k.1 + 1) < p.length - k.1; omega)
        (refine Ent.mk' ?_ ?_ <;> (repeat' (first | exact allSub_zero | exact allTags_nil | refine allSub_succ' ?_ (Ty.sub_any _) | refine allSub_succ' ?_ (Ty.sub_refl _))))
        all_goals skip
    ·
      refine t_exit ?_
      refine i_then_exit ?_
      refine i_then_exit ?_
      refine i_block_exit rfl ?_
      refine i_then ?_
      refine t_seq ?_
      refine t_region ?_
      refine asB rfl ?_
      refine r_nil ?_
      refine i_then ?_
      refine t_ret ?_
      refine i_rp1 rfl rfl ?_
      all_goals skip
      all_goals exact ret_eq rfl rfl (congrArg Ty.bool (by unfold madeL; rw [rng_neg (q := wrongI b p) k.2 (by omega)]; rfl))
set_option maxRecDepth 100000 in
theorem c_plans (l : List Tur) (h : l.length ≤ 400000000) : Ctr Tryz.prog 43 [Ty.sl TurE l] (Ty.sl TurE l) := by
  refine fn_intro Tryz.func43 rfl (by decide) Tryz.ntmps43 (by exact Nat.le_of_ble_eq_true rfl) fun w0 M0 => ?_
  refine t_seq ?_
  refine t_region ?_
  refine asX rfl ?_
  refine r_nil ?_
  refine i_then ?_
  refine t_seq ?_
  refine t_region ?_
  refine asX rfl ?_
  refine r_nil ?_
  refine i_then ?_
  refine t_seq ?_
  refine t_seq ?_
  refine t_region ?_
  refine mvS rfl ?_
  refine r_len rfl rfl rfl ?_
  refine mvI rfl ?_
  refine r_nil ?_
  refine i_then ?_
  refine t_block ?_
  refine t_loop (fun (k : {k : Nat // k ≤ l.length}) => live [(3, Ty.row TurE 133 16 (l.take k.1)), (6, Ty.sl TurE l), (7, Ty.int .i64 l.length), (8, Ty.int .i64 (k.1 : Nat))] []) (fun k => l.length - k.1) (⟨0, by omega⟩) ?_ fun k => ?_
  · (refine Ent.mk' ?_ ?_ <;> (repeat' (first | exact allSub_zero | exact allTags_nil | refine allSub_succ' ?_ (Ty.sub_any _) | refine allSub_succ' ?_ (Ty.sub_refl _) | refine allSub_succ' ?_ Ty.nil_row)))
    all_goals trace_state
  ·
    have hk := k.2
    refine t_seq ?_
    refine t_region ?_
    refine r_bin rfl rfl rfl ?_
    refine r_nil ?_
    refine i_then ?_
    refine t_seq ?_
    refine t_cond_dec rfl (fun hc1 => ?_) (fun hc1 => ?_)
    ·
      refine t_skip ?_
      refine i_then ?_
      refine t_seq ?_
      refine t_block ?_
      refine t_seq ?_
      refine t_region ?_
      refine r_index_slN rfl rfl rfl rfl rfl rfl (by omega) ?_
      refine r_load_ppN rfl rfl rfl (by exact Nat.le_of_ble_eq_true rfl) ?_
      refine r_alloc rfl (by exact List.cons_ne_nil _ _) rfl ?_
      refine r_storeN rfl rfl (by decide) rfl rfl rfl rfl rfl rfl ?_
      refine r_nil ?_
      refine i_then ?_
      refine t_region ?_
      refine mvR rfl ?_
      refine r_load_ptrN rfl rfl (by decide) rfl rfl (by exact Nat.le_of_ble_eq_true rfl) ?_
      refine r_buildSlice (E := TurE) (xs := [nth l k.1]) rfl rfl rfl rfl rfl (by decide) (by decide) (by repeat (first | exact (Parts.nil : Parts _ _ [] _) | (show Parts _ _ ((_, _) :: _) _; apply Parts.agg; (· exact (rfl : _ = Ty.agg _))))) (by exact rfl) rfl ?_
      refine r_append rfl rfl (by decide) rfl rfl rfl rfl rfl rfl (by decide) (by (simp <;> omega)) (by (simp <;> omega)) ?_
      refine asR rfl ?_
      refine r_nil ?_
      refine i_block ?_
      refine i_then ?_
      refine t_region ?_
      refine r_add rfl rfl (by omega) (by omega) ?_
      refine mvI rfl ?_
      refine r_nil ?_
      refine i_round (⟨k.1 + 1, by omega⟩) ?_ (by show l.length - (k.1 + 1) < l.length - k.1; omega)
      (refine Ent.mk' ?_ ?_ <;> (repeat' (first | exact allSub_zero | exact allTags_nil | refine allSub_succ' ?_ (Ty.sub_any _) | refine allSub_succ' ?_ (Ty.sub_refl _) | refine allSub_succ' ?_ ?_)))
      all_goals exact Ty.sub_row (take_nth (by omega)).symm
    ·
      refine t_exit ?_
      refine i_then_exit ?_
      refine i_then_exit ?_
      refine i_block_exit rfl ?_
      refine i_then ?_
      refine t_seq ?_
      refine t_region ?_
      refine mvR rfl ?_
      refine asR rfl ?_
      refine r_nil ?_
      refine i_then ?_
      refine t_ret ?_
      refine i_rp1 rfl rfl ?_
      all_goals skip
      all_goals exact ret_row_eq (by decide) (List.take_of_length_le (by have := k.2; omega))
end Go.Proofs.YtpnndljmhpepgaaGreat

namespace Go.Proofs.YtpnndljmhpepgaaGreat
open Go Go.T
variable {b : Barn}
theorem rt_cases {p : List Int} (hp : p.length = b.lots.length) (t : Tur) : (noT b p t = false ∧ rturn b p t = (p.set t.lot.toNat t.aim, 0)) ∨ (noT b p t = true ∧ (rturn b p t).2 ≠ 0) := by
  cases h1 : (offB t.lot 0 (b.lots.length - 1) || offB t.aim 0 (b.sizes.length - 1)) with
  | true =>
    refine .inr ⟨?_, by rw [rturn_1 h1]; decide⟩
    cases hn : noT b p t with
    | true => rfl
    | false =>
      obtain ⟨a1, a2, _, _⟩ := noT_false.1 hn
      rw [Bool.or_eq_true] at h1
      have e1 : offB t.lot 0 (b.lots.length - 1) = false := offB_false.2 (by omega)
      have e2 : offB t.aim 0 (b.sizes.length - 1) = false := offB_false.2 (by omega)
      rw [e1, e2] at h1; rcases h1 with h | h <;> cases h
  | false =>
    have hr := off_rng h1
    by_cases h2 : t.aim ∈ p
    · refine .inr ⟨?_, by rw [rturn_5 h1 h2]; decide⟩
      cases hn : noT b p t with
      | true => rfl
      | false => exact absurd h2 (noT_false.1 hn).2.2.1
    · by_cases h3 : nth b.sizes t.aim.toNat < (nth b.lots t.lot.toNat).sacks
      · refine .inr ⟨?_, by rw [rturn_9 h1 h2 h3]; decide⟩
        cases hn : noT b p t with
        | true => rfl
        | false => have := (noT_false.1 hn).2.2.2; omega
      · exact .inl ⟨noT_false.2 ⟨by omega, hr.2, h2, by omega⟩, rturn_0 h1 h2 h3⟩
theorem lawGo_append : ∀ (l : List Tur) (p : List Int) (l' : List Tur), lawGo b p (l ++ l') = (lawGo b p l).bind fun q => lawGo b q l'
  | [], p, l' => rfl
  | t :: l, p, l' => by
    show (if noT b p t = true then none else lawGo b (p.set t.lot.toNat t.aim) (l ++ l')) = Option.bind (if noT b p t = true then none else lawGo b (p.set t.lot.toNat t.aim) l) _
    by_cases h : noT b p t = true
    · rw [if_pos h, if_pos h]; rfl
    · rw [if_neg h, if_neg h, lawGo_append l]
theorem lawGo_snoc {l : List Tur} {p q : List Int} {t : Tur} (h : lawGo b p l = some q) (hn : noT b q t = false) : lawGo b p (l ++ [t]) = some (q.set t.lot.toNat t.aim) := by
  rw [lawGo_append, h]
  show (if noT b q t = true then none else some (q.set t.lot.toNat t.aim)) = _
  rw [if_neg (by rw [hn]; decide)]
theorem lawGo_inv {l : List Tur} {p r : List Int} {t : Tur} (h : lawGo b p (l ++ [t]) = some r) : ∃ q, lawGo b p l = some q ∧ noT b q t = false ∧ r = q.set t.lot.toNat t.aim := by
  rw [lawGo_append] at h
  cases hq : lawGo b p l with
  | none => rw [hq] at h; cases h
  | some q =>
    rw [hq] at h
    have h : (if noT b q t = true then none else some (q.set t.lot.toNat t.aim)) = some r := h
    cases hn : noT b q t with
    | true => rw [hn, if_pos rfl] at h; cases h
    | false => rw [hn, if_neg (by decide)] at h; injection h with h; exact ⟨q, rfl, hn, h.symm⟩
structure RState where
  all : List (List Int)
  turns : List Int
  sacks : List Int
  deriving Inhabited
structure RS (b : Barn) (x : RState) : Prop where
  lt : x.turns.length = x.all.length
  ls : x.sacks.length = x.all.length
  pos : 0 < x.all.length
  start : nth x.all 0 = innL b
  nodup : x.all.Nodup
  len : ∀ p ∈ x.all, p.length = b.lots.length
  bins : ∀ p ∈ x.all, ∀ k ∈ p, 0 ≤ k ∧ k < 7
  walk : ∀ i, i < x.all.length → (∃ l, lawGo b (innL b) l = some (nth x.all i) ∧ (l.length : Int) = nth x.turns i) ∧ ∃ l, lawGo b (innL b) l = some (nth x.all i) ∧ costL (sackC b) l = nth x.sacks i
  cap : ∀ i, i < x.all.length → (0 ≤ nth x.turns i ∧ nth x.turns i ≤ i) ∧ 0 ≤ nth x.sacks i ∧ nth x.sacks i ≤ 300 * i
theorem nthA_snoc {α : Type} [Inhabited α] {l : List α} {x : α} {j : Nat} (hj : j < l.length + 1) : nth (l ++ [x]) j = if j = l.length then x else nth l j := by
  unfold nth
  by_cases e : j = l.length
  · subst e; rw [if_pos rfl, List.getD_eq_getElem?_getD, List.getElem?_append_right (by omega)]; simp
  · rw [if_neg e, List.getD_eq_getElem?_getD, List.getElem?_append_left (by omega), ← List.getD_eq_getElem?_getD]
variable {x : RState} {i : Nat} {t : Tur}
theorem RS.turn (h : RS b x) (hr : b.Right) (hi : i < x.all.length) (ho : (rturn b (nth x.all i) t).2 = 0) : noT b (nth x.all i) t = false ∧ (rturn b (nth x.all i) t).1 = (nth x.all i).set t.lot.toNat t.aim ∧ (0 ≤ t.lot ∧ t.lot < b.lots.length) ∧ (0 ≤ t.aim ∧ t.aim < b.sizes.length) ∧ 1 ≤ sackC b t ∧ sackC b t ≤ 300 := by
  have hl := h.len _ (nth_mem hi)
  rcases rt_cases hl t with ⟨h1, h2⟩ | ⟨_, h2⟩
  · obtain ⟨a1, a2, _, _⟩ := noT_false.1 h1
    have h3 : 0 ≤ t.lot ∧ t.lot < b.lots.length := by omega
    exact ⟨h1, by rw [h2], h3, a2, sack_bound hr h3⟩
  · exact absurd ho h2
theorem RS.add (h : RS b x) (hr : b.Right) (hi : i < x.all.length) (ho : (rturn b (nth x.all i) t).2 = 0) (hn : (rturn b (nth x.all i) t).1 ∉ x.all) : RS b ⟨x.all ++ [(rturn b (nth x.all i) t).1], x.turns ++ [nth x.turns i + 1], x.sacks ++ [nth x.sacks i + sackC b t]⟩ := by
  obtain ⟨h1, h2, h3, h4, h5⟩ := h.turn hr hi ho
  have hb := hr.bins
  have hp := h.pos
  refine ⟨by simp [h.lt], by simp [h.ls], by simp, ?_, ?_, fun p hp => ?_, fun p hp k hk => ?_, fun j hj => ?_, fun j hj => ?_⟩
  · show nth (x.all ++ [(rturn b (nth x.all i) t).1]) 0 = _
    rw [nthA_snoc (by omega), if_neg (by omega)]; exact h.start
  · rw [List.nodup_append]
    exact ⟨h.nodup, by simp, fun p hp q hq e => hn (by rw [List.mem_singleton.1 hq] at e; rw [← e]; exact hp)⟩
  · rcases List.mem_append.1 hp with hp | hp
    · exact h.len p hp
    · rw [List.mem_singleton.1 hp, h2, List.length_set]; exact h.len _ (nth_mem hi)
  · rcases List.mem_append.1 hp with hp | hp
    · exact h.bins p hp k hk
    · rw [List.mem_singleton.1 hp, h2] at hk
      rcases List.mem_or_eq_of_mem_set hk with hk | hk
      · exact h.bins _ (nth_mem hi) k hk
      · omega
  · have hj : j < x.all.length + 1 := by simpa using hj
    show (∃ l, lawGo b (innL b) l = some (nth (x.all ++ [(rturn b (nth x.all i) t).1]) j) ∧ (l.length : Int) = nth (x.turns ++ [nth x.turns i + 1]) j) ∧ ∃ l, lawGo b (innL b) l = some (nth (x.all ++ [(rturn b (nth x.all i) t).1]) j) ∧ costL (sackC b) l = nth (x.sacks ++ [nth x.sacks i + sackC b t]) j
    rw [nthA_snoc hj, nthA_snoc (by rw [h.lt]; exact hj), nthA_snoc (by rw [h.ls]; exact hj), h.lt, h.ls]
    by_cases e : j = x.all.length
    · rw [if_pos e, if_pos e, if_pos e, h2]
      obtain ⟨⟨l, a1, a2⟩, l', a3, a4⟩ := h.walk i hi
      exact ⟨⟨l ++ [t], lawGo_snoc a1 h1, by rw [List.length_append, List.length_singleton]; omega⟩, l' ++ [t], lawGo_snoc a3 h1, by rw [costL_append, costL_one, a4]⟩
    · rw [if_neg e, if_neg e, if_neg e]; exact h.walk j (by omega)
  · have hj : j < x.all.length + 1 := by simpa using hj
    show (0 ≤ nth (x.turns ++ [nth x.turns i + 1]) j ∧ nth (x.turns ++ [nth x.turns i + 1]) j ≤ j) ∧ 0 ≤ nth (x.sacks ++ [nth x.sacks i + sackC b t]) j ∧ nth (x.sacks ++ [nth x.sacks i + sackC b t]) j ≤ 300 * j
    rw [nthA_snoc (by rw [h.lt]; exact hj), nthA_snoc (by rw [h.ls]; exact hj), h.lt, h.ls]
    by_cases e : j = x.all.length
    · rw [if_pos e, if_pos e]
      have := h.cap i hi
      omega
    · rw [if_neg e, if_neg e]; exact h.cap j (by omega)
theorem RS.few (h : RS b x) (hr : b.Right) : x.all.length ≤ 117649 := by
  have h6 := hr.lots
  have h1 := nodup_sub h.nodup (L := allL b.lots.length) fun p hp => mem_allL (h.len p hp) (h.bins p hp)
  rw [allL_len] at h1
  exact Nat.le_trans h1 (Nat.le_trans (Nat.pow_le_pow_right (by decide) h6) (by decide))
theorem RS.sums (h : RS b x) : 0 ≤ x.turns.sum ∧ 0 ≤ x.sacks.sum := by
  constructor
  · refine sum_nonneg' _ fun y hy => ?_
    obtain ⟨j, hj, rfl⟩ := mem_nth hy
    exact (h.cap j (by rw [← h.lt]; exact hj)).1.1
  · refine sum_nonneg' _ fun y hy => ?_
    obtain ⟨j, hj, rfl⟩ := mem_nth hy
    exact (h.cap j (by rw [← h.ls]; exact hj)).2.1
def muQ (x : RState) : Nat := (117649 - x.all.length) * 40000000 + (x.turns.sum + x.sacks.sum).toNat
theorem RS.add_mu (h : RS b x) (hr : b.Right) (hi : i < x.all.length) (ho : (rturn b (nth x.all i) t).2 = 0) (hn : (rturn b (nth x.all i) t).1 ∉ x.all) : muQ ⟨x.all ++ [(rturn b (nth x.all i) t).1], x.turns ++ [nth x.turns i + 1], x.sacks ++ [nth x.sacks i + sackC b t]⟩ < muQ x := by
  have h1 := (h.add hr hi ho hn).few hr
  have h2 := h.sums
  have h3 := h.cap i hi
  have h4 := (h.turn hr hi ho).2.2.2.2
  have h1 : x.all.length + 1 ≤ 117649 := by simpa using h1
  unfold muQ
  simp only [List.length_append, List.length_singleton, List.sum_append, List.sum_cons, List.sum_nil]
  omega
def ClosedAt (b : Barn) (x : RState) (i : Nat) (t : Tur) : Prop := (rturn b (nth x.all i) t).2 = 0 → ∃ a, a < x.all.length ∧ nth x.all a = (rturn b (nth x.all i) t).1 ∧ nth x.turns a ≤ nth x.turns i + 1 ∧ nth x.sacks a ≤ nth x.sacks i + sackC b t
def SeenT (b : Barn) (i lot to j : Nat) (t : Tur) : Prop := (0 ≤ t.lot ∧ t.lot < b.lots.length) ∧ (0 ≤ t.aim ∧ t.aim < b.sizes.length) ∧ (j < i ∨ (j = i ∧ (t.lot < lot ∨ (t.lot = lot ∧ t.aim < to))))
structure PassI (b : Barn) (x0 x : RState) (ch : Bool) (i lot to : Nat) : Prop where
  rs : RS b x
  less : ch = true → muQ x < muQ x0
  same : ch = false → x = x0
  ok : ch = false → ∀ j t, j < x0.all.length → SeenT b i lot to j t → ClosedAt b x0 j t
variable {x0 : RState} {ch : Bool} {lot to : Nat}
theorem PassI.skip (h : PassI b x0 x ch i lot to) (hn : ¬ (rturn b (nth x.all i) ⟨lot, to⟩).2 = 0) : PassI b x0 x ch i lot (to + 1) := by
  refine ⟨h.rs, h.less, h.same, fun hc j t hj ⟨s1, s2, s3⟩ => ?_⟩
  by_cases c : j = i ∧ t.lot = lot ∧ t.aim = to
  · obtain ⟨c1, c2, c3⟩ := c
    have et : t = ⟨lot, to⟩ := by cases t; simp only [Tur.mk.injEq] at *; exact ⟨c2, c3⟩
    have ex := h.same hc
    rw [et, c1, ← ex]
    exact fun h0 => absurd h0 hn
  · exact h.ok hc j t hj ⟨s1, s2, by omega⟩
theorem PassI.add (h : PassI b x0 x ch i lot to) (hr : b.Right) (hi : i < x.all.length) (ho : (rturn b (nth x.all i) ⟨lot, to⟩).2 = 0) (hn : (rturn b (nth x.all i) ⟨lot, to⟩).1 ∉ x.all) : PassI b x0 ⟨x.all ++ [(rturn b (nth x.all i) ⟨lot, to⟩).1], x.turns ++ [nth x.turns i + 1], x.sacks ++ [nth x.sacks i + sackC b ⟨lot, to⟩]⟩ true i lot (to + 1) := by
  have h1 := h.rs.add_mu hr hi ho hn
  refine ⟨h.rs.add hr hi ho hn, fun _ => ?_, (fun h => by cases h), fun h => by cases h⟩
  cases hc : ch with
  | true => have := h.less hc; omega
  | false => rw [h.same hc] at h1 ⊢; exact h1
theorem PassI.lots (h : PassI b x0 x ch i lot to) (hto : b.sizes.length ≤ to) : PassI b x0 x ch i (lot + 1) 0 :=
  ⟨h.rs, h.less, h.same, fun hc j t hj ⟨s1, s2, s3⟩ => h.ok hc j t hj ⟨s1, s2, by omega⟩⟩
theorem PassI.next (h : PassI b x0 x ch i lot to) (hl : b.lots.length ≤ lot) : PassI b x0 x ch (i + 1) 0 0 :=
  ⟨h.rs, h.less, h.same, fun hc j t hj ⟨s1, s2, s3⟩ => h.ok hc j t hj ⟨s1, s2, by omega⟩⟩
structure RDone (b : Barn) (x : RState) : Prop where
  rs : RS b x
  closed : ∀ j t, j < x.all.length → ClosedAt b x j t
theorem PassI.done (h : PassI b x0 x false i 0 0) (hr : b.Right) (hi : x.all.length ≤ i) : RDone b x := by
  have e := h.same rfl
  refine ⟨h.rs, fun j t hj ho => ?_⟩
  obtain ⟨_, _, h3, h4, _⟩ := h.rs.turn hr hj ho
  have := h.ok rfl j t (by rw [← e]; exact hj) ⟨h3, h4, .inl (by omega)⟩
  rw [← e] at this
  exact this ho
theorem RDone.least (h : RDone b x) : ∀ (l : List Tur) (p : List Int), lawGo b (innL b) l = some p → ∃ a, a < x.all.length ∧ nth x.all a = p ∧ nth x.turns a ≤ l.length ∧ nth x.sacks a ≤ costL (sackC b) l := by
  refine snoc_ind (fun p hp => ?_) fun l t ih p hp => ?_
  · injection hp with hp
    obtain ⟨⟨m, a1, a2⟩, m', a3, a4⟩ := h.rs.walk 0 h.rs.pos
    have := h.rs.cap 0 h.rs.pos
    exact ⟨0, h.rs.pos, h.rs.start.trans hp, by rw [List.length_nil]; omega, by rw [costL_nil]; omega⟩
  · obtain ⟨q, h1, h2, rfl⟩ := lawGo_inv hp
    obtain ⟨a, a1, a2, a3, a4⟩ := ih q h1
    have hl := h.rs.len _ (nth_mem a1)
    rw [← a2] at h2 ⊢
    rcases rt_cases hl t with ⟨_, e⟩ | ⟨e, _⟩
    · obtain ⟨c, c1, c2, c3, c4⟩ := h.closed a t a1 (by rw [e])
      refine ⟨c, c1, by rw [c2, e], ?_, ?_⟩
      · rw [List.length_append, List.length_singleton]; omega
      · rw [costL_append, costL_one]; omega
    · rw [h2] at e; cases e
theorem made_law (hr : b.Right) {p : List Int} (hp : p.length = b.lots.length) : madeL b p = (List.range p.length).all (okI b p) := by
  unfold madeL
  rw [Bool.eq_iff_iff, Bool.not_eq_true', List.any_eq_false, List.all_eq_true]
  have key : ∀ j, j ∈ List.range p.length → (¬ wrongI b p j = true ↔ okI b p j = true) := fun j hj => by
    have hj := List.mem_range.1 hj
    have ha := hr.aim _ (nth_mem (xs := b.lots) (k := j) (by omega))
    unfold wrongI okI
    simp only [Bool.and_eq_true, Bool.not_eq_true', decide_eq_true_eq, decide_eq_false_iff_not, Bool.or_eq_true]
    constructor
    · intro h
      by_cases c : (nth b.lots j).aim = -1
      · exact .inl c
      · exact .inr (Classical.byContradiction fun e => h ⟨by omega, e⟩)
    · rintro (e | e) ⟨h1, h2⟩
      · omega
      · exact h2 e
  exact ⟨fun h j hj => (key j hj).1 (h j hj), fun h j hj => (key j hj).2 (h j hj)⟩
theorem law_len {l : List Tur} : ∀ {p q : List Int}, lawGo b p l = some q → q.length = p.length := by
  induction l with
  | nil => intro p q h; injection h with h; rw [h]
  | cons t l ih =>
    intro p q h
    have h : (if noT b p t = true then none else lawGo b (p.set t.lot.toNat t.aim) l) = some q := h
    by_cases c : noT b p t = true
    · rw [if_pos c] at h; cases h
    · rw [if_neg c] at h; rw [ih h, List.length_set]
theorem inn_len (b : Barn) : (innL b).length = b.lots.length := by unfold innL; rw [List.length_map]
theorem right_law (hr : b.Right) {l : List Tur} {p : List Int} (h : lawGo b (innL b) l = some p) : rightV b l = madeL b p := by
  have hp : p.length = b.lots.length := (law_len h).trans (inn_len b)
  have e : lawV b l = (p, true) := by unfold lawV; rw [h]
  unfold rightV isUp
  rw [e, made_law hr hp]; rfl
theorem right_some {l : List Tur} (h : rightV b l = true) : ∃ p, lawGo b (innL b) l = some p := by
  have h1 := rightV_ok h
  unfold lawV at h1
  cases hp : lawGo b (innL b) l with
  | none => rw [hp] at h1; cases h1
  | some p => exact ⟨p, rfl⟩
structure MIx (b : Barn) (x : RState) (v : List Int) (k : Nat) (n : Int) : Prop where
  le : k ≤ x.all.length
  val : (n = -1 ∧ ∀ j, j < k → madeL b (nth x.all j) = false) ∨ (0 ≤ n ∧ (∃ j, j < k ∧ madeL b (nth x.all j) = true ∧ n = nth v j) ∧ ∀ j, j < k → madeL b (nth x.all j) = true → n ≤ nth v j)
variable {v : List Int} {k : Nat} {n : Int}
theorem MIx.yes (h : MIx b x v k n) (hk : k < x.all.length) (hv : 0 ≤ nth v k) (hc : (madeL b (nth x.all k) && (decide (n < 0) || decide (nth v k < n))) = true) : MIx b x v (k + 1) (nth v k) := by
  simp only [Bool.and_eq_true, Bool.or_eq_true, decide_eq_true_eq] at hc
  refine ⟨hk, .inr ⟨hv, ⟨k, by omega, hc.1, rfl⟩, fun j hj hm => ?_⟩⟩
  by_cases e : j = k
  · rw [e]; exact Int.le_refl _
  · rcases h.val with ⟨_, h2⟩ | ⟨h1, _, h3⟩
    · rw [h2 j (by omega)] at hm; cases hm
    · have := h3 j (by omega) hm
      omega
theorem MIx.no (h : MIx b x v k n) (hk : k < x.all.length) (hc : (madeL b (nth x.all k) && (decide (n < 0) || decide (nth v k < n))) = false) : MIx b x v (k + 1) n := by
  refine ⟨hk, ?_⟩
  rcases h.val with ⟨h1, h2⟩ | ⟨h1, ⟨j0, h2, h3, h4⟩, h5⟩
  · refine .inl ⟨h1, fun j hj => ?_⟩
    by_cases e : j = k
    · rw [e]
      cases hm : madeL b (nth x.all k) with
      | false => rfl
      | true => rw [hm, h1] at hc; cases hc
    · exact h2 j (by omega)
  · refine .inr ⟨h1, ⟨j0, by omega, h3, h4⟩, fun j hj hm => ?_⟩
    by_cases e : j = k
    · rw [e] at hm ⊢
      rw [hm, Bool.true_and, Bool.or_eq_false_iff, decide_eq_false_iff_not, decide_eq_false_iff_not] at hc
      omega
    · exact h5 j (by omega) hm
def bestV (e n : Int) : Int := if e = 0 then n else -1
theorem RDone.turns (h : RDone b x) (hr : b.Right) (hm : MIx b x x.turns x.all.length n) : n = bestV (planE b oneC) (costR b oneC) := by
  have hc := cheap hr (one_ok b)
  unfold bestV
  rcases hc.err with e | e
  · rw [if_pos e]
    obtain ⟨c1, c2, c3⟩ := hc.yes e
    rw [cost_one] at c2
    obtain ⟨p, hp⟩ := right_some c1
    obtain ⟨a, a1, a2, a3, _⟩ := h.least _ _ hp
    have hmade : madeL b (nth x.all a) = true := by rw [a2, ← right_law hr hp]; exact c1
    rcases hm.val with ⟨_, m2⟩ | ⟨_, ⟨j, m2, m3, m4⟩, m5⟩
    · rw [m2 a a1] at hmade; cases hmade
    · obtain ⟨⟨l, w1, w2⟩, _⟩ := h.rs.walk j m2
      have hr1 : rightV b l = true := by rw [right_law hr w1]; exact m3
      have k1 := c3 l hr1
      have k2 := m5 a a1 hmade
      rw [cost_one] at k1
      omega
  · rw [if_neg (by rw [e]; decide)]
    rcases hm.val with ⟨m1, _⟩ | ⟨_, ⟨j, m2, m3, _⟩, _⟩
    · exact m1
    · obtain ⟨⟨l, w1, _⟩, _⟩ := h.rs.walk j m2
      have := (hc.no e).2.2 l
      rw [right_law hr w1, m3] at this; cases this
theorem RDone.sacks (h : RDone b x) (hr : b.Right) (hm : MIx b x x.sacks x.all.length n) : n = bestV (planE b oneC) (costR b (sackC b)) := by
  have hc := cheap hr (sack_ok hr)
  have he := cheap_same hc (cheap hr (one_ok b))
  rw [he] at hc
  unfold bestV
  rcases hc.err with e | e
  · rw [if_pos e]
    obtain ⟨c1, c2, c3⟩ := hc.yes e
    obtain ⟨p, hp⟩ := right_some c1
    obtain ⟨a, a1, a2, _, a3⟩ := h.least _ _ hp
    have hmade : madeL b (nth x.all a) = true := by rw [a2, ← right_law hr hp]; exact c1
    rcases hm.val with ⟨_, m2⟩ | ⟨_, ⟨j, m2, m3, m4⟩, m5⟩
    · rw [m2 a a1] at hmade; cases hmade
    · obtain ⟨_, l, w1, w2⟩ := h.rs.walk j m2
      have hr1 : rightV b l = true := by rw [right_law hr w1]; exact m3
      have k1 := c3 l hr1
      have k2 := m5 a a1 hmade
      omega
  · rw [if_neg (by rw [e]; decide)]
    rcases hm.val with ⟨m1, _⟩ | ⟨_, ⟨j, m2, m3, _⟩, _⟩
    · exact m1
    · obtain ⟨⟨l, w1, _⟩, _⟩ := h.rs.walk j m2
      have := (hc.no e).2.2 l
      rw [right_law hr w1, m3] at this; cases this
end Go.Proofs.YtpnndljmhpepgaaGreat

namespace Go.Proofs.YtpnndljmhpepgaaGreat
open Go Go.T
def manyUp (s : Nat) : Nat → Int
  | 0 => 1
  | k + 1 => manyUp s k * ((s : Int) - (k : Int))
theorem many_zero {s : Nat} : ∀ k, s < k → manyUp s k = 0
  | 0, h => by omega
  | k + 1, h => by
    show manyUp s k * ((s : Int) - (k : Int)) = 0
    by_cases e : s = k
    · subst e; rw [Int.sub_self, Int.mul_zero]
    · rw [many_zero k (by omega), Int.zero_mul]
def rangeI (s : Nat) : List Int := (List.range s).map fun n : Nat => (n : Int)
theorem mem_rangeI {s : Nat} {x : Int} : x ∈ rangeI s ↔ 0 ≤ x ∧ x < s := by
  unfold rangeI
  rw [List.mem_map]
  constructor
  · rintro ⟨n, hn, rfl⟩; have := List.mem_range.1 hn; omega
  · rintro ⟨h1, h2⟩; exact ⟨x.toNat, List.mem_range.2 (by omega), by omega⟩
theorem rangeI_len (s : Nat) : (rangeI s).length = s := by unfold rangeI; rw [List.length_map, List.length_range]
theorem rangeI_nodup (s : Nat) : (rangeI s).Nodup := by
  unfold rangeI
  rw [List.nodup_iff_pairwise_ne, List.pairwise_map]
  exact (List.nodup_iff_pairwise_ne.1 List.nodup_range).imp fun h e => h (by omega)
def injL (s : Nat) : Nat → List (List Int)
  | 0 => [[]]
  | k + 1 => (injL s k).flatMap fun q => ((rangeI s).filter fun x => decide (x ∉ q)).map fun x => q ++ [x]
theorem inj_mem {s : Nat} : ∀ k (p : List Int), p ∈ injL s k ↔ p.length = k ∧ p.Nodup ∧ ∀ x ∈ p, 0 ≤ x ∧ x < s
  | 0, p => by
    show p ∈ [[]] ↔ _
    rw [List.mem_singleton]
    constructor
    · rintro rfl; exact ⟨rfl, List.nodup_nil, fun _ h => by cases h⟩
    · rintro ⟨h, _⟩; exact List.length_eq_zero_iff.1 h
  | k + 1, p => by
    show p ∈ (injL s k).flatMap _ ↔ _
    rw [List.mem_flatMap]
    constructor
    · rintro ⟨q, hq, hp⟩
      obtain ⟨x, hx, rfl⟩ := List.mem_map.1 hp
      obtain ⟨h1, h2, h3⟩ := (inj_mem k q).1 hq
      rw [List.mem_filter, mem_rangeI, decide_eq_true_eq] at hx
      refine ⟨by rw [List.length_append, List.length_singleton, h1], ?_, fun y hy => ?_⟩
      · rw [List.nodup_append]
        exact ⟨h2, by simp, fun y hy z hz e => hx.2 (by rw [List.mem_singleton.1 hz] at e; rw [← e]; exact hy)⟩
      · rcases List.mem_append.1 hy with hy | hy
        · exact h3 y hy
        · rw [List.mem_singleton.1 hy]; exact hx.1
    · rintro ⟨h1, h2, h3⟩
      have hp : p.dropLast ++ [p.getLast (by rintro rfl; cases h1)] = p := List.dropLast_concat_getLast _
      rw [← hp] at h2 h3
      rw [List.nodup_append] at h2
      refine ⟨p.dropLast, (inj_mem k _).2 ⟨by rw [List.length_dropLast, h1]; rfl, h2.1, fun x hx => h3 x (List.mem_append_left _ hx)⟩, ?_⟩
      rw [List.mem_map]
      refine ⟨p.getLast (by rintro rfl; cases h1), ?_, hp⟩
      rw [List.mem_filter, mem_rangeI, decide_eq_true_eq]
      exact ⟨h3 _ (List.mem_append_right _ (List.mem_singleton.2 rfl)), fun hm => h2.2.2 _ hm _ (List.mem_singleton.2 rfl) rfl⟩
theorem free_len {s k : Nat} {q : List Int} (h : q ∈ injL s k) : ((rangeI s).filter fun x => decide (x ∉ q)).length + k ≤ s := by
  obtain ⟨h1, h2, h3⟩ := (inj_mem k q).1 h
  have e : (((rangeI s).filter fun x => decide (x ∉ q)) ++ q).length ≤ (rangeI s).length := by
    refine nodup_sub ?_ fun x hx => ?_
    · rw [List.nodup_append]
      refine ⟨(rangeI_nodup s).filter _, h2, fun x hx y hy e => ?_⟩
      rw [List.mem_filter, decide_eq_true_eq] at hx
      exact hx.2 (e ▸ hy)
    · rcases List.mem_append.1 hx with hx | hx
      · exact (List.mem_filter.1 hx).1
      · exact mem_rangeI.2 (h3 x hx)
  rw [List.length_append, rangeI_len, h1] at e
  exact e
theorem flatMap_len {α β : Type} {f : α → List β} {d : Nat} : ∀ {l : List α}, (∀ x ∈ l, (f x).length ≤ d) → (l.flatMap f).length ≤ l.length * d
  | [], _ => by simp
  | x :: l, h => by
    rw [List.flatMap_cons, List.length_append, List.length_cons, Nat.succ_mul]
    have h1 := h x List.mem_cons_self
    have h2 := flatMap_len (f := f) (d := d) (l := l) fun y hy => h y (List.mem_cons_of_mem _ hy)
    omega
theorem inj_len {s : Nat} : ∀ k, ((injL s k).length : Int) ≤ manyUp s k
  | 0 => by show ((1 : Nat) : Int) ≤ 1; decide
  | k + 1 => by
    have h1 := inj_len (s := s) k
    show (((injL s k).flatMap _).length : Int) ≤ manyUp s k * ((s : Int) - (k : Int))
    have h2 : ((injL s k).flatMap fun q => ((rangeI s).filter fun x => decide (x ∉ q)).map fun x => q ++ [x]).length ≤ (injL s k).length * (s - k) := flatMap_len fun q hq => by
      rw [List.length_map]
      have := free_len hq
      omega
    by_cases c : s < k
    · rw [many_zero k c, Int.zero_mul]
      rw [many_zero k c] at h1
      have : (injL s k).length = 0 := by omega
      rw [this, Nat.zero_mul] at h2
      omega
    · have e : (((injL s k).length * (s - k) : Nat) : Int) = ((injL s k).length : Int) * ((s : Int) - (k : Int)) := by
        rw [Int.natCast_mul, Int.natCast_sub (by omega)]
      have h3 : ((injL s k).length : Int) * ((s : Int) - (k : Int)) ≤ manyUp s k * ((s : Int) - (k : Int)) := Int.mul_le_mul_of_nonneg_right h1 (by omega)
      omega
def manyV (b : Barn) : Int := manyUp b.sizes.length b.lots.length
variable {b : Barn}
theorem nodup_set {p : List Int} {i : Nat} {a : Int} (h : p.Nodup) (ha : a ∉ p) : (p.set i a).Nodup := by
  rw [List.nodup_iff_pairwise_ne, List.pairwise_iff_getElem] at h ⊢
  intro x y hx hy hxy e
  rw [List.length_set] at hx hy
  rw [List.getElem_set, List.getElem_set] at e
  split at e
  · split at e
    · omega
    · exact ha (e ▸ List.getElem_mem _)
  · split at e
    · exact ha (e ▸ List.getElem_mem _)
    · exact h x y hx hy hxy e
theorem law_inj (hr : b.Right) : ∀ (l : List Tur) (p : List Int), lawGo b (innL b) l = some p → p ∈ injL b.sizes.length b.lots.length := by
  refine snoc_ind (fun p hp => ?_) fun l t ih p hp => ?_
  · injection hp with hp
    rw [← hp, inj_mem]
    refine ⟨inn_len b, inn_nodup hr, fun x hx => ?_⟩
    obtain ⟨y, hy, rfl⟩ := List.mem_map.1 hx
    exact hr.inn y hy
  · obtain ⟨q, h1, h2, rfl⟩ := lawGo_inv hp
    obtain ⟨g1, g2, g3⟩ := (inj_mem _ _).1 (ih q h1)
    obtain ⟨_, a2, a3, _⟩ := noT_false.1 h2
    rw [inj_mem]
    refine ⟨by rw [List.length_set]; exact g1, nodup_set g2 a3, fun x hx => ?_⟩
    rcases List.mem_or_eq_of_mem_set hx with hx | hx
    · exact g3 x hx
    · rw [hx]; exact a2
theorem law_take {l : List Tur} {p : List Int} (h : lawGo b (innL b) l = some p) (k : Nat) : ∃ q, lawGo b (innL b) (l.take k) = some q ∧ lawGo b q (l.drop k) = some p := by
  rw [← List.take_append_drop k l, lawGo_append] at h
  cases hq : lawGo b (innL b) (l.take k) with
  | none => rw [hq] at h; cases h
  | some q => rw [hq] at h; exact ⟨q, rfl, h⟩
theorem cheap_len (hr : b.Right) {c : Tur → Int} {e : Int} {l : List Tur} {n : Int} (hc : Cheap b c e l n) (he : e = 0) (hpos : ∀ (l : List Tur) (p q : List Int), p.length = b.lots.length → lawGo b p l = some q → (l.length : Int) ≤ costL c l) : ((l.length + 1 : Nat) : Int) ≤ manyV b := by
  obtain ⟨h1, h2, h3⟩ := hc.yes he
  obtain ⟨p, hp⟩ := right_some h1
  have hat : ∀ k, ∃ q, lawGo b (innL b) (l.take k) = some q ∧ lawGo b q (l.drop k) = some p := law_take hp
  let f : Nat → List Int := fun k => (hat k).choose
  have hf : ∀ k, lawGo b (innL b) (l.take k) = some (f k) ∧ lawGo b (f k) (l.drop k) = some p := fun k => (hat k).choose_spec
  have hne : ∀ i j, i < j → j ≤ l.length → f i ≠ f j := fun i j hij hj ee => by
    have g1 : lawGo b (innL b) (l.take i ++ l.drop j) = some p := by
      rw [lawGo_append, (hf i).1]
      show lawGo b (f i) (l.drop j) = some p
      rw [ee]; exact (hf j).2
    have g2 : rightV b (l.take i ++ l.drop j) = true := by rw [right_law hr g1, ← right_law hr hp]; exact h1
    have g3 := h3 _ g2
    have e1 : l = l.take i ++ ((l.drop i).take (j - i) ++ l.drop j) := by
      conv => lhs; rw [← List.take_append_drop i l, ← List.take_append_drop (j - i) (l.drop i), List.drop_drop]
      rw [show i + (j - i) = j by omega]
    obtain ⟨q, g4, _⟩ : ∃ q, lawGo b (f i) ((l.drop i).take (j - i)) = some q ∧ True := by
      have := (hf i).2
      rw [← List.take_append_drop (j - i) (l.drop i), lawGo_append] at this
      cases hq : lawGo b (f i) ((l.drop i).take (j - i)) with
      | none => rw [hq] at this; cases this
      | some q => exact ⟨q, rfl, trivial⟩
    have g5 := hpos _ _ _ ((law_len (hf i).1).trans (inn_len b)) g4
    have e2 : costL c l = costL c (l.take i) + (costL c ((l.drop i).take (j - i)) + costL c (l.drop j)) := by
      conv => lhs; rw [e1, costL_append, costL_append]
    rw [costL_append] at g3
    have e3 : ((l.drop i).take (j - i)).length = j - i := by rw [List.length_take, List.length_drop]; omega
    rw [e3] at g5
    omega
  have hn : ((List.range (l.length + 1)).map f).Nodup := by
    rw [List.nodup_iff_pairwise_ne, List.pairwise_map, List.pairwise_iff_getElem]
    intro i j hi hj hij
    rw [List.length_range] at hi hj
    rw [List.getElem_range, List.getElem_range]
    exact hne i j hij (by omega)
  have e4 := nodup_sub hn (L := injL b.sizes.length b.lots.length) fun q hq => by
    obtain ⟨k, _, rfl⟩ := List.mem_map.1 hq
    exact law_inj hr _ _ (hf k).1
  rw [List.length_map, List.length_range] at e4
  have := inj_len (s := b.sizes.length) b.lots.length
  unfold manyV
  omega
theorem few_len (hr : b.Right) {e : Int} {l : List Tur} {n : Int} (hc : Cheap b oneC e l n) (he : e = 0) : ((l.length + 1 : Nat) : Int) ≤ manyV b := cheap_len hr hc he fun l _ _ _ _ => by rw [cost_one]; exact Int.le_refl _
end Go.Proofs.YtpnndljmhpepgaaGreat

namespace Go.T
open Go Go.RowKit
def dExi {α : Type} (S : α → Prop) (T : α → Ty) (w : World) (M : Tags) (v : Value) : Prop := ∃ x, S x ∧ (T x).den w M v
def Ty.exi {α : Type} (S : α → Prop) (T : α → Ty) (h : ∀ x, (T x).deps = [] ∧ (T x).cdeps = []) : Ty :=
  { den := dExi S T, mono := fun le _ _ ⟨x, hx, hd⟩ => ⟨x, hx, (T x).mono le (by rw [(h x).1]; intro _ h; cases h) (by rw [(h x).2]; intro _ h; cases h) hd⟩ }
section
variable {P : Program} {fr : Fr} {A : As} {c : Code} {Q : Exit → Act → World → Prop}
end
section
variable {P : Program} {A : As} {fn : Func} {n : Nat} {w0 : World} {M0 : Tags}
end
end Go.T

namespace Go.Proofs.YtpnndljmhpepgaaGreat
open Go Go.T
theorem fidx_at {α : Type} [Inhabited α] {p : α → Bool} {l : List α} (h : 0 ≤ fidx p l) : (fidx p l).toNat < l.length ∧ p (nth l (fidx p l).toNat) = true := by
  unfold fidx at *
  cases e : l.findIdx? p with
  | none => rw [e] at h; exact absurd h (by decide)
  | some i =>
    obtain ⟨h1, h2, _⟩ := List.findIdx?_eq_some_iff_getElem.1 e
    show (Int.toNat (i : Int)) < _ ∧ p (nth l (Int.toNat (i : Int))) = true
    rw [Int.toNat_natCast, nth_lt h1]; exact ⟨h1, h2⟩
variable {b : Barn}
abbrev Barn.at (b : Barn) (i : Int) : Lot := nth b.lots i.toNat
def Barn.is (b : Barn) (i : Int) : Prop := 0 ≤ i ∧ i < b.lots.length
theorem fol_at {i : Int} (h : 0 ≤ follows b i) : b.is (follows b i) ∧ (b.at (follows b i)).inn = (b.at i).aim := by
  have h1 := fidx_at (p := fun l : Lot => decide (l.inn = (nth b.lots i.toNat).aim)) (l := b.lots) h
  have h2 := follows_range b i
  exact ⟨⟨h, h2.2⟩, of_decide_eq_true h1.2⟩
theorem is_inn (hr : b.Right) {i : Int} (hi : b.is i) : 0 ≤ (b.at i).inn ∧ (b.at i).inn < b.sizes.length := hr.inn _ (nth_mem (by unfold Barn.is at hi; omega))
theorem fol_aim (hr : b.Right) {i : Int} (h : 0 ≤ follows b i) : (b.at i).aim ≠ -1 := by
  obtain ⟨h1, h2⟩ := fol_at h
  have := is_inn hr h1
  omega
structure Ring (b : Barn) (i : Int) (l : List Int) : Prop where
  two : 2 ≤ l.length
  head : nth l 0 = i
  rng : ∀ x ∈ l, i ≤ x ∧ x < b.lots.length
  zero : 0 ≤ i
  fol : ∀ j, j + 1 < l.length → follows b (nth l j) = nth l (j + 1)
  last : follows b (nth l (l.length - 1)) = i
  nodup : l.Nodup
structure Path (b : Barn) (i : Int) (l : List Int) : Prop where
  pos : 1 ≤ l.length
  head : nth l 0 = i
  is : b.is i
  up : ∀ j, 1 ≤ j → j < l.length → i < nth l j ∧ nth l j < b.lots.length
  fol : ∀ j, j + 1 < l.length → follows b (nth l j) = nth l (j + 1)
theorem Path.at_ {i : Int} {l : List Int} (h : Path b i l) {j : Nat} (hj : j < l.length) : i ≤ nth l j ∧ b.is (nth l j) := by
  have h1 := h.is
  cases j with
  | zero => rw [h.head]; exact ⟨Int.le_refl _, h1⟩
  | succ j =>
    have := h.up (j + 1) (by omega) hj
    unfold Barn.is at *; omega
theorem Ring.at_ {i : Int} {l : List Int} (h : Ring b i l) {j : Nat} (hj : j < l.length) : i ≤ nth l j ∧ b.is (nth l j) := by
  have h1 := h.rng _ (nth_mem hj)
  have h2 := h.zero
  exact ⟨h1.1, by unfold Barn.is; omega⟩
theorem is_len {l : List Int} (hn : l.Nodup) (h : ∀ x ∈ l, b.is x) : l.length ≤ b.lots.length := by
  have := nodup_sub hn (L := (List.range b.lots.length).map fun (k : Nat) => (k : Int)) fun x hx => by
    have := h x hx
    unfold Barn.is at this
    exact List.mem_map.2 ⟨x.toNat, List.mem_range.2 (by omega), by omega⟩
  rwa [List.length_map, List.length_range] at this
theorem Ring.len {i : Int} {l : List Int} (h : Ring b i l) : l.length ≤ b.lots.length := is_len h.nodup fun x hx => by
  have h1 := h.rng x hx
  have h2 := h.zero
  unfold Barn.is; omega
theorem Ring.next {i : Int} {l : List Int} (h : Ring b i l) {x : Int} (hx : x ∈ l) : follows b x ∈ l := by
  obtain ⟨j, hj, rfl⟩ := mem_nth hx
  by_cases c : j + 1 < l.length
  · rw [h.fol j c]; exact nth_mem c
  · rw [show j = l.length - 1 by omega, h.last, ← h.head]; exact nth_mem (by have := h.two; omega)
theorem Ring.reach {i : Int} {l : List Int} (h : Ring b i l) {C : Int → Prop} (hC : ∀ x, C x → C (follows b x)) {x : Int} (hx : x ∈ l) (hc : C x) : C i := by
  obtain ⟨j, hj, rfl⟩ := mem_nth hx
  have key : ∀ m j, m = l.length - j → j < l.length → C (nth l j) → C i := by
    intro m
    induction m with
    | zero => intro j hm hj; omega
    | succ m ih =>
      intro j hm hj hc
      have h1 := hC _ hc
      by_cases c : j + 1 < l.length
      · rw [h.fol j c] at h1; exact ih (j + 1) (by omega) c h1
      · rw [show j = l.length - 1 by omega, h.last] at h1; exact h1
  exact key _ j rfl hj hc
theorem Ring.same {i k : Int} {l r : List Int} (h : Ring b i l) (h' : Ring b k r) {x : Int} (hx : x ∈ l) (hx' : x ∈ r) : i = k := by
  have h1 := h.reach (C := fun y => y ∈ r) (fun y hy => h'.next hy) hx hx'
  have h2 := h'.reach (C := fun y => y ∈ l) (fun y hy => h.next hy) hx' hx
  have h3 := h'.rng _ h1
  have h4 := h.rng _ h2
  omega
theorem Ring.lot {i : Int} {l : List Int} (hr : b.Right) (h : Ring b i l) {x : Int} (hx : x ∈ l) : b.is x ∧ b.is (follows b x) ∧ (b.at (follows b x)).inn = (b.at x).aim ∧ (b.at x).aim ≠ -1 ∧ follows b x ≠ x := by
  have hz := h.zero
  have is : ∀ y ∈ l, b.is y := fun y hy => by have := h.rng y hy; unfold Barn.is; omega
  have h1 := is _ (h.next hx)
  refine ⟨is x hx, h1, (fol_at h1.1).2, fol_aim hr h1.1, fun e => ?_⟩
  obtain ⟨j, hj, rfl⟩ := mem_nth hx
  have two := h.two
  by_cases c : j + 1 < l.length
  · rw [h.fol j c] at e
    have := nodup_nth h.nodup c hj e; omega
  · rw [show j = l.length - 1 by omega, h.last, ← h.head] at e
    have := nodup_nth h.nodup (by omega) (by omega) e; omega
def headsL (b : Barn) : List Int := (ringsL b).map fun l => nth l 0
inductive Each {α β : Type} (P : α → β → Prop) : List α → List β → Prop
  | nil : Each P [] []
  | cons {a : α} {c : β} {l : List α} {r : List β} : P a c → Each P l r → Each P (a :: l) (c :: r)
end Go.Proofs.YtpnndljmhpepgaaGreat

namespace Go.Proofs.YtpnndljmhpepgaaGreat
open Go Go.T
set_option maxHeartbeats 4000000
theorem many_abs {s : Nat} (h : s ≤ 7) : ∀ k, k ≤ 6 → (manyUp s k).natAbs ≤ 7 ^ k
  | 0, _ => Nat.le_refl _
  | k + 1, hk => by
    have h1 := many_abs h k (by omega)
    show (manyUp s k * ((s : Int) - (k : Int))).natAbs ≤ _
    rw [Int.natAbs_mul, Nat.pow_succ]
    exact Nat.mul_le_mul h1 (by omega)
theorem many_small {s k : Nat} (h : s ≤ 7) (hk : k ≤ 6) : -117649 ≤ manyUp s k ∧ manyUp s k ≤ 117649 := by
  have h1 := many_abs h k hk
  have h2 : 7 ^ k ≤ 7 ^ 6 := Nat.pow_le_pow_right (by decide) hk
  have h3 : 7 ^ 6 = 117649 := by decide
  omega
theorem many_step {s k : Nat} (h : s ≤ 7) (hk : k < 6) : -117649 ≤ manyUp s k * ((s : Int) - (k : Int)) ∧ manyUp s k * ((s : Int) - (k : Int)) ≤ 117649 := many_small h (k := k + 1) hk
def wideV (b : Barn) : Bool := greatV b || (decide (checkB b = 0) && decide (manyV b > 150))
def placeL (l : List (List Int)) (p : List Int) : Int := fidx (fun q => decide (q = p)) l
theorem place_no {l : List (List Int)} {p : List Int} (h : placeL l p < 0) : p ∉ l := fun hm => by
  have h1 : decide (0 ≤ placeL l p) = l.any fun q => decide (q = p) := fidx_ge _ _
  have h2 : (l.any fun q => decide (q = p)) = true := List.any_eq_true.2 ⟨p, hm, decide_eq_true rfl⟩
  rw [h2, decide_eq_true_eq] at h1
  omega
theorem place_at {l : List (List Int)} {p : List Int} (h : ¬ placeL l p < 0) : (0 ≤ placeL l p ∧ (placeL l p).toNat < l.length) ∧ nth l (placeL l p).toNat = p := by
  have h1 := fidx_at (p := fun q => decide (q = p)) (l := l) (show 0 ≤ placeL l p by omega)
  exact ⟨⟨by omega, h1.1⟩, of_decide_eq_true h1.2⟩
attribute [local irreducible] rturn madeL manyUp muQ
attribute [local irreducible] dInt dBool dSl dPp dPtr dAgg dTup dClo dAny dEx dStr dGd dCells dVec dVs dRow dOp nth Tri Into TOps Ctr bodyPost Exit.then Exit.inBlock Code.wp Code.wpIn dWhen dPa dPe dAo dArr dMp dPm dMap dCJ CtrG CtrI OpY keepPost iterPost bodyPostM roundQ
attribute [local irreducible] dRowJ dMs dFit
set_option maxRecDepth 100000 in
theorem c_rMany (b : Barn) (hr : b.Right) : Ctr Tryz.prog 28 [barnT b] (Ty.int .i64 (manyV b)) := by
  refine fn_intro Tryz.func28 rfl (by decide) Tryz.ntmps28 (by exact Nat.le_of_ble_eq_true rfl) fun w0 M0 => ?_
  have hs1 := hr.bins
  have hs2 := hr.lots
  refine t_seq ?_
  refine t_region ?_
  refine r_box_agg rfl ?_
  refine asI rfl ?_
  refine r_nil ?_
  refine i_then ?_
  refine t_seq ?_
  refine t_region ?_
  refine asI rfl ?_
  refine r_nil ?_
  refine i_then ?_
  refine t_seq ?_
  refine t_seq ?_
  refine t_region ?_
  refine asI rfl ?_
  refine r_nil ?_
  refine i_then ?_
  refine t_block ?_
  refine t_loop (fun (k : {k : Nat // k ≤ b.lots.length}) => live [(1, Ty.pp (barnTys b)), (3, Ty.int .i64 (manyUp b.sizes.length k.1)), (4, Ty.int .i64 (k.1 : Nat))] []) (fun k => b.lots.length - k.1) (⟨0, by omega⟩) ?_ fun k => ?_
  · (refine Ent.mk' ?_ ?_ <;> (repeat' (first | exact allSub_zero | exact allTags_nil | refine allSub_succ' ?_ (Ty.sub_any _) | refine allSub_succ' ?_ (Ty.sub_refl _) | refine allSub_succ' ?_ ?_)))
    all_goals exact Ty.sub_int (by unfold manyUp; rfl)
  ·
    have hk := k.2
    have hm := many_small hs1.2 (k := k.1) (by omega)
    refine t_seq ?_
    refine t_seq ?_
    refine t_region ?_
    refine mvI rfl ?_
    refine r_field_pp rfl rfl rfl rfl rfl (by decide) ?_
    refine r_load_pp rfl rfl rfl rfl ?_
    refine r_len rfl rfl rfl ?_
    refine r_bin rfl rfl rfl ?_
    refine r_nil ?_
    refine i_then ?_
    refine t_cond_dec rfl (fun hc1 => ?_) (fun hc1 => ?_)
    ·
      refine t_skip ?_
      refine i_then ?_
      refine t_seq ?_
      refine t_block ?_
      have hm2 := many_step hs1.2 (k := k.1) (by omega)
      refine t_region ?_
      refine mvI rfl ?_
      refine r_field_pp rfl rfl rfl rfl rfl (by decide) ?_
      refine r_load_pp rfl rfl rfl rfl ?_
      refine r_len rfl rfl rfl ?_
      refine mvI rfl ?_
      refine r_sub rfl rfl (by omega) (by omega) ?_
      refine r_mul rfl rfl (by omega) (by omega) ?_
      refine asI rfl ?_
      refine r_nil ?_
      refine i_block ?_
      refine i_then ?_
      refine t_region ?_
      refine mvI rfl ?_
      refine r_add rfl rfl (by omega) (by omega) ?_
      refine asI rfl ?_
      refine r_nil ?_
      refine i_round (⟨k.1 + 1, by omega⟩) ?_ (by show b.lots.length - (k.1 + 1) < b.lots.length - k.1; omega)
      (refine Ent.mk' ?_ ?_ <;> (repeat' (first | exact allSub_zero | exact allTags_nil | refine allSub_succ' ?_ (Ty.sub_any _) | refine allSub_succ' ?_ (Ty.sub_refl _) | refine allSub_succ' ?_ ?_)))
      all_goals skip
      all_goals exact Ty.sub_int (by rw [manyUp])
    ·
      refine t_exit ?_
      refine i_then_exit ?_
      refine i_then_exit ?_
      refine i_block_exit rfl ?_
      refine i_then ?_
      refine t_seq ?_
      refine t_region ?_
      refine mvI rfl ?_
      refine asI rfl ?_
      refine r_nil ?_
      refine i_then ?_
      refine t_ret ?_
      refine i_rp1 rfl rfl ?_
      all_goals skip
      all_goals exact ret_eq rfl rfl (congrArg (fun n => Ty.int .i64 (manyUp b.sizes.length n)) (show k.1 = b.lots.length by have := k.2; omega))
set_option maxRecDepth 100000 in
theorem c_rsame (a b : List Int) (h : a.length = b.length) : Ctr Tryz.prog 92 [Ty.sl I64 a, Ty.sl I64 b] (Ty.bool (decide (a = b))) := by
  refine fn_intro Tryz.func92 rfl (by decide) Tryz.ntmps92 (by exact Nat.le_of_ble_eq_true rfl) fun w0 M0 => ?_
  refine t_fact (s := 0) rfl rfl sl_len fun ha => ?_
  refine t_seq ?_
  refine t_region ?_
  refine asB rfl ?_
  refine r_nil ?_
  refine i_then ?_
  refine t_seq ?_
  refine t_seq ?_
  refine t_region ?_
  refine asI rfl ?_
  refine r_nil ?_
  refine i_then ?_
  refine t_block ?_
  refine t_loop (fun (k : {k : Nat // a.take k = b.take k}) => live [(0, Ty.sl I64 a), (1, Ty.sl I64 b), (5, Ty.int .i64 (k.1 : Nat))] []) (fun k => a.length - k.1) (⟨0, by simp⟩) ?_ fun k => ?_
  · (refine Ent.mk' ?_ ?_ <;> (repeat' (first | exact allSub_zero | exact allTags_nil | refine allSub_succ' ?_ (Ty.sub_any _) | refine allSub_succ' ?_ (Ty.sub_refl _))))
  ·
    refine t_seq ?_
    refine t_seq ?_
    refine t_region ?_
    refine mvI rfl ?_
    refine mvS rfl ?_
    refine r_len rfl rfl rfl ?_
    refine r_bin rfl rfl rfl ?_
    refine r_nil ?_
    refine i_then ?_
    refine t_cond_dec rfl (fun hc1 => ?_) (fun hc1 => ?_)
    ·
      refine t_skip ?_
      refine i_then ?_
      refine t_seq ?_
      refine t_block ?_
      refine t_seq ?_
      refine t_draw mixed rfl ?_
      refine mvS rfl ?_
      refine mvI rfl ?_
      refine r_index_slN rfl rfl rfl rfl rfl rfl (by omega) ?_
      refine r_load_pp rfl rfl rfl rfl ?_
      refine mvS rfl ?_
      refine mvI rfl ?_
      refine r_index_slN rfl rfl rfl rfl rfl rfl (by omega) ?_
      refine r_load_pp rfl rfl rfl rfl ?_
      refine r_bin rfl rfl rfl ?_
      refine r_nil ?_
      refine ⟨by kernel_rfl, ?_⟩
      refine i_then ?_
      refine t_cond_ndec rfl (fun hc2 => ?_) (fun hc2 => ?_)
      ·
        refine t_seq ?_
        refine t_region ?_
        refine asB rfl ?_
        refine r_nil ?_
        refine i_then ?_
        refine t_ret ?_
        refine i_block_ret ?_
        refine i_then_ret ?_
        refine i_then_ret ?_
        refine i_block_ret ?_
        refine i_then_ret ?_
        refine i_rp1 rfl rfl ?_
        all_goals skip
        exact ret_eq rfl rfl (congrArg Ty.bool (by rw [eq_comm, decide_eq_false_iff_not]; exact ne_of_nth (k := k.1) hc2))
      ·
        refine t_skip ?_
        refine i_block ?_
        refine i_then ?_
        refine t_region ?_
        refine mvI rfl ?_
        refine r_add rfl rfl (by omega) (by omega) ?_
        refine asI rfl ?_
        refine r_nil ?_
        refine i_round (⟨k.1 + 1, by have e : nth a k.1 = nth b k.1 := hc2; rw [take_nth (by omega), take_nth (by omega), k.2, e]⟩) ?_ (by show a.length - (k.1 + 1) < a.length - k.1; omega)
        (refine Ent.mk' ?_ ?_ <;> (repeat' (first | exact allSub_zero | exact allTags_nil | refine allSub_succ' ?_ (Ty.sub_any _) | refine allSub_succ' ?_ (Ty.sub_refl _))))
        all_goals skip
    ·
      refine t_exit ?_
      refine i_then_exit ?_
      refine i_then_exit ?_
      refine i_block_exit rfl ?_
      refine i_then ?_
      refine t_seq ?_
      refine t_region ?_
      refine asB rfl ?_
      refine r_nil ?_
      refine i_then ?_
      refine t_ret ?_
      refine i_rp1 rfl rfl ?_
      all_goals skip
      exact ret_eq rfl rfl (congrArg Ty.bool (by rw [eq_comm, decide_eq_true_eq]; have := k.2; rwa [List.take_of_length_le (by omega), List.take_of_length_le (by omega)] at this))
set_option maxRecDepth 100000 in
theorem c_rplace (l : List (List Int)) (p : List Int) (h : ∀ q ∈ l, q.length = p.length) : Ctr Tryz.prog 41 [Ty.sl RowE l, Ty.sl I64 p] (Ty.int .i64 (placeL l p)) := by
  refine fn_intro Tryz.func41 rfl (by decide) Tryz.ntmps41 (by exact Nat.le_of_ble_eq_true rfl) fun w0 M0 => ?_
  refine t_fact (s := 0) rfl rfl sl_len fun hl => ?_
  refine t_seq ?_
  refine t_region ?_
  refine asI rfl ?_
  refine r_nil ?_
  refine i_then ?_
  refine t_seq ?_
  refine t_seq ?_
  refine t_region ?_
  refine asI rfl ?_
  refine r_nil ?_
  refine i_then ?_
  refine t_block ?_
  refine t_loop (fun (k : {k : Nat // ∀ q ∈ l.take k, decide (q = p) = false}) => live [(0, Ty.sl RowE l), (1, Ty.sl I64 p), (5, Ty.int .i64 (k.1 : Nat))] []) (fun k => l.length - k.1) (⟨0, by simp⟩) ?_ fun k => ?_
  · (refine Ent.mk' ?_ ?_ <;> (repeat' (first | exact allSub_zero | exact allTags_nil | refine allSub_succ' ?_ (Ty.sub_any _) | refine allSub_succ' ?_ (Ty.sub_refl _))))
  ·
    refine t_seq ?_
    refine t_seq ?_
    refine t_region ?_
    refine mvI rfl ?_
    refine mvS rfl ?_
    refine r_len rfl rfl rfl ?_
    refine r_bin rfl rfl rfl ?_
    refine r_nil ?_
    refine i_then ?_
    refine t_cond_dec rfl (fun hc1 => ?_) (fun hc1 => ?_)
    ·
      refine t_skip ?_
      refine i_then ?_
      refine t_seq ?_
      refine t_block ?_
      refine t_seq ?_
      refine t_region ?_
      refine mvS rfl ?_
      refine mvI rfl ?_
      refine r_index_slN rfl rfl rfl rfl rfl rfl (by omega) ?_
      refine r_load_pp rfl rfl rfl rfl ?_
      refine mvS rfl ?_
      refine r_call (c_rsame (nth l k.1) p (h _ (nth_mem (by omega)))) rfl rfl rfl rfl rfl ?_
      refine r_nil ?_
      refine i_then ?_
      refine t_cond_dec rfl (fun hc2 => ?_) (fun hc2 => ?_)
      ·
        refine t_seq ?_
        refine t_region ?_
        refine mvI rfl ?_
        refine asI rfl ?_
        refine r_nil ?_
        refine i_then ?_
        refine t_ret ?_
        refine i_block_ret ?_
        refine i_then_ret ?_
        refine i_then_ret ?_
        refine i_block_ret ?_
        refine i_then_ret ?_
        refine i_rp1 rfl rfl ?_
        all_goals skip
        exact ret_eq rfl rfl (congrArg (Ty.int .i64) (fidx_found (p := fun q => decide (q = p)) (by omega) k.2 (decide_eq_true (by rw [← nth_lt]; exact hc2))).symm)
      ·
        refine t_skip ?_
        refine i_block ?_
        refine i_then ?_
        refine t_region ?_
        refine mvI rfl ?_
        refine r_add rfl rfl (by omega) (by omega) ?_
        refine asI rfl ?_
        refine r_nil ?_
        refine i_round (⟨k.1 + 1, ext_false k.2 (by omega) (decide_eq_false hc2)⟩) ?_ (by show l.length - (k.1 + 1) < l.length - k.1; omega)
        (refine Ent.mk' ?_ ?_ <;> (repeat' (first | exact allSub_zero | exact allTags_nil | refine allSub_succ' ?_ (Ty.sub_any _) | refine allSub_succ' ?_ (Ty.sub_refl _))))
        all_goals skip
    ·
      refine t_exit ?_
      refine i_then_exit ?_
      refine i_then_exit ?_
      refine i_block_exit rfl ?_
      refine i_then ?_
      refine t_seq ?_
      refine t_region ?_
      refine asI rfl ?_
      refine r_nil ?_
      refine i_then ?_
      refine t_ret ?_
      refine i_rp1 rfl rfl ?_
      all_goals skip
      exact ret_eq rfl rfl (congrArg (Ty.int .i64) (fidx_none (p := fun q => decide (q = p)) (by have := k.2; rwa [List.take_of_length_le (by omega)] at this)).symm)
set_option maxRecDepth 100000 in
theorem c_theirsW (b : Barn) (hs1 : b.lots.length * 24 ≤ 140737488355328) : Ctr Tryz.prog 8 [barnT b] (barnT b) := by
  refine fn_intro Tryz.func8 rfl (by decide) Tryz.ntmps8 (by exact Nat.le_of_ble_eq_true rfl) fun w0 M0 => ?_
  refine t_seq ?_
  refine t_region ?_
  refine r_box_agg rfl ?_
  refine r_alloc rfl (by exact List.cons_ne_nil _ _) rfl ?_
  refine r_nil ?_
  refine i_then ?_
  refine t_seq ?_
  refine t_region ?_
  refine r_field_pp rfl rfl rfl rfl rfl (by decide) ?_
  refine r_load_pp rfl rfl rfl rfl ?_
  refine r_build rfl rfl (by exact List.cons_ne_nil _ _) rfl (by repeat (first | exact (Parts.nil : Parts _ _ [] _) | (show Parts _ _ ((_, _) :: _) _; apply Parts.one; (· exact (rfl : _ = Ty.sl _ _)); (· exact rfl)))) (by exact (rfl : _ = some [_, _])) ?_
  refine r_alloc rfl (by exact List.cons_ne_nil _ _) rfl ?_
  refine r_storeN rfl rfl (by decide) rfl rfl rfl rfl rfl rfl ?_
  refine r_nil ?_
  refine i_then ?_
  refine t_seq ?_
  refine t_seq ?_
  refine t_region ?_
  refine r_field_pp rfl rfl rfl rfl rfl (by decide) ?_
  refine r_load_pp rfl rfl rfl rfl ?_
  refine r_len rfl rfl rfl ?_
  refine mvI rfl ?_
  refine r_nil ?_
  refine i_then ?_
  refine t_block ?_
  refine t_loop (fun (k : {k : Nat // k ≤ b.lots.length}) => live [(2, Ty.ptr 3 0), (3, Ty.ptr 4 0), (10, Ty.sl LotE b.lots), (11, Ty.int .i64 b.lots.length), (12, Ty.int .i64 (k.1 : Nat))] [(3, Cont.cells 33 [Ty.ex (.slice none 0 0), Ty.ex (.slice none 0 0)]), (4, Cont.cells 33 [Ty.sl I64 b.sizes, Ty.row LotE 76 21 (b.lots.take k.1)])]) (fun k => b.lots.length - k.1) (⟨0, by omega⟩) ?_ fun k => ?_
  · (refine Ent.mk' ?_ ?_ <;> (repeat' (first | exact allSub_zero | exact allTags_nil | exact subs_nil | refine allSub_succ' ?_ (Ty.sub_any _) | refine allSub_succ' ?_ (Ty.sub_refl _) | refine allTags_cons rfl (Cont.sub_refl _) ?_ | refine allTags_cons rfl (Cont.sub_subs ?_) ?_ | refine subs_cons ?_ (Ty.sub_refl _) | refine subs_cons ?_ Ty.nil_row)))
    all_goals trace_state
  ·
    have hk := k.2
    refine t_seq ?_
    refine t_region ?_
    refine r_bin rfl rfl rfl ?_
    refine r_nil ?_
    refine i_then ?_
    refine t_seq ?_
    refine t_cond_dec rfl (fun hc1 => ?_) (fun hc1 => ?_)
    ·
      refine t_skip ?_
      refine i_then ?_
      refine t_seq ?_
      refine t_block ?_
      refine t_seq ?_
      refine t_region ?_
      refine r_index_slN rfl rfl rfl rfl rfl rfl (by omega) ?_
      refine r_load_ppN rfl rfl rfl (by exact Nat.le_of_ble_eq_true rfl) ?_
      refine r_alloc rfl (by exact List.cons_ne_nil _ _) rfl ?_
      refine r_storeN rfl rfl (by decide) rfl rfl rfl rfl rfl rfl ?_
      refine r_nil ?_
      refine i_then ?_
      refine t_region ?_
      refine r_field_ptr rfl rfl rfl rfl rfl (by decide) ?_
      refine r_load_ptr rfl rfl (by decide) rfl rfl rfl ?_
      refine r_load_ptrN rfl rfl (by decide) rfl rfl (by exact Nat.le_of_ble_eq_true rfl) ?_
      refine r_buildSlice (E := LotE) (xs := [nth b.lots k.1]) rfl rfl rfl rfl rfl (by decide) (by decide) (by repeat (first | exact (Parts.nil : Parts _ _ [] _) | (show Parts _ _ ((_, _) :: _) _; apply Parts.agg; (· exact (rfl : _ = Ty.agg _))))) (by exact rfl) rfl ?_
      refine r_append rfl rfl (by decide) rfl rfl rfl rfl rfl rfl (by decide) (by (simp <;> omega)) (by (simp <;> omega)) ?_
      refine r_field_ptr rfl rfl rfl rfl rfl (by decide) ?_
      refine r_store1 rfl rfl (by decide) rfl rfl (by exact (rfl : _ = Ty.row _ _ _ _)) rfl (by exact Nat.le_of_ble_eq_true rfl) rfl rfl (by exact rfl) ?_
      refine r_nil ?_
      refine i_block ?_
      refine i_then ?_
      refine t_region ?_
      refine r_add rfl rfl (by omega) (by omega) ?_
      refine mvI rfl ?_
      refine r_nil ?_
      refine i_round (⟨k.1 + 1, by omega⟩) ?_ (by show b.lots.length - (k.1 + 1) < b.lots.length - k.1; omega)
      (refine Ent.mk' ?_ ?_ <;> (repeat' (first | exact allSub_zero | exact allTags_nil | exact subs_nil | refine allSub_succ' ?_ (Ty.sub_any _) | refine allSub_succ' ?_ (Ty.sub_refl _) | refine allTags_cons rfl (Cont.sub_refl _) ?_ | refine allTags_cons rfl (Cont.sub_subs ?_) ?_ | refine subs_cons ?_ (Ty.sub_refl _) | refine subs_cons ?_ ?_)))
      all_goals exact Ty.sub_row (take_nth (by omega)).symm
      all_goals trace_state
    ·
      refine t_exit ?_
      refine i_then_exit ?_
      refine i_then_exit ?_
      refine i_block_exit rfl ?_
      refine i_then ?_
      refine t_seq ?_
      refine t_pubC (tg := 21) [] [(4, Cont.cells 33 [Ty.sl I64 b.sizes, Ty.sl LotE (b.lots.take k.1)])] (by decide) rfl trivial ⟨pubC_cells rfl rfl ⟨pubTy_same rfl, pubTy_row, trivial⟩, trivial⟩ ?_
      refine t_region ?_
      refine r_load_ptrN rfl rfl (by decide) rfl rfl (by exact Nat.le_of_ble_eq_true rfl) ?_
      refine r_storeN rfl rfl (by decide) rfl rfl rfl rfl rfl rfl ?_
      refine r_nil ?_
      refine i_then ?_
      refine t_ret ?_
      refine i_rcell rfl rfl rfl rfl (by decide) rfl rfl rfl ?_
      all_goals exact ret_eq rfl rfl (congrArg (fun l => barnT ⟨b.sizes, l⟩) (show b.lots.take k.1 = b.lots from List.take_of_length_le (by have := k.2; omega)))
end Go.Proofs.YtpnndljmhpepgaaGreat

namespace Go.Proofs.YtpnndljmhpepgaaGreat
open Go Go.T
set_option maxHeartbeats 4000000
structure OIx (l : List Tur) (i : Nat) : Prop where
  pos : 1 ≤ i
  no : ∀ j, j + 1 < i → ¬ (nth l (j + 1)).lot ≤ (nth l j).lot
theorem oix1 (l : List Tur) : OIx l 1 := ⟨Nat.le_refl _, fun j h => by omega⟩
theorem OIx.next {l : List Tur} {i : Nat} (h : OIx l i) (hc : ¬ (nth l i).lot ≤ (nth l ((i : Int) - 1).toNat).lot) : OIx l (i + 1) := by
  have hp := h.pos
  refine ⟨by omega, fun j hj => ?_⟩
  by_cases e : j + 1 = i
  · rw [show ((i : Int) - 1).toNat = j by omega, ← e] at hc; exact hc
  · exact h.no j (by omega)
theorem OIx.yes {l : List Tur} {i : Nat} (h : OIx l i) (hi : i < l.length) (hc : (nth l i).lot ≤ (nth l ((i : Int) - 1).toNat).lot) : ordB l = true := by
  have hp := h.pos
  refine rng_at (k := i - 1) (by omega) (decide_eq_true ?_)
  rw [show ((i : Int) - 1).toNat = i - 1 by omega] at hc
  rw [show i - 1 + 1 = i by omega]; exact hc
theorem OIx.end {l : List Tur} {i : Nat} (h : OIx l i) (hi : l.length ≤ i) : ordB l = false := by
  unfold ordB
  exact any_range_false.2 fun j hj => decide_eq_false (h.no j (by omega))
section
variable {b : Barn} {p : Pl} {g : Int} {l : List Tur}
theorem rE1 (h : (!l.all fun t => b.lot t.lot && b.bin t.aim) = true) : roundE b p g l = 1 := if_pos h
theorem rE4 (h1 : (!l.all fun t => b.lot t.lot && b.bin t.aim) = false) (h : ordB l = true) : roundE b p g l = 4 := (if_neg (ng h1)).trans (if_pos h)
theorem rE5 (h1 : (!l.all fun t => b.lot t.lot && b.bin t.aim) = false) (h2 : ordB l = false) (h : twB b p l = true) : roundE b p g l = 5 := (if_neg (ng h1)).trans ((if_neg (ng h2)).trans (if_pos h))
theorem rE9 (h1 : (!l.all fun t => b.lot t.lot && b.bin t.aim) = false) (h2 : ordB l = false) (h3 : twB b p l = false) (h : (!l.all fun t => b.hold t.aim t.lot) = true) : roundE b p g l = 9 := (if_neg (ng h1)).trans ((if_neg (ng h2)).trans ((if_neg (ng h3)).trans (if_pos h)))
theorem rE2 (h1 : (!l.all fun t => b.lot t.lot && b.bin t.aim) = false) (h2 : ordB l = false) (h3 : twB b p l = false) (h4 : (!l.all fun t => b.hold t.aim t.lot) = false) (h : (l.length : Int) > g) : roundE b p g l = 2 := (if_neg (ng h1)).trans ((if_neg (ng h2)).trans ((if_neg (ng h3)).trans ((if_neg (ng h4)).trans (if_pos h))))
theorem rE0 (h1 : (!l.all fun t => b.lot t.lot && b.bin t.aim) = false) (h2 : ordB l = false) (h3 : twB b p l = false) (h4 : (!l.all fun t => b.hold t.aim t.lot) = false) (h : ¬ (l.length : Int) > g) : roundE b p g l = 0 := (if_neg (ng h1)).trans ((if_neg (ng h2)).trans ((if_neg (ng h3)).trans ((if_neg (ng h4)).trans (if_neg h))))
theorem all_rng (h1 : (!l.all fun t => b.lot t.lot && b.bin t.aim) = false) : ∀ t ∈ l, (0 ≤ t.lot ∧ t.lot < b.lots.length) ∧ 0 ≤ t.aim ∧ t.aim < b.sizes.length := fun t ht => by
  simp only [Bool.not_eq_false', List.all_eq_true, Bool.and_eq_true, Barn.lot, Barn.bin, inB_true] at h1
  have := h1 t ht; omega
theorem tw_no {k : Nat} (h : ∀ i, i < k → twI b p l i = false) (hk : l.length ≤ k) : twB b p l = false := any_range_false.2 fun i hi => h i (by omega)
theorem tw_yes {k : Nat} (hk : k < l.length) (h : twI b p l k = true) : twB b p l = true := rng_at (q := twI b p l) hk h
theorem worksV_1 {rs : List (List Tur)} (h : ¬ askE b g = 0) : worksV b g rs = (false, askE b g) := if_neg h
theorem worksV_2 {rs : List (List Tur)} (h : askE b g = 0) (h2 : (rs.length : Int) > 6000) : worksV b g rs = (false, 2) := (if_pos h).trans (if_pos h2)
theorem worksV_3 {rs : List (List Tur)} (h : askE b g = 0) (h2 : ¬ (rs.length : Int) > 6000) {x : Bool × Int} (e : worksGo b g (firstP b) rs = x) : worksV b g rs = x := (if_pos h).trans ((if_neg h2).trans e)
theorem pl_sub {p q : Pl} (h : p = q) (i : Nat) : (Ty.int .i64 (nth p.1 i)).Sub (Ty.int .i64 (nth q.1 i)) := Ty.sub_int (by rw [h])
def mvUp (p : Pl) (l : List Tur) (k : Nat) : Pl := movedAll p (l.take k)
theorem mvUp_zero (p : Pl) (l : List Tur) : mvUp p l 0 = p := by unfold mvUp; rw [List.take_zero]; rfl
theorem mvUp_succ {k : Nat} (hk : k < l.length) : moved (mvUp p l k) (nth l k) = mvUp p l (k + 1) := by unfold mvUp; rw [take_nth hk, movedAll_snoc]
theorem mvUp_all {k : Nat} (hk : l.length ≤ k) : mvUp p l k = movedAll p l := by unfold mvUp; rw [List.take_of_length_le hk]
end
attribute [local irreducible] dInt dBool dSl dPp dPtr dAgg dTup dClo dAny dEx dStr dGd dCells dVec dVs dRow dOp nth Tri Into TOps Ctr bodyPost Exit.then Exit.inBlock Code.wp Code.wpIn dWhen dPa dPe dAo dArr dMp dPm dMap dCJ CtrG CtrI OpY keepPost iterPost bodyPostM roundQ
set_option maxRecDepth 100000 in
theorem c_round1 (d : Desk) (hs : d.b.Small) (t : Tur) : Ctr Tryz.prog 101 [Ty.agg (TurE.tys t), Ty.pp [Ty.pe DeskE d 0]] (Ty.bool (d.b.lot t.lot && d.b.bin t.aim)) := by
  refine fn_intro Tryz.func101 rfl (by decide) Tryz.ntmps101 (by exact Nat.le_of_ble_eq_true rfl) fun w0 M0 => ?_
  refine t_seq ?_
  refine t_region ?_
  refine r_box_agg rfl ?_
  refine asB rfl ?_
  refine r_nil ?_
  refine i_then ?_
  refine t_seq ?_
  refine t_draw mixed rfl ?_
  refine r_load_pp rfl rfl rfl rfl ?_
  refine r_nilCheck_pe rfl ?_
  refine r_field_pe rfl rfl rfl rfl rfl (by decide) ?_
  refine r_load_peN rfl rfl rfl rfl rfl ?_
  refine r_field_pp rfl rfl rfl rfl rfl (by decide) ?_
  refine r_load_pp rfl rfl rfl rfl ?_
  refine r_call (c_lot d.b hs _) rfl rfl rfl rfl rfl ?_
  refine mvB rfl ?_
  apply r_guard (s := 11) rfl rfl rfl
  · intro hg; apply opT_of; (refine r_load_pp rfl rfl rfl rfl ?_); refine r_nil ?_; exact rfl
  · exact rfl
  · exact rfl
  apply r_guard (s := 11) rfl rfl rfl
  · intro hg; apply opT_strip (s := 12) rfl (by (rw [hg]; rfl)); apply opT_of; (refine r_nilCheck_pe rfl ?_); refine r_nil ?_; exact rfl
  · exact rfl
  · exact rfl
  apply r_guard (s := 11) rfl rfl rfl
  · intro hg; apply opT_strip (s := 13) rfl (by (rw [hg]; rfl)); apply opT_of; (refine r_field_pe rfl rfl rfl rfl rfl (by decide) ?_); refine r_nil ?_; exact rfl
  · exact rfl
  · exact rfl
  apply r_guard (s := 11) rfl rfl rfl
  · intro hg; apply opT_strip (s := 14) rfl (by (rw [hg]; rfl)); apply opT_of; (refine r_load_peN rfl rfl rfl rfl rfl ?_); refine r_nil ?_; exact rfl
  · exact rfl
  · exact rfl
  apply r_guard (s := 11) rfl rfl rfl
  · intro hg; apply opT_of; (refine r_field_pp rfl rfl rfl rfl rfl (by decide) ?_); refine r_nil ?_; exact rfl
  · exact rfl
  · exact rfl
  apply r_guard (s := 11) rfl rfl rfl
  · intro hg; apply opT_strip (s := 16) rfl (by (rw [hg]; rfl)); apply opT_of; (refine r_load_pp rfl rfl rfl rfl ?_); refine r_nil ?_; exact rfl
  · exact rfl
  · exact rfl
  apply r_guard (s := 11) rfl rfl rfl
  · intro hg; apply opT_strip (s := 15) rfl (by (rw [hg]; rfl)); apply opT_strip (s := 17) rfl (by (rw [hg]; rfl)); apply opT_of; (refine r_call (c_bin d.b hs _) rfl rfl rfl rfl rfl ?_); refine r_nil ?_; exact rfl
  · exact rfl
  · exact rfl
  refine r_and rfl rfl ?_
  refine asB rfl ?_
  refine r_nil ?_
  refine ⟨by kernel_rfl, ?_⟩
  refine i_then ?_
  refine t_ret ?_
  refine i_rp1 rfl rfl ?_
  all_goals exact ret_refl rfl rfl
set_option maxRecDepth 100000 in
theorem c_round2 (t u : Tur) : Ctr Tryz.prog 102 [Ty.agg (TurE.tys u), Ty.pp (TurE.tys t)] (Ty.bool (decide (u.aim = t.aim))) := by
  refine fn_intro Tryz.func102 rfl (by decide) Tryz.ntmps102 (by exact Nat.le_of_ble_eq_true rfl) fun w0 M0 => ?_
  refine t_seq ?_
  refine t_region ?_
  refine r_box_agg rfl ?_
  refine asB rfl ?_
  refine r_nil ?_
  refine i_then ?_
  refine t_seq ?_
  refine t_region ?_
  refine r_field_pp rfl rfl rfl rfl rfl (by decide) ?_
  refine r_load_pp rfl rfl rfl rfl ?_
  refine r_field_pp rfl rfl rfl rfl rfl (by decide) ?_
  refine r_load_pp rfl rfl rfl rfl ?_
  refine r_bin rfl rfl rfl ?_
  refine asB rfl ?_
  refine r_nil ?_
  refine i_then ?_
  refine t_ret ?_
  refine i_rp1 rfl rfl ?_
  all_goals exact ret_refl rfl rfl
set_option maxRecDepth 100000 in
theorem c_round3 (d : Desk) (t : Tur) (h : (0 ≤ t.lot ∧ t.lot < d.b.lots.length) ∧ 0 ≤ t.aim ∧ t.aim < d.b.sizes.length) : Ctr Tryz.prog 103 [Ty.agg (TurE.tys t), Ty.pp [Ty.pe DeskE d 0]] (Ty.bool (d.b.hold t.aim t.lot)) := by
  refine fn_intro Tryz.func103 rfl (by decide) Tryz.ntmps103 (by exact Nat.le_of_ble_eq_true rfl) fun w0 M0 => ?_
  refine t_seq ?_
  refine t_region ?_
  refine r_box_agg rfl ?_
  refine asB rfl ?_
  refine r_nil ?_
  refine i_then ?_
  refine t_seq ?_
  refine t_draw mixed rfl ?_
  refine r_load_pp rfl rfl rfl rfl ?_
  refine r_nilCheck_pe rfl ?_
  refine r_field_pe rfl rfl rfl rfl rfl (by decide) ?_
  refine r_load_peN rfl rfl rfl rfl rfl ?_
  refine r_field_pp rfl rfl rfl rfl rfl (by decide) ?_
  refine r_load_pp rfl rfl rfl rfl ?_
  refine r_field_pp rfl rfl rfl rfl rfl (by decide) ?_
  refine r_load_pp rfl rfl rfl rfl ?_
  refine r_call (c_holds d.b t.aim t.lot h.2 h.1) rfl rfl rfl rfl rfl ?_
  refine asB rfl ?_
  refine r_nil ?_
  refine ⟨by kernel_rfl, ?_⟩
  refine i_then ?_
  refine t_ret ?_
  refine i_rp1 rfl rfl ?_
  all_goals exact ret_refl rfl rfl
set_option maxRecDepth 100000 in
theorem c_round (d : Desk) (hs : d.b.Small) (h6 : d.b.lots.length ≤ 6) (p : Pl) (g : Int) (l : List Tur) (hl : l.length ≤ 400000000) : Ctr Tryz.prog 48 [Ty.pe DeskE d 0, Ty.agg (plT p), Ty.int .i64 g, Ty.sl TurE l] (Ty.int .i64 (roundE d.b p g l)) := by
  refine fn_intro Tryz.func48 rfl (by decide) Tryz.ntmps48 (by exact Nat.le_of_ble_eq_true rfl) fun w0 M0 => ?_
  refine t_seq ?_
  refine t_region ?_
  refine r_box_one (by exact (rfl : _ = Ty.pe _ _ _)) rfl ?_
  refine r_box_agg rfl ?_
  refine asI rfl ?_
  refine r_nil ?_
  refine i_then ?_
  refine t_seq ?_
  refine t_seq ?_
  refine t_region ?_
  refine mvS rfl ?_
  refine r_makeFunc rfl ?_
  refine r_call (c_every_tur l (Ty.clo 101 [Ty.pp [Ty.pe DeskE d 0]]) rfl (fun t => d.b.lot t.lot && d.b.bin t.aim) rfl rfl fun x _ => cal_clo (c_round1 d hs x) rfl rfl rfl rfl rfl rfl) rfl rfl rfl rfl rfl ?_
  refine r_not rfl ?_
  refine r_nil ?_
  refine i_then ?_
  refine t_cond rfl (fun hc1 => ?_) (fun hc1 => ?_)
  ·
    refine t_seq ?_
    refine t_region ?_
    refine asI rfl ?_
    refine r_nil ?_
    refine i_then ?_
    refine t_ret ?_
    refine i_then_ret ?_
    refine i_rp1 rfl rfl ?_
    all_goals skip
    all_goals exact ret_eq rfl rfl (congrArg (Ty.int .i64) (rE1 hc1).symm)
  ·
    refine t_skip ?_
    refine i_then ?_
    refine t_seq ?_
    refine t_seq ?_
    have har := all_rng hc1
    refine t_region ?_
    refine asI rfl ?_
    refine r_nil ?_
    refine i_then ?_
    refine t_block ?_
    refine t_loop (fun (i : {i : Nat // OIx l i}) => live [(2, Ty.int .i64 g), (3, Ty.sl TurE l), (4, Ty.pp [Ty.pe DeskE d 0]), (5, Ty.pp (plT p)), (9, Ty.int .i64 (i.1 : Nat))] []) (fun i => l.length - i.1) (⟨1, oix1 l⟩) ?_ fun i => ?_
    · (refine Ent.mk' ?_ ?_ <;> (repeat' (first | exact allSub_zero | exact allTags_nil | refine allSub_succ' ?_ (Ty.sub_any _) | refine allSub_succ' ?_ (Ty.sub_refl _))))
    ·
      have hi1 := i.2.pos
      refine t_seq ?_
      refine t_seq ?_
      refine t_region ?_
      refine mvI rfl ?_
      refine mvS rfl ?_
      refine r_len rfl rfl rfl ?_
      refine r_bin rfl rfl rfl ?_
      refine r_nil ?_
      refine i_then ?_
      refine t_cond_dec rfl (fun hc2 => ?_) (fun hc2 => ?_)
      ·
        refine t_skip ?_
        refine i_then ?_
        refine t_seq ?_
        refine t_block ?_
        refine t_seq ?_
        refine t_draw mixed rfl ?_
        refine mvS rfl ?_
        refine mvI rfl ?_
        refine r_index_slN rfl rfl rfl rfl rfl rfl (by omega) ?_
        refine r_field_pp rfl rfl rfl rfl rfl (by decide) ?_
        refine r_load_pp rfl rfl rfl rfl ?_
        refine mvS rfl ?_
        refine mvI rfl ?_
        refine r_sub rfl rfl (by omega) (by omega) ?_
        refine r_index_sl rfl rfl rfl rfl rfl rfl (by omega) (by omega) ?_
        refine r_field_pp rfl rfl rfl rfl rfl (by decide) ?_
        refine r_load_pp rfl rfl rfl rfl ?_
        refine r_bin rfl rfl rfl ?_
        refine r_nil ?_
        refine ⟨by kernel_rfl, ?_⟩
        refine i_then ?_
        refine t_cond_dec rfl (fun hc3 => ?_) (fun hc3 => ?_)
        ·
          refine t_seq ?_
          refine t_region ?_
          refine asI rfl ?_
          refine r_nil ?_
          refine i_then ?_
          refine t_ret ?_
          refine i_block_ret ?_
          refine i_then_ret ?_
          refine i_then_ret ?_
          refine i_block_ret ?_
          refine i_then_ret ?_
          refine i_rp1 rfl rfl ?_
          all_goals skip
          all_goals exact ret_eq rfl rfl (congrArg (Ty.int .i64) (rE4 hc1 (i.2.yes (by omega) hc3)).symm)
        ·
          refine t_skip ?_
          refine i_block ?_
          refine i_then ?_
          refine t_region ?_
          refine mvI rfl ?_
          refine r_add rfl rfl (by omega) (by omega) ?_
          refine asI rfl ?_
          refine r_nil ?_
          refine i_round (⟨i.1 + 1, i.2.next hc3⟩) ?_ (by show l.length - (i.1 + 1) < l.length - i.1; omega)
          (refine Ent.mk' ?_ ?_ <;> (repeat' (first | exact allSub_zero | exact allTags_nil | refine allSub_succ' ?_ (Ty.sub_any _) | refine allSub_succ' ?_ (Ty.sub_refl _))))
          all_goals skip
      ·
        refine t_exit ?_
        refine i_then_exit ?_
        refine i_then_exit ?_
        refine i_block_exit rfl ?_
        refine i_then ?_
        refine t_seq ?_
        refine t_seq ?_
        have hor := i.2.end (by omega)
        refine t_region ?_
        refine mvS rfl ?_
        refine r_len rfl rfl rfl ?_
        refine mvI rfl ?_
        refine r_nil ?_
        refine i_then ?_
        refine t_block ?_
        refine t_loop (fun (k : {k : Nat // ∀ i, i < k → twI d.b p l i = false}) => live [(2, Ty.int .i64 g), (3, Ty.sl TurE l), (4, Ty.pp [Ty.pe DeskE d 0]), (5, Ty.pp (plT p)), (34, Ty.sl TurE l), (35, Ty.int .i64 l.length), (36, Ty.int .i64 (k.1 : Nat))] []) (fun k => l.length - k.1) (⟨0, fun i hi => absurd hi (Nat.not_lt_zero i)⟩) ?_ fun k => ?_
        · (refine Ent.mk' ?_ ?_ <;> (repeat' (first | exact allSub_zero | exact allTags_nil | refine allSub_succ' ?_ (Ty.sub_any _) | refine allSub_succ' ?_ (Ty.sub_refl _))))
        ·
          refine t_seq ?_
          refine t_region ?_
          refine r_bin rfl rfl rfl ?_
          refine r_nil ?_
          refine i_then ?_
          refine t_seq ?_
          refine t_cond_dec rfl (fun hc4 => ?_) (fun hc4 => ?_)
          ·
            refine t_skip ?_
            refine i_then ?_
            refine t_seq ?_
            refine t_block ?_
            refine t_seq ?_
            refine t_region ?_
            refine mvI rfl ?_
            refine r_index_slN rfl rfl rfl rfl rfl rfl (by omega) ?_
            refine r_load_ppN rfl rfl rfl (by exact Nat.le_of_ble_eq_true rfl) ?_
            refine r_alloc rfl (by exact List.cons_ne_nil _ _) rfl ?_
            refine asI rfl ?_
            refine r_storeN rfl rfl (by decide) rfl rfl rfl rfl rfl rfl ?_
            refine r_nil ?_
            refine i_then ?_
            refine t_seq ?_
            refine t_pub (tg := 12) [(11, Ty.pp (TurE.tys (nth l k.1)))] (by decide) rfl ⟨pub_ptr (T := 37) (tg := 12) (off := 0) (l := TurE.tys (nth l k.1)) rfl rfl rfl (by decide), trivial⟩ ?_
            refine t_region ?_
            refine r_load_pp rfl rfl rfl rfl ?_
            refine r_load_ppN rfl rfl rfl (by exact Nat.le_of_ble_eq_true rfl) ?_
            refine r_field_pp rfl rfl rfl rfl rfl (by decide) ?_
            refine r_load_pp rfl rfl rfl rfl ?_
            refine r_call (c_taken d h6 p (nth l k.1).aim) rfl rfl rfl rfl rfl ?_
            refine mvB rfl ?_
            apply r_guard (s := 46) rfl rfl rfl
            · intro hg; apply opT_of; (refine mvS rfl ?_); refine r_nil ?_; exact rfl
            · exact rfl
            · exact rfl
            apply r_guard (s := 46) rfl rfl rfl
            · intro hg; apply opT_of; (refine mvI rfl ?_); refine r_nil ?_; exact rfl
            · exact rfl
            · exact rfl
            apply r_guard (s := 46) rfl rfl rfl
            · intro hg; apply opT_strip (s := 47) rfl (by (rw [hg]; rfl)); apply opT_strip (s := 48) rfl (by (rw [hg]; rfl)); apply opT_of; (refine r_cut_hi rfl rfl rfl rfl rfl rfl (show k.1 ≤ l.length by omega) ?_); refine r_nil ?_; exact rfl
            · exact rfl
            · exact rfl
            apply r_guard (s := 46) rfl rfl rfl
            · intro hg; apply opT_of; (refine r_makeFunc rfl ?_); refine r_nil ?_; exact rfl
            · exact rfl
            · exact rfl
            apply r_guard (s := 46) rfl rfl rfl
            · intro hg; apply opT_strip (s := 49) rfl (by (rw [hg]; rfl)); apply opT_strip (s := 50) rfl (by (rw [hg]; rfl)); apply opT_of; (refine r_call (c_ContainsFunc_tur (l.take k.1) (Ty.clo 102 [Ty.pp (TurE.tys (nth l k.1))]) rfl (fun u => decide (u.aim = (nth l k.1).aim)) rfl rfl fun x _ => cal_clo (c_round2 _ x) rfl rfl rfl rfl rfl rfl) rfl rfl rfl rfl rfl ?_); refine r_nil ?_; exact rfl
            · exact rfl
            · exact rfl
            refine r_or rfl rfl ?_
            refine r_nil ?_
            refine i_then ?_
            refine t_cond rfl (fun hc5 => ?_) (fun hc5 => ?_)
            ·
              refine t_seq ?_
              refine t_region ?_
              refine asI rfl ?_
              refine r_nil ?_
              refine i_then ?_
              refine t_ret ?_
              refine i_block_ret ?_
              refine i_then_ret ?_
              refine i_then_ret ?_
              refine i_block_ret ?_
              refine i_then_ret ?_
              refine i_rp1 rfl rfl ?_
              all_goals skip
              all_goals exact ret_eq rfl rfl (congrArg (Ty.int .i64) (rE5 hc1 hor (tw_yes (by omega) hc5)).symm)
            ·
              refine t_skip ?_
              refine i_block ?_
              refine i_then ?_
              refine t_region ?_
              refine r_add rfl rfl (by omega) (by omega) ?_
              refine mvI rfl ?_
              refine r_nil ?_
              refine i_round (⟨k.1 + 1, rng_ext k.2 hc5⟩) ?_ (by show l.length - (k.1 + 1) < l.length - k.1; omega)
              (refine Ent.mk' ?_ ?_ <;> (repeat' (first | exact allSub_zero | exact allTags_nil | refine allSub_succ' ?_ (Ty.sub_any _) | refine allSub_succ' ?_ (Ty.sub_refl _))))
              all_goals skip
          ·
            refine t_exit ?_
            refine i_then_exit ?_
            refine i_then_exit ?_
            refine i_block_exit rfl ?_
            refine i_then ?_
            refine t_seq ?_
            refine t_seq ?_
            have htw := tw_no k.2 (by omega)
            refine t_region ?_
            refine mvS rfl ?_
            refine r_makeFunc rfl ?_
            refine r_call (c_every_tur l (Ty.clo 103 [Ty.pp [Ty.pe DeskE d 0]]) rfl (fun t => d.b.hold t.aim t.lot) rfl rfl fun x hx => cal_clo (c_round3 d x (har x hx)) rfl rfl rfl rfl rfl rfl) rfl rfl rfl rfl rfl ?_
            refine r_not rfl ?_
            refine r_nil ?_
            refine i_then ?_
            refine t_cond rfl (fun hc6 => ?_) (fun hc6 => ?_)
            ·
              refine t_seq ?_
              refine t_region ?_
              refine asI rfl ?_
              refine r_nil ?_
              refine i_then ?_
              refine t_ret ?_
              refine i_then_ret ?_
              refine i_rp1 rfl rfl ?_
              all_goals skip
              all_goals exact ret_eq rfl rfl (congrArg (Ty.int .i64) (rE9 hc1 hor htw hc6).symm)
            ·
              refine t_skip ?_
              refine i_then ?_
              refine t_seq ?_
              refine t_seq ?_
              refine t_region ?_
              refine mvS rfl ?_
              refine r_len rfl rfl rfl ?_
              refine mvI rfl ?_
              refine r_bin rfl rfl rfl ?_
              refine r_nil ?_
              refine i_then ?_
              refine t_cond_dec rfl (fun hc7 => ?_) (fun hc7 => ?_)
              ·
                refine t_seq ?_
                refine t_region ?_
                refine asI rfl ?_
                refine r_nil ?_
                refine i_then ?_
                refine t_ret ?_
                refine i_then_ret ?_
                refine i_rp1 rfl rfl ?_
                all_goals skip
                all_goals exact ret_eq rfl rfl (congrArg (Ty.int .i64) (rE2 hc1 hor htw hc6 hc7).symm)
              ·
                refine t_skip ?_
                refine i_then ?_
                refine t_seq ?_
                refine t_region ?_
                refine asI rfl ?_
                refine r_nil ?_
                refine i_then ?_
                refine t_ret ?_
                refine i_rp1 rfl rfl ?_
                all_goals skip
                all_goals exact ret_eq rfl rfl (congrArg (Ty.int .i64) (rE0 hc1 hor htw hc6 hc7).symm)
set_option maxRecDepth 100000 in
theorem c_Works (b : Barn) (hs : b.Small) (g : Int) (rs : List (List Tur)) (hl : ∀ l ∈ rs, l.length ≤ 400000000) : Ctr Tryz.prog 16 [barnT b, Ty.int .i64 g, Ty.sl RowT rs] (Ty.tup [Ty.bool (worksV b g rs).1, Ty.int .i64 (worksV b g rs).2]) := by
  refine fn_intro Tryz.func16 rfl (by decide) Tryz.ntmps16 (by exact Nat.le_of_ble_eq_true rfl) fun w0 M0 => ?_
  refine t_seq ?_
  refine t_region ?_
  refine r_box_agg rfl ?_
  refine asB rfl ?_
  refine asI rfl ?_
  refine r_nil ?_
  refine i_then ?_
  refine t_seq ?_
  refine t_region ?_
  refine r_load_ppN rfl rfl rfl (by exact Nat.le_of_ble_eq_true rfl) ?_
  refine mvI rfl ?_
  refine r_call (c_asked b hs g) rfl rfl rfl rfl rfl ?_
  refine mvT rfl ?_
  refine r_extract rfl rfl ?_
  refine r_extract rfl rfl ?_
  refine asW rfl ?_
  refine asI rfl ?_
  refine r_nil ?_
  refine i_then ?_
  refine t_seq ?_
  refine t_seq ?_
  refine t_region ?_
  refine mvI rfl ?_
  refine r_bin rfl rfl rfl ?_
  refine r_nil ?_
  refine i_then ?_
  refine t_cond_ndec rfl (fun hc1 => ?_) (fun hc1 => ?_)
  ·
    refine t_seq ?_
    refine t_region ?_
    refine mvI rfl ?_
    refine asB rfl ?_
    refine asI rfl ?_
    refine r_nil ?_
    refine i_then ?_
    refine t_ret ?_
    refine i_then_ret ?_
    refine i_rp2 rfl rfl rfl ?_ ?_
    all_goals skip
    all_goals first | exact ret_eq rfl rfl (congrArg (fun z : Bool × Int => Ty.bool z.1) (worksV_1 hc1).symm) | exact ret_eq rfl rfl (congrArg (fun z : Bool × Int => Ty.int .i64 z.2) (worksV_1 hc1).symm)
  ·
    refine t_skip ?_
    refine i_then ?_
    refine t_seq ?_
    refine t_seq ?_
    have hask := ask_zero hc1
    have hr := check_right hask.1
    have h6 := hr.lots
    refine t_as (s := 8) rfl (Ty.when_sub (decide_eq_true hc1)) ?_
    refine t_region ?_
    refine mvS rfl ?_
    refine r_len rfl rfl rfl ?_
    refine r_bin rfl rfl rfl ?_
    refine r_nil ?_
    refine i_then ?_
    refine t_cond_dec rfl (fun hc2 => ?_) (fun hc2 => ?_)
    ·
      refine t_seq ?_
      refine t_region ?_
      refine asB rfl ?_
      refine asI rfl ?_
      refine r_nil ?_
      refine i_then ?_
      refine t_ret ?_
      refine i_then_ret ?_
      refine i_rp2 rfl rfl rfl ?_ ?_
      all_goals skip
      all_goals first | exact ret_eq rfl rfl (congrArg (fun z : Bool × Int => Ty.bool z.1) (worksV_2 hc1 hc2).symm) | exact ret_eq rfl rfl (congrArg (fun z : Bool × Int => Ty.int .i64 z.2) (worksV_2 hc1 hc2).symm)
    ·
      refine t_skip ?_
      refine i_then ?_
      refine t_seq ?_
      refine t_region ?_
      refine mvPe rfl ?_
      refine r_nilCheck_pe rfl ?_
      refine r_field_pe rfl rfl rfl rfl rfl (by decide) ?_
      refine r_load_peN rfl rfl rfl rfl rfl ?_
      refine r_alloc rfl (by exact List.cons_ne_nil _ _) rfl ?_
      refine r_storeN rfl rfl (by decide) rfl rfl rfl rfl rfl rfl ?_
      refine r_nil ?_
      refine i_then ?_
      refine t_seq ?_
      refine t_seq ?_
      refine t_region ?_
      refine mvS rfl ?_
      refine r_len rfl rfl rfl ?_
      refine mvI rfl ?_
      refine r_nil ?_
      refine i_then ?_
      refine t_block ?_
      refine t_loop (fun (x : {x : Nat × Pl // WIx b g rs x.1 x.2}) => live [(1, Ty.int .i64 g), (8, Ty.pe DeskE ⟨b, firstP b⟩ 0), (10, Ty.ptr 11 0), (32, Ty.sl RowT rs), (33, Ty.int .i64 rs.length), (34, Ty.int .i64 (x.1.1 : Nat))] [(11, Cont.cells 91 (plT x.1.2))]) (fun x => rs.length - x.1.1) (⟨(0, firstP b), wix0 b g rs⟩) ?_ fun x => ?_
      · (refine Ent.mk' ?_ ?_ <;> (repeat' (first | exact allSub_zero | exact allTags_nil | refine allSub_succ' ?_ (Ty.sub_any _) | refine allSub_succ' ?_ (Ty.sub_refl _) | refine allTags_cons rfl (Cont.sub_refl _) ?_)))
      ·
        have hxe := x.2.le
        refine t_seq ?_
        refine t_region ?_
        refine r_bin rfl rfl rfl ?_
        refine r_nil ?_
        refine i_then ?_
        refine t_seq ?_
        refine t_cond_dec rfl (fun hc3 => ?_) (fun hc3 => ?_)
        ·
          refine t_skip ?_
          refine i_then ?_
          refine t_seq ?_
          refine t_block ?_
          refine t_seq ?_
          refine t_region ?_
          refine r_index_slN rfl rfl rfl rfl rfl rfl (by omega) ?_
          refine r_load_pp rfl rfl rfl rfl ?_
          refine asS rfl ?_
          refine r_nil ?_
          refine i_then ?_
          refine t_seq ?_
          refine t_seq ?_
          refine t_region ?_
          refine mvPe rfl ?_
          refine r_load_ptrN rfl rfl (by decide) rfl rfl (by exact Nat.le_of_ble_eq_true rfl) ?_
          refine mvI rfl ?_
          refine mvS rfl ?_
          refine r_call (c_round ⟨b, firstP b⟩ hs h6 x.1.2 g (nth rs x.1.1) (hl _ (nth_mem (by omega)))) rfl rfl rfl rfl rfl ?_
          refine asI rfl ?_
          refine r_nil ?_
          refine i_then ?_
          refine t_seq ?_
          refine t_region ?_
          refine mvI rfl ?_
          refine r_bin rfl rfl rfl ?_
          refine r_nil ?_
          refine i_then ?_
          refine t_cond_ndec rfl (fun hc4 => ?_) (fun hc4 => ?_)
          ·
            refine t_seq ?_
            refine t_region ?_
            refine mvI rfl ?_
            refine asB rfl ?_
            refine asI rfl ?_
            refine r_nil ?_
            refine i_then ?_
            refine t_ret ?_
            refine i_then_ret ?_
            refine i_block_ret ?_
            refine i_then_ret ?_
            refine i_then_ret ?_
            refine i_block_ret ?_
            refine i_then_ret ?_
            refine i_rp2 rfl rfl rfl ?_ ?_
            all_goals skip
            all_goals first | exact ret_eq rfl rfl (congrArg (fun z : Bool × Int => Ty.bool z.1) (worksV_3 hc1 hc2 (x.2.stop (by omega) hc4)).symm) | exact ret_eq rfl rfl (congrArg (fun z : Bool × Int => Ty.int .i64 z.2) (worksV_3 hc1 hc2 (x.2.stop (by omega) hc4)).symm)
          ·
            refine t_skip ?_
            refine i_then ?_
            refine t_seq ?_
            have hRo : RoundOk b x.1.2 g (nth rs x.1.1) := roundE_ok.1 hc4
            have hll := hl _ (nth_mem (xs := rs) (k := x.1.1) (by omega))
            refine t_region ?_
            refine mvS rfl ?_
            refine r_len rfl rfl rfl ?_
            refine mvI rfl ?_
            refine r_nil ?_
            refine i_then ?_
            refine t_block ?_
            refine t_loop (fun (j : {j : Nat // j ≤ (nth rs x.1.1).length}) => live [(1, Ty.int .i64 g), (8, Ty.pe DeskE ⟨b, firstP b⟩ 0), (10, Ty.ptr 11 0), (32, Ty.sl RowT rs), (33, Ty.int .i64 rs.length), (34, Ty.int .i64 (x.1.1 : Nat)), (46, Ty.sl TurE (nth rs x.1.1)), (47, Ty.int .i64 (nth rs x.1.1).length), (48, Ty.int .i64 (j.1 : Nat))] [(11, Cont.cells 91 (plT (mvUp x.1.2 (nth rs x.1.1) j.1)))]) (fun j => (nth rs x.1.1).length - j.1) (⟨0, by omega⟩) ?_ fun j => ?_
            · (refine Ent.mk' ?_ ?_ <;> (repeat' (first | exact allSub_zero | exact allTags_nil | refine allSub_succ' ?_ (Ty.sub_any _) | refine allSub_succ' ?_ (Ty.sub_refl _) | refine allTags_cons rfl (Cont.sub_refl _) ?_)))
              all_goals trace_state
            ·
              have hj := j.2
              refine t_seq ?_
              refine t_region ?_
              refine r_bin rfl rfl rfl ?_
              refine r_nil ?_
              refine i_then ?_
              refine t_seq ?_
              refine t_cond_dec rfl (fun hc5 => ?_) (fun hc5 => ?_)
              ·
                refine t_skip ?_
                refine i_then ?_
                refine t_seq ?_
                refine t_block ?_
                refine t_seq ?_
                refine t_region ?_
                refine r_index_slN rfl rfl rfl rfl rfl rfl (by omega) ?_
                refine r_load_ppN rfl rfl rfl (by exact Nat.le_of_ble_eq_true rfl) ?_
                refine r_alloc rfl (by exact List.cons_ne_nil _ _) rfl ?_
                refine r_storeN rfl rfl (by decide) rfl rfl rfl rfl rfl rfl ?_
                refine r_nil ?_
                refine i_then ?_
                have hto := hRo.ok _ (nth_mem (xs := nth rs x.1.1) (k := j.1) (by omega))
                have htl := hto.1
                refine t_region ?_
                refine r_field_ptr rfl rfl rfl rfl rfl (by decide) ?_
                refine r_load_ptr rfl rfl (by decide) rfl rfl rfl ?_
                refine r_field_ptr rfl rfl rfl rfl rfl (by decide) ?_
                refine r_load_ptr rfl rfl (by decide) rfl rfl rfl ?_
                refine r_index_ptrI (n := 6) rfl rfl rfl rfl rfl htl.1 (by omega) ?_
                refine r_store1 (l' := plT (moved (mvUp x.1.2 (nth rs x.1.1) j.1) (nth (nth rs x.1.1) j.1))) rfl rfl (by decide) rfl rfl (by exact (rfl : _ = Ty.int _ _)) rfl (by show 0 + _ * 1 < 6; omega) rfl rfl (pl_moved _ _ (by omega)) ?_
                refine r_nil ?_
                refine i_block ?_
                refine i_then ?_
                refine t_region ?_
                refine r_add rfl rfl (by omega) (by omega) ?_
                refine mvI rfl ?_
                refine r_nil ?_
                refine i_round (⟨j.1 + 1, by omega⟩) ?_ (by show (nth rs x.1.1).length - (j.1 + 1) < (nth rs x.1.1).length - j.1; omega)
                (refine Ent.mk' ?_ ?_ <;> (repeat' (first | exact allSub_zero | exact allTags_nil | exact subs_nil | refine allSub_succ' ?_ (Ty.sub_any _) | refine allSub_succ' ?_ (Ty.sub_refl _) | refine allTags_cons rfl (Cont.sub_subs ?_) ?_ | refine subs_cons ?_ ?_)))
                all_goals skip
                all_goals exact pl_sub (mvUp_succ (by omega)) _
              ·
                refine t_exit ?_
                refine i_then_exit ?_
                refine i_then_exit ?_
                refine i_block_exit rfl ?_
                refine i_block ?_
                refine i_then ?_
                refine t_region ?_
                refine r_add rfl rfl (by omega) (by omega) ?_
                refine mvI rfl ?_
                refine r_nil ?_
                refine i_round (⟨(x.1.1 + 1, movedAll x.1.2 (nth rs x.1.1)), x.2.next (by omega) hc4⟩) ?_ (by show rs.length - (x.1.1 + 1) < rs.length - x.1.1; omega)
                (refine Ent.mk' ?_ ?_ <;> (repeat' (first | exact allSub_zero | exact allTags_nil | exact subs_nil | refine allSub_succ' ?_ (Ty.sub_any _) | refine allSub_succ' ?_ (Ty.sub_refl _) | refine allTags_cons rfl (Cont.sub_subs ?_) ?_ | refine subs_cons ?_ ?_)))
                all_goals skip
                all_goals exact pl_sub (mvUp_all (by omega)) _
        ·
          refine t_exit ?_
          refine i_then_exit ?_
          refine i_then_exit ?_
          refine i_block_exit rfl ?_
          refine i_then ?_
          refine t_seq ?_
          refine t_region ?_
          refine mvPe rfl ?_
          refine r_load_ptrN rfl rfl (by decide) rfl rfl (by exact Nat.le_of_ble_eq_true rfl) ?_
          refine r_call (c_made ⟨b, firstP b⟩ h6 x.1.2) rfl rfl rfl rfl rfl ?_
          refine asB rfl ?_
          refine asI rfl ?_
          refine r_nil ?_
          refine i_then ?_
          refine t_ret ?_
          refine i_rp2 rfl rfl rfl ?_ ?_
          all_goals skip
          all_goals first | exact ret_eq rfl rfl (congrArg (fun z : Bool × Int => Ty.bool z.1) (worksV_3 hc1 hc2 (x.2.end (by omega))).symm) | exact ret_eq rfl rfl (congrArg (fun z : Bool × Int => Ty.int .i64 z.2) (worksV_3 hc1 hc2 (x.2.end (by omega))).symm)
end Go.Proofs.YtpnndljmhpepgaaGreat

namespace Go.Proofs.YtpnndljmhpepgaaGreat
open Go Go.T
variable {b : Barn} {p q : Pl} {g : Int} {l : List Tur} {t : Tur}
def cutP (b : Barn) (p : Pl) : List Int := p.1.take b.lots.length
theorem cut_len (h6 : b.lots.length ≤ 6) (p : Pl) : (cutP b p).length = b.lots.length := by unfold cutP; rw [List.length_take, p.2]; omega
theorem cut_first (h6 : b.lots.length ≤ 6) : cutP b (firstP b) = innL b := first_inn h6
theorem cut_has (b : Barn) (p : Pl) (k : Int) : decide (k ∈ cutP b p) = takenP b p k := by
  unfold cutP takenP
  rw [Bool.eq_iff_iff, decide_eq_true_eq, List.any_eq_true]
  constructor
  · intro h; exact ⟨k, h, decide_eq_true rfl⟩
  · rintro ⟨x, hx, e⟩; rw [← of_decide_eq_true e]; exact hx
theorem cut_moved (b : Barn) (p : Pl) (t : Tur) : cutP b (moved p t) = (cutP b p).set t.lot.toNat t.aim := by
  unfold cutP
  show (p.1.set t.lot.toNat t.aim).take _ = _
  rw [List.take_set]
theorem cut_made (hr : b.Right) (p : Pl) : madeL b (cutP b p) = madeP b p := by
  have h6 := hr.lots
  rw [made_law hr (cut_len h6 p), cut_len h6 p]
  unfold madeP
  rw [Bool.eq_iff_iff, List.all_eq_true, List.all_eq_true]
  have key : ∀ i, i ∈ List.range b.lots.length → okI b (cutP b p) i = (decide ((nth b.lots i).aim = -1) || decide ((nth b.lots i).aim = nth p.1 i)) := fun i hi => by
    unfold okI cutP; rw [nth_take (List.mem_range.1 hi)]
  exact ⟨fun h i hi => by rw [← key i hi]; exact h i hi, fun h i hi => by rw [key i hi]; exact h i hi⟩
theorem movedAll_nil (p : Pl) : movedAll p [] = p := rfl
def rroundV (b : Barn) (p : Pl) (g : Int) (l : List Tur) : List Int := if roundE b p g l = 0 then cutP b (movedAll p l) else []
theorem rround_no (h : ¬ roundE b p g l = 0) : rroundV b p g l = [] := if_neg h
theorem rround_ok (h : roundE b p g l = 0) : rroundV b p g l = cutP b (movedAll p l) := if_pos h
def skipA (b : Barn) (p now : List Int) (lot k : Nat) : Bool := (decide ((k : Int) ∈ p) || decide ((k : Int) ∈ now)) || decide (nth b.sizes k < (nth b.lots lot).sacks)
def afterL (b : Barn) (p : List Int) : Nat → List Int → Nat → Int → List (List Int)
  | 0, now, _, _ => [now]
  | m + 1, now, lot, left => afterL b p m now (lot + 1) left ++ (if 0 < left then (List.range b.sizes.length).flatMap fun k => if skipA b p now lot k = true then [] else afterL b p m (now.set lot k) (lot + 1) (left - 1) else [])
def afterK (b : Barn) (p : List Int) (m : Nat) (now : List Int) (lot : Nat) (left : Int) (k : Nat) : List (List Int) := if skipA b p now lot k = true then [] else afterL b p m (now.set lot k) (lot + 1) (left - 1)
def afterUp (b : Barn) (p : List Int) (m : Nat) (now : List Int) (lot : Nat) (left : Int) (n : Nat) : List (List Int) := afterL b p m now (lot + 1) left ++ (List.range n).flatMap (afterK b p m now lot left)
theorem flatMap_len8 {α β : Type} {f : α → List β} {d : Nat} : ∀ {l : List α}, (∀ x ∈ l, (f x).length ≤ d) → (l.flatMap f).length ≤ l.length * d
  | [], _ => by simp
  | x :: l, h => by
    rw [List.flatMap_cons, List.length_append, List.length_cons, Nat.succ_mul]
    have h1 := h x List.mem_cons_self
    have h2 := flatMap_len8 (f := f) (d := d) (l := l) fun y hy => h y (List.mem_cons_of_mem _ hy)
    omega
section
variable {m : Nat} {now pp : List Int} {lot k n : Nat} {left : Int}
theorem afterUp_zero : afterL b pp m now (lot + 1) left = afterUp b pp m now lot left 0 := by unfold afterUp; simp
theorem afterUp_succ : afterUp b pp m now lot left (n + 1) = afterUp b pp m now lot left n ++ afterK b pp m now lot left n := by
  unfold afterUp; rw [List.range_succ, List.flatMap_append, List.append_assoc]; simp
theorem afterUp_yes (h : skipA b pp now lot n = false) : afterUp b pp m now lot left n ++ afterL b pp m (now.set lot n) (lot + 1) (left - 1) = afterUp b pp m now lot left (n + 1) := by
  rw [afterUp_succ]; unfold afterK; rw [if_neg (by rw [h]; decide)]
theorem afterUp_no (h : skipA b pp now lot n = true) : afterUp b pp m now lot left n = afterUp b pp m now lot left (n + 1) := by
  rw [afterUp_succ]; unfold afterK; rw [if_pos h, List.append_nil]
theorem after_end (hn : n ≤ b.sizes.length) (h : ¬ ((n : Int) < b.sizes.length ∧ 0 < left)) (h0 : left ≤ 0 → n = 0) : afterUp b pp m now lot left n = afterL b pp (m + 1) now lot left := by
  show _ = afterL b pp m now (lot + 1) left ++ _
  unfold afterUp
  by_cases c : 0 < left
  · rw [if_pos c, show n = b.sizes.length by omega]; rfl
  · rw [if_neg c, h0 (by omega)]; rfl
theorem after_len (hs : b.sizes.length ≤ 7) : ∀ (m : Nat) (now : List Int) (lot : Nat) (left : Int), (afterL b pp m now lot left).length ≤ 8 ^ m
  | 0, _, _, _ => Nat.le_refl _
  | m + 1, now, lot, left => by
    show (afterL b pp m now (lot + 1) left ++ _).length ≤ _
    rw [List.length_append, Nat.pow_succ]
    have h1 := after_len hs m now (lot + 1) left
    have h2 : (if 0 < left then (List.range b.sizes.length).flatMap fun k => if skipA b pp now lot k = true then [] else afterL b pp m (now.set lot k) (lot + 1) (left - 1) else []).length ≤ 7 * 8 ^ m := by
      split
      · refine Nat.le_trans (flatMap_len8 (d := 8 ^ m) fun x _ => ?_) (Nat.mul_le_mul_right _ (by rw [List.length_range]; exact hs))
        split
        · exact Nat.zero_le _
        · exact after_len hs m _ _ _
      · exact Nat.zero_le _
    omega
theorem afterUp_len (hs : b.sizes.length ≤ 7) (hn : n ≤ b.sizes.length) : (afterUp b pp m now lot left n).length ≤ 8 ^ (m + 1) := by
  unfold afterUp
  rw [List.length_append, Nat.pow_succ]
  have h1 := after_len (pp := pp) hs m now (lot + 1) left
  have h2 : ((List.range n).flatMap (afterK b pp m now lot left)).length ≤ 7 * 8 ^ m := by
    refine Nat.le_trans (flatMap_len8 (d := 8 ^ m) fun x _ => ?_) (Nat.mul_le_mul_right _ (by rw [List.length_range]; omega))
    unfold afterK
    split
    · exact Nat.zero_le _
    · exact after_len hs m _ _ _
  omega
end
end Go.Proofs.YtpnndljmhpepgaaGreat

namespace Go.Proofs.YtpnndljmhpepgaaGreat
open Go Go.T
variable {b : Barn} {p q : Pl} {g : Int} {l : List Tur} {t : Tur}
theorem round_init {s : Tur} (h : RoundOk b p g (l ++ [s])) : RoundOk b p g l := ⟨by have := h.len; rw [List.length_append] at this; simp at this; omega, fun s hs => h.ok s (List.mem_append.2 (.inl hs)), (List.pairwise_append.1 h.apart).1⟩
theorem moved_at (h6 : b.lots.length ≤ 6) : ∀ (l : List Tur), RoundOk b p g l → ∀ t ∈ l, nth (movedAll p l).1 t.lot.toNat = t.aim := by
  refine snoc_ind (fun _ t ht => by cases ht) fun l s ih h t ht => ?_
  have hs := h.ok s (List.mem_append.2 (.inr (List.mem_singleton.2 rfl)))
  have htk := h.ok t ht
  rw [movedAll_snoc, moved_nth (by have := htk.1; omega)]
  rcases List.mem_append.1 ht with hm | hm
  · have hlt := ((List.pairwise_append.1 h.apart).2.2 t hm s (List.mem_singleton.2 rfl)).1
    rw [if_neg (by have := htk.1; have := hs.1; omega)]
    exact ih (round_init h) t hm
  · rw [List.mem_singleton.1 hm, if_pos rfl]
theorem skip_eq (h6 : b.lots.length ≤ 6) (h : RoundOk b p g l) (k lot : Nat) : skipA b (cutP b p) (cutP b (movedAll p l)) lot k = skipR b p l k lot := by
  unfold skipA skipR
  rw [cut_has, cut_has]
  have hh : decide (nth b.sizes k < (nth b.lots lot).sacks) = !b.hold k lot := by
    unfold Barn.hold
    rw [Bool.eq_iff_iff, decide_eq_true_eq, Bool.not_eq_true', decide_eq_false_iff_not]
    show _ ↔ ¬ ((nth b.lots lot).sacks ≤ nth b.sizes k)
    omega
  rw [hh]
  cases hp : takenP b p k with
  | true => simp
  | false =>
    have e : takenP b (movedAll p l) k = l.any fun t => decide (t.aim = (k : Int)) := by
      rw [Bool.eq_iff_iff, taken_iff h6, List.any_eq_true]
      constructor
      · rintro ⟨i, hi, e⟩
        rcases all_nth l h i (by omega) with h1 | ⟨t, ht, h1⟩
        · have := (taken_iff h6).2 ⟨i, hi, h1.symm.trans e⟩
          rw [hp] at this; cases this
        · exact ⟨t, ht, decide_eq_true (h1.symm.trans e)⟩
      · rintro ⟨t, ht, e⟩
        have h1 := (h.ok t ht).1
        exact ⟨t.lot.toNat, by omega, (moved_at h6 l h t ht).trans (of_decide_eq_true e)⟩
    rw [e]
    simp [Bool.or_comm]
theorem after_mem (h6 : b.lots.length ≤ 6) : ∀ (m lot : Nat) (l0 : List Tur) (q : List Int), lot + m = b.lots.length → RoundOk b p g l0 → (∀ t ∈ l0, t.lot < lot) →
    (q ∈ afterL b (cutP b p) m (cutP b (movedAll p l0)) lot (g - (l0.length : Int)) ↔ ∃ l, l ∈ roundsW b p g l0 lot ∧ q = cutP b (movedAll p l))
  | 0, lot, l0, q, hm, h0, hl0 => by
    rw [rounds_end (by rw [decide_eq_true (show (lot : Int) = b.lots.length by omega)]; rfl)]
    show q ∈ [_] ↔ _
    rw [List.mem_singleton]
    constructor
    · intro e; exact ⟨l0, List.mem_singleton.2 rfl, e⟩
    · rintro ⟨l, hl, e⟩; rw [List.mem_singleton.1 hl] at e; exact e
  | m + 1, lot, l0, q, hm, h0, hl0 => by
    have ih := after_mem h6 m (lot + 1) l0 q (by omega) h0 (fun t ht => by have := hl0 t ht; omega)
    show q ∈ afterL b (cutP b p) m (cutP b (movedAll p l0)) (lot + 1) (g - (l0.length : Int)) ++ _ ↔ _
    rw [List.mem_append, ih]
    have hlen := h0.len
    by_cases hg : (l0.length : Int) = g
    · rw [if_neg (by omega), rounds_end (by rw [decide_eq_true hg, Bool.or_true]), rounds_end (by rw [decide_eq_true hg, Bool.or_true])]
      constructor
      · rintro (h | h)
        · exact h
        · cases h
      · exact .inl
    · rw [if_pos (by omega), rounds_on (lot := lot) (l := l0) (by omega) hg]
      have step : ∀ k, k < b.sizes.length → skipR b p l0 k lot = false → (q ∈ afterL b (cutP b p) m ((cutP b (movedAll p l0)).set lot k) (lot + 1) (g - (l0.length : Int) - 1) ↔ ∃ l, l ∈ roundsW b p g (l0 ++ [⟨lot, k⟩]) (lot + 1) ∧ q = cutP b (movedAll p l)) := fun k hk hs => by
        obtain ⟨⟨e1, e2⟩, e3⟩ := skip_no.1 hs
        have hok : RoundOk b p g (l0 ++ [⟨lot, k⟩]) := by
          refine ⟨by rw [List.length_append]; simp; omega, fun t ht => ?_, ?_⟩
          · rcases List.mem_append.1 ht with ht | ht
            · exact h0.ok t ht
            · rw [List.mem_singleton.1 ht]
              exact ⟨⟨by show 0 ≤ (lot : Int); omega, by show (lot : Int) < _; omega⟩, ⟨by show 0 ≤ (k : Int); omega, by show (k : Int) < _; omega⟩, e1, e2⟩
          · rw [List.pairwise_append]
            refine ⟨h0.apart, List.pairwise_singleton _ _, fun s hs t ht => ?_⟩
            rw [List.mem_singleton.1 ht]
            exact ⟨hl0 s hs, e3 s hs⟩
        have ih2 := after_mem h6 m (lot + 1) (l0 ++ [⟨lot, k⟩]) q (by omega) hok (fun t ht => by
          rcases List.mem_append.1 ht with ht | ht
          · have := hl0 t ht; omega
          · rw [List.mem_singleton.1 ht]; show (lot : Int) < _; omega)
        rw [movedAll_snoc, cut_moved] at ih2
        rw [← ih2, List.length_append, List.length_singleton]
        rw [show g - ((l0.length + 1 : Nat) : Int) = g - (l0.length : Int) - 1 by omega]
        exact Iff.rfl
      constructor
      · rintro (⟨l, h1, h2⟩ | h)
        · exact ⟨l, List.mem_append_right _ h1, h2⟩
        · obtain ⟨k, hk, h⟩ := List.mem_flatMap.1 h
          have hk := List.mem_range.1 hk
          rw [skip_eq h6 h0] at h
          cases hs : skipR b p l0 k lot with
          | true => rw [hs, if_pos rfl] at h; cases h
          | false =>
            rw [hs, if_neg (by decide)] at h
            obtain ⟨l, h1, h2⟩ := (step k hk hs).1 h
            refine ⟨l, List.mem_append_left _ (List.mem_flatMap.2 ⟨k, List.mem_range.2 hk, ?_⟩), h2⟩
            rw [roundK_yes hs]; exact h1
      · rintro ⟨l, h1, h2⟩
        rcases List.mem_append.1 h1 with h1 | h1
        · obtain ⟨k, hk, h1⟩ := List.mem_flatMap.1 h1
          have hk := List.mem_range.1 hk
          cases hs : skipR b p l0 k lot with
          | true => rw [roundK_no hs] at h1; cases h1
          | false =>
            rw [roundK_yes hs] at h1
            refine .inr (List.mem_flatMap.2 ⟨k, List.mem_range.2 hk, ?_⟩)
            rw [skip_eq h6 h0, hs, if_neg (by decide)]
            exact (step k hk hs).2 ⟨l, h1, h2⟩
        · exact .inl ⟨l, h1, h2⟩
def aroundL (b : Barn) (g : Int) (x : List Int) : List (List Int) := afterL b x b.lots.length x 0 g
theorem around_mem (h6 : b.lots.length ≤ 6) (hg : 0 ≤ g) {y : List Int} : y ∈ aroundL b g (cutP b p) ↔ ∃ l, l ∈ allR b p g ∧ y = cutP b (movedAll p l) := by
  have h := after_mem (p := p) (g := g) h6 b.lots.length 0 [] y (by omega) ⟨by simp; exact hg, (fun t h => by cases h), List.Pairwise.nil⟩ (fun t h => by cases h)
  rw [movedAll_nil, List.length_nil, show g - ((0 : Nat) : Int) = g by omega] at h
  exact h
def ReachR (b : Barn) (g : Int) (n : Nat) (x : List Int) : Prop := ∃ rs p, goR b g (firstP b) rs = some p ∧ cutP b p = x ∧ rs.length ≤ n
theorem ReachR.next (h6 : b.lots.length ≤ 6) (hg : 0 ≤ g) {n : Nat} {x y : List Int} (h : ReachR b g n x) (hy : y ∈ aroundL b g x) : ReachR b g (n + 1) y := by
  obtain ⟨rs, p, h1, h2, h3⟩ := h
  rw [← h2] at hy
  obtain ⟨l, hl, e⟩ := (around_mem h6 hg).1 hy
  exact ⟨rs ++ [l], movedAll p l, goR_snoc h1 hl, e.symm, by rw [List.length_append, List.length_singleton]; omega⟩
theorem ReachR.bins (hr : b.Right) (hg : 0 ≤ g) {n : Nat} {x : List Int} (h : ReachR b g n x) : x.length = b.lots.length ∧ ∀ k ∈ x, 0 ≤ k ∧ k < 7 := by
  obtain ⟨rs, p, h1, h2, h3⟩ := h
  have h6 := hr.lots
  have hl := cut_len h6 p
  rw [← h2]
  refine ⟨hl, fun k hk => ?_⟩
  obtain ⟨i, hi, rfl⟩ := mem_nth hk
  rw [hl] at hi
  have := go_named h6 _ (first_named hr) (goR_flat h6 hg _ h1) i hi
  have h7 := hr.bins.2
  unfold cutP
  rw [nth_take hi]
  omega
structure Lv (b : Barn) (g : Int) (all : List (List Int)) (fr n : Nat) : Prop where
  pos : 0 < all.length
  nodup : all.Nodup
  fle : fr ≤ all.length
  nle : n ≤ fr
  reach : ∀ x ∈ all, ReachR b g n x
  old : ∀ rs p, rs.length < n → goR b g (firstP b) rs = some p → ∃ i, i < fr ∧ nth all i = cutP b p
  cur : ∀ rs p, rs.length ≤ n → goR b g (firstP b) rs = some p → cutP b p ∈ all
  closed : ∀ i, i < fr → ∀ y ∈ aroundL b g (nth all i), y ∈ all
  no : ∀ i, i < fr → madeL b (nth all i) = false
theorem lv0 (hr : b.Right) (g : Int) : Lv b g [innL b] 0 0 :=
  ⟨Nat.zero_lt_one, by simp, Nat.zero_le _, Nat.le_refl _, fun x hx => ⟨[], firstP b, rfl, by rw [List.mem_singleton.1 hx]; exact cut_first hr.lots, Nat.le_refl _⟩, fun rs p h => by omega, fun rs p h e => by
    have : rs = [] := List.length_eq_zero_iff.1 (by omega)
    subst this; injection e with e
    rw [← e, cut_first hr.lots]; exact List.mem_singleton.2 rfl, fun i h => by omega, fun i h => by omega⟩
theorem few_all (hr : b.Right) (hg : 0 ≤ g) {n : Nat} {all : List (List Int)} (hn : all.Nodup) (h : ∀ x ∈ all, ReachR b g n x) : all.length ≤ 117649 := by
  have h6 := hr.lots
  have h1 := nodup_sub hn (L := allL b.lots.length) fun x hx => mem_allL ((h x hx).bins hr hg).1 ((h x hx).bins hr hg).2
  rw [allL_len] at h1
  exact Nat.le_trans h1 (Nat.le_trans (Nat.pow_le_pow_right (by decide) h6) (by decide))
noncomputable def leastR (b : Barn) (g : Int) : Int := if roundsE b g = 0 then ((roundsV b g).length : Nat) else -1
section
variable {all : List (List Int)} {fr n : Nat} (h : Lv b g all fr n)
include h
theorem Lv.found (hr : b.Right) (hg : 1 ≤ g ∧ g ≤ 3) {i : Nat} (hi : i < all.length) (hm : madeL b (nth all i) = true) : (n : Int) = leastR b g := by
  have hR := rnds hr hg
  obtain ⟨rs, p, h1, h2, h3⟩ := h.reach _ (nth_mem hi)
  rw [← h2, cut_made hr] at hm
  unfold leastR
  rcases hR.err with e | e
  · rw [if_pos e]
    obtain ⟨q, k1, k2, k3⟩ := hR.yes e
    have k4 := k3 rs p h1 hm
    by_cases c : (roundsV b g).length < n
    · obtain ⟨j, j1, j2⟩ := h.old _ q c k1
      have := h.no j j1
      rw [j2, cut_made hr, k2] at this; cases this
    · omega
  · have := (hR.no e).2 rs p h1
    rw [hm] at this; cases this
theorem Lv.none (hr : b.Right) (hg : 1 ≤ g ∧ g ≤ 3) (hf : all.length ≤ fr) : -1 = leastR b g := by
  have hR := rnds hr hg
  have h6 := hr.lots
  have hall : ∀ (rs : List (List Tur)) (p : Pl), goR b g (firstP b) rs = some p → cutP b p ∈ all := by
    refine snoc_ind (fun p hp => h.cur [] p (Nat.zero_le _) hp) fun rs l ih p hp => ?_
    obtain ⟨p', h1, h2, rfl⟩ := goR_snoc_inv hp
    obtain ⟨i, hi, e⟩ := mem_nth (ih p' h1)
    refine h.closed i (by omega) _ ?_
    rw [← e]
    exact (around_mem h6 (by omega)).2 ⟨l, h2, rfl⟩
  unfold leastR
  rcases hR.err with e | e
  · exfalso
    obtain ⟨q, k1, k2, _⟩ := hR.yes e
    obtain ⟨i, hi, e2⟩ := mem_nth (hall _ q k1)
    have := h.no i (by omega)
    rw [← e2, cut_made hr, k2] at this; cases this
  · rw [if_neg (by rw [e]; decide)]
end
structure Ex (b : Barn) (g : Int) (all0 all : List (List Int)) (fr n i k : Nat) : Prop where
  pre : ∃ r, all = all0 ++ r
  nodup : all.Nodup
  fi : fr ≤ i ∧ i ≤ all0.length
  reach : ∀ x ∈ all, ReachR b g (n + 1) x
  done : ∀ j, fr ≤ j → j < i → ∀ y ∈ aroundL b g (nth all0 j), y ∈ all
  part : ∀ y ∈ (aroundL b g (nth all0 i)).take k, y ∈ all
section
variable {all0 all : List (List Int)} {fr n i k : Nat}
theorem ReachR.more {m : Nat} {x : List Int} (h : ReachR b g n x) (hm : n ≤ m) : ReachR b g m x := let ⟨rs, p, h1, h2, h3⟩ := h; ⟨rs, p, h1, h2, by omega⟩
theorem ex0 (h : Lv b g all fr n) : Ex b g all all fr n fr 0 := ⟨⟨[], (List.append_nil _).symm⟩, h.nodup, ⟨Nat.le_refl _, h.fle⟩, fun x hx => (h.reach x hx).more (by omega), fun j h1 h2 => by omega, fun y hy => by rw [List.take_zero] at hy; cases hy⟩
theorem pre_nth {r : List (List Int)} (e : all = all0 ++ r) {j : Nat} (hj : j < all0.length) : nth all j = nth all0 j := by
  rw [e]; unfold nth; rw [List.getD_eq_getElem?_getD, List.getD_eq_getElem?_getD, List.getElem?_append_left hj]
variable (h : Ex b g all0 all fr n i k)
include h
theorem Ex.at_ (hi : i < all0.length) : i < all.length ∧ nth all i = nth all0 i := by
  obtain ⟨r, e⟩ := h.pre
  exact ⟨by rw [e, List.length_append]; omega, pre_nth e hi⟩
theorem Ex.old (hl : Lv b g all0 fr n) (hk : k < (aroundL b g (nth all0 i)).length) (hm : nth (aroundL b g (nth all0 i)) k ∈ all) : Ex b g all0 all fr n i (k + 1) := by
  refine ⟨h.pre, h.nodup, h.fi, h.reach, h.done, fun y hy => ?_⟩
  rw [take_nth hk] at hy
  rcases List.mem_append.1 hy with hy | hy
  · exact h.part y hy
  · rw [List.mem_singleton.1 hy]; exact hm
theorem Ex.new (hl : Lv b g all0 fr n) (h6 : b.lots.length ≤ 6) (hg : 0 ≤ g) (hi : i < all0.length) (hk : k < (aroundL b g (nth all0 i)).length) (hm : nth (aroundL b g (nth all0 i)) k ∉ all) : Ex b g all0 (all ++ [nth (aroundL b g (nth all0 i)) k]) fr n i (k + 1) := by
  obtain ⟨r, e⟩ := h.pre
  refine ⟨⟨r ++ [nth (aroundL b g (nth all0 i)) k], by rw [← List.append_assoc, ← e]⟩, ?_, h.fi, fun x hx => ?_, fun j h1 h2 y hy => List.mem_append_left _ (h.done j h1 h2 y hy), fun y hy => ?_⟩
  · rw [List.nodup_append]
    exact ⟨h.nodup, by simp, fun x hx y hy e => hm (by rw [List.mem_singleton.1 hy] at e; rw [← e]; exact hx)⟩
  · rcases List.mem_append.1 hx with hx | hx
    · exact h.reach x hx
    · rw [List.mem_singleton.1 hx]
      exact (hl.reach _ (nth_mem hi)).next h6 hg (nth_mem hk)
  · rw [take_nth hk] at hy
    rcases List.mem_append.1 hy with hy | hy
    · exact List.mem_append_left _ (h.part y hy)
    · exact List.mem_append_right _ hy
theorem Ex.next (hi : i < all0.length) (hk : (aroundL b g (nth all0 i)).length ≤ k) : Ex b g all0 all fr n (i + 1) 0 := by
  refine ⟨h.pre, h.nodup, ⟨by have := h.fi; omega, hi⟩, h.reach, fun j h1 h2 y hy => ?_, fun y hy => by rw [List.take_zero] at hy; cases hy⟩
  by_cases e : j = i
  · subst e; exact h.part y (by rw [List.take_of_length_le hk]; exact hy)
  · exact h.done j h1 (by omega) y hy
theorem Ex.end (hl : Lv b g all0 fr n) (h6 : b.lots.length ≤ 6) (hg : 0 ≤ g) (hi : all0.length ≤ i) (hf : fr < all0.length) (hno : ∀ j, fr ≤ j → j < all0.length → madeL b (nth all0 j) = false) : Lv b g all all0.length (n + 1) := by
  obtain ⟨r, e⟩ := h.pre
  have hsub : ∀ x ∈ all0, x ∈ all := fun x hx => by rw [e]; exact List.mem_append_left _ hx
  have hcl : ∀ j, j < all0.length → ∀ y ∈ aroundL b g (nth all0 j), y ∈ all := fun j hj y hy => by
    by_cases c : j < fr
    · exact hsub y (hl.closed j c y hy)
    · exact h.done j (by omega) (by omega) y hy
  refine ⟨by rw [e, List.length_append]; have := hl.pos; omega, h.nodup, by rw [e, List.length_append]; omega, by have := hl.nle; omega, h.reach, fun rs p hlt hp => ?_, fun rs p hle hp => ?_, fun j hj y hy => hcl j hj y (by rw [← pre_nth e hj]; exact hy), fun j hj => ?_⟩
  · obtain ⟨j, hj, e2⟩ := mem_nth (hl.cur rs p (by omega) hp)
    exact ⟨j, hj, by rw [pre_nth e hj, e2]⟩
  · by_cases c : rs.length ≤ n
    · exact hsub _ (hl.cur rs p c hp)
    · have hne : rs ≠ [] := by rintro rfl; simp at c
      have hd := List.dropLast_concat_getLast hne
      rw [← hd] at hp hle
      obtain ⟨p', h1, h2, rfl⟩ := goR_snoc_inv hp
      rw [List.length_append, List.length_singleton] at hle
      obtain ⟨j, hj, e2⟩ := mem_nth (hl.cur _ p' (by omega) h1)
      refine hcl j hj _ ?_
      rw [← e2]
      exact (around_mem h6 hg).2 ⟨_, h2, rfl⟩
  · rw [pre_nth e hj]
    by_cases c : j < fr
    · exact hl.no j c
    · exact hno j (by omega) hj
end
end Go.Proofs.YtpnndljmhpepgaaGreat

namespace Go.T
open Go Go.RowKit
section
variable {P : Program} {fr : Fr} {ops : Array Oper} {A : As} {rest : List Oper} {K : As → List (As × Fx) → Prop} {d : Nat} {t : TypeId} {p : String} {e : Array Edge} {y : Operand}
theorem r_pickF {c : Operand} {b : Bool} (hc : A.op fr c = .bool false) (hy : A.op fr y = .bool b)
    (h : TOps P fr ops rest (A.set d (.bool b)) fun A' l' => K A' ((A, { d := some d, ty := .bool b, rs := opR c ++ opR y }) :: l')) : TOps P fr ops (⟨some d, .pick c (.const (.bool true)) y, t, p, e, none⟩ :: rest) A K :=
  tops_pure (opT_pure rfl rfl fun a w M _ hrd _ => by
    obtain ⟨hdc, hdy⟩ := op2 hrd
    rw [hc] at hdc; rw [hy] at hdy
    have ec : a.eval c = .bool false := hdc
    have ey : a.eval y = .bool b := hdy
    exact ⟨.bool b, by simp only [execOp, ec, ey]; simp [asBool], rfl⟩) h
theorem r_pickT {c : Operand} (hc : A.op fr c = .bool true)
    (h : TOps P fr ops rest (A.set d (.bool true)) fun A' l' => K A' ((A, { d := some d, ty := .bool true, rs := opR c ++ opR y }) :: l')) : TOps P fr ops (⟨some d, .pick c (.const (.bool true)) y, t, p, e, none⟩ :: rest) A K :=
  tops_pure (opT_pure rfl rfl fun a w M _ hrd _ => by
    obtain ⟨hdc, _⟩ := op2 hrd
    rw [hc] at hdc
    have ec : a.eval c = .bool true := hdc
    exact ⟨.bool true, by simp only [execOp, ec]; simp [asBool, Act.eval], rfl⟩) h
theorem r_offU {op : Op} {j s : Nat} {want : Bool} (hs : dstOf ops j = some s) (hn : Nat.blt s fr.n = true) (hc : A.slots s = .ex undef)
    (h : TOps P fr ops rest (A.set d (.ex undef)) fun A' l' => K A' ((A, { d := some d, ty := .ex undef, rs := [s] }) :: l')) : TOps P fr ops (⟨some d, op, t, p, e, some (j, want)⟩ :: rest) A K := by
  refine ⟨{ d := some d, ty := .ex undef, rs := [s] }, ⟨rfl, (by simp), (by simp), (by simp), fun a w M wf hsz hrd htg => ?_⟩, h⟩
  have hv := hrd s List.mem_cons_self (by simpa using hn)
  rw [hc] at hv
  have hy := yielded_undef (ops := ops) hs (by rw [hsz]; simpa using hn) hv
  have hw : Region.wanted ⟨some d, op, t, p, e, some (j, want)⟩ (yielded ops a.tmps) = false := by
    simp only [Region.wanted, hy]
    cases want <;> simp_all
  rw [if_neg (by rw [hw]; simp)]
  exact ⟨M, wf, Le.refl _ _ _ _, rfl, by simp⟩
end
section
variable {P : Program} {fr : Fr} {A : As} {Q : Exit → Act → World → Prop} {code : Code}
end
end Go.T

namespace Go.T
open Go Go.RowKit
section
variable {P : Program} {fr : Fr} {A : As} {Q : Exit → Act → World → Prop}
end
end Go.T

namespace Go.T
open Go Go.RowKit
section
variable {P : Program} {fr : Fr} {ops : Array Oper} {A : As} {rest : List Oper} {K : As → List (As × Fx) → Prop} {d : Nat} {t ty' : TypeId} {p : String} {e : Array Edge} [T : Tab P]
end
section
open Go.RowKit
variable {P : Program} {A : As} {fn : Func} {n : Nat} {w0 : World} {M0 : Tags} {F : List Nat} {post : List (Nat × Cont)} [T : Tab P]
end
def reGood (tg tg' : Nat) (ρ : List (Nat × Nat)) : Bool := ρ.all fun x => (Nat.beq x.1 tg && Nat.beq x.2 tg') || (Nat.beq x.1 x.2 && !Nat.beq x.1 tg && !Nat.beq x.1 tg')
section
variable {P : Program} {fr : Fr} {A : As}
def AllCv (A : As) (ρ : List (Nat × Nat)) : List (Nat × Ty) → Prop
  | [] => True
  | x :: l => Conv ρ (A.slots x.1) x.2 ∧ AllCv A ρ l
def As.reC (A : As) (tg tg' : Nat) (l : List (Nat × Ty)) (lc : List (Nat × Cont)) : As := ⟨setL l (killSlots [] [tg, tg'] A.slots), lc ++ killTags [] [tg, tg'] A.tags⟩
end
end Go.T

namespace Go.T
open Go Go.RowKit
section
variable {P : Program} {fr : Fr} {A : As}
end
end Go.T

namespace Go.T
open Go Go.RowKit
theorem ctr_pub {P : Program} {f : FuncId} {args : List Ty} {α : Type} {E : El α} {T tg : Nat} {xs : List α} (h1 : 1 ≤ tg) (h : CtrG P f [] [] args [] (.row E T tg xs)) : Ctr P f args (.sl E xs) := by
  refine ⟨h.1, fun w M vs wf hz hd => (h.2 w M vs wf hd (by intro x hx; cases hx)).mono fun e w' ⟨r, M', he, wf', le, hr, _⟩ => ?_⟩
  refine ⟨r, pubG [] M', he, pubG_wf wf', ⟨le.size, le.os, le.tape, le.out, fun b hlt hm => ⟨pubG_none (le.pub b hlt hm).1, (le.pub b hlt hm).2⟩, fun b t hm ht => ?_⟩, rg_row h1 (by rfl) rfl _ _ _ wf' hr⟩
  have h0 := hz b t hm
  subst h0
  obtain ⟨a1, a2⟩ := le.own b 0 hm (fun hk => ht hk.1)
  exact ⟨pubG_in a1 (.inl rfl), a2⟩
end Go.T

namespace Go.Proofs.YtpnndljmhpepgaaGreat
open Go Go.T
set_option maxHeartbeats 2000000
section
variable {b : Barn} {p : Pl} {g : Int} {l : List Tur} {k : Nat}
theorem off_known (b : Barn) (t : Tur) : (offB t.lot 0 (b.lots.length - 1) || offB t.aim 0 (b.sizes.length - 1)) = !(b.lot t.lot && b.bin t.aim) := by
  unfold Barn.lot Barn.bin; rw [Bool.not_and, inB_off, inB_off]
theorem rd_all (h : ∀ t ∈ l.take k, (offB t.lot 0 (b.lots.length - 1) || offB t.aim 0 (b.sizes.length - 1)) = false) (hk : l.length ≤ k) : (!l.all fun t => b.lot t.lot && b.bin t.aim) = false := by
  rw [Bool.not_eq_false', List.all_eq_true]
  intro t ht
  have := h t (by rw [List.take_of_length_le hk]; exact ht)
  rw [off_known, Bool.not_eq_false'] at this; exact this
theorem rd_bad (hk : k < l.length) (h : (offB (nth l k).lot 0 (b.lots.length - 1) || offB (nth l k).aim 0 (b.sizes.length - 1)) = true) : (!l.all fun t => b.lot t.lot && b.bin t.aim) = true := by
  rw [Bool.not_eq_true', List.all_eq_false]
  refine ⟨nth l k, nth_mem hk, ?_⟩
  rw [off_known, Bool.not_eq_true'] at h
  rw [h]; decide
theorem rd_tw_no {j : Nat} (hk : k < l.length) (hj : ∀ i, i < j → decide ((nth l k).aim = (nth l i).aim) = false) (hjk : k ≤ j) (h8 : ¬ (nth l k).aim ∈ cutP b p) : twI b p l k = false := by
  unfold twI
  rw [Bool.or_eq_false_iff, ← cut_has, decide_eq_false_iff_not, List.any_eq_false]
  refine ⟨h8, fun u hu => ?_⟩
  obtain ⟨i, hi, rfl⟩ := mem_nth hu
  rw [List.length_take] at hi
  have h1 := hj i (by omega)
  have e : nth (l.take k) i = nth l i := by unfold nth; rw [List.getD_eq_getElem?_getD, List.getD_eq_getElem?_getD, List.getElem?_take_of_lt (by omega)]
  rw [e, decide_eq_true_eq]
  rw [decide_eq_false_iff_not] at h1
  exact fun e => h1 e.symm
theorem rd_tw_k {j : Nat} (hk : k < l.length) (hj : j < k) (h : (nth l k).aim = (nth l j).aim) : twI b p l k = true := by
  unfold twI
  rw [Bool.or_eq_true, List.any_eq_true]
  refine .inr ⟨nth l j, ?_, decide_eq_true h.symm⟩
  have e : nth (l.take k) j = nth l j := by unfold nth; rw [List.getD_eq_getElem?_getD, List.getD_eq_getElem?_getD, List.getElem?_take_of_lt hj]
  rw [← e]
  exact nth_mem (by rw [List.length_take]; omega)
theorem rd_tw_p (h : (nth l k).aim ∈ cutP b p) : twI b p l k = true := by
  unfold twI; rw [← cut_has, decide_eq_true h]; rfl
theorem hold_lt (b : Barn) (t : Tur) : decide (nth b.sizes t.aim.toNat < (nth b.lots t.lot.toNat).sacks) = !b.hold t.aim t.lot := by
  unfold Barn.hold
  rw [Bool.eq_iff_iff, decide_eq_true_eq, Bool.not_eq_true', decide_eq_false_iff_not]
  omega
theorem rd_hold (h : ∀ t ∈ l.take k, decide (nth b.sizes t.aim.toNat < (nth b.lots t.lot.toNat).sacks) = false) (hk : l.length ≤ k) : (!l.all fun t => b.hold t.aim t.lot) = false := by
  rw [Bool.not_eq_false', List.all_eq_true]
  intro t ht
  have := h t (by rw [List.take_of_length_le hk]; exact ht)
  rw [hold_lt, Bool.not_eq_false'] at this; exact this
theorem rd_full (hk : k < l.length) (h : nth b.sizes (nth l k).aim.toNat < (nth b.lots (nth l k).lot.toNat).sacks) : (!l.all fun t => b.hold t.aim t.lot) = true := by
  rw [Bool.not_eq_true', List.all_eq_false]
  refine ⟨nth l k, nth_mem hk, ?_⟩
  have := hold_lt b (nth l k)
  rw [decide_eq_true h] at this
  rw [Bool.not_eq_true, ← Bool.not_eq_true']; exact this.symm
theorem cut_up (hk : k < l.length) : (cutP b (mvUp p l k)).set (nth l k).lot.toNat (nth l k).aim = cutP b (mvUp p l (k + 1)) := by rw [← cut_moved, mvUp_succ hk]
end
theorem vs_len {tg n m : Nat} (h : n = m) : (Ty.vs tg n).Sub (Ty.vs tg m) := h ▸ Ty.sub_refl _
theorem and_pos {k s : Nat} {left : Int} (h : (decide ((k : Int) < (s : Int)) && decide (left > 0)) = true) : k < s ∧ 0 < left := by
  simp only [Bool.and_eq_true, decide_eq_true_eq] at h; omega
theorem and_neg {k s : Nat} {left : Int} (h : (decide ((k : Int) < (s : Int)) && decide (left > 0)) = false) : ¬ ((k : Int) < (s : Int) ∧ 0 < left) := fun ⟨h1, h2⟩ => by
  rw [decide_eq_true h1, decide_eq_true (show left > 0 from h2)] at h; cases h
theorem cv_row_eq {α : Type} {E : El α} {T a c : Nat} {xs ys : List α} {ρ : List (Nat × Nat)} (h : (a, c) ∈ ρ) (e : xs = ys) : Conv ρ (Ty.row E T a xs) (Ty.row E T c ys) := e ▸ cv_row h
theorem lv_ext {b : Barn} {all : List (List Int)} {fr i : Nat} (h : ∀ j, fr ≤ j → j < i → madeL b (nth all j) = false) (hi : madeL b (nth all i) = false) : ∀ j, fr ≤ j → j < i + 1 → madeL b (nth all j) = false := fun j h1 h2 => by
  by_cases e : j = i
  · subst e; exact hi
  · exact h j h1 (by omega)
theorem place_in {l : List (List Int)} {p : List Int} (h : ¬ placeL l p < 0) : p ∈ l := by
  obtain ⟨h1, h2⟩ := place_at h
  rw [← h2]; exact nth_mem h1.2
theorem after_zero {b : Barn} {pp now : List Int} {lot : Nat} {left : Int} : [now] = afterL b pp 0 now lot left := rfl
theorem around_def {b : Barn} {g : Int} {x : List Int} : Ty.sl RowE (afterL b x b.lots.length x 0 g) = Ty.sl RowE (aroundL b g x) := rfl
theorem around_len {b : Barn} (h7 : b.sizes.length ≤ 7) (g : Int) (x : List Int) : (aroundL b g x).length ≤ 8 ^ b.lots.length := after_len h7 b.lots.length x 0 g
attribute [local irreducible] aroundL afterL afterUp leastR placeL cutP rroundV roundE Barn.hold Barn.lot Barn.bin worksV madeL
attribute [local irreducible] dInt dBool dSl dPp dPtr dAgg dTup dClo dAny dEx dStr dGd dCells dVec dVs dRow dOp nth Tri Into TOps Ctr bodyPost Exit.then Exit.inBlock Code.wp Code.wpIn dWhen dPa dPe dAo dArr dMp dPm dMap dCJ CtrG CtrI OpY keepPost iterPost bodyPostM roundQ
set_option maxRecDepth 100000 in
theorem c_each (l : List (List Tur)) (hn : l.length ≤ 400000000) (h : ∀ x ∈ l, x.length ≤ 400000000) : Ctr Tryz.prog 13 [Ty.sl RowT l] (Ty.sl RowT l) := by
  refine fn_intro Tryz.func13 rfl (by decide) Tryz.ntmps13 (by exact Nat.le_of_ble_eq_true rfl) fun w0 M0 => ?_
  refine t_seq ?_
  refine t_region ?_
  refine asX rfl ?_
  refine r_nil ?_
  refine i_then ?_
  refine t_seq ?_
  refine t_region ?_
  refine asX rfl ?_
  refine r_nil ?_
  refine i_then ?_
  refine t_seq ?_
  refine t_seq ?_
  refine t_region ?_
  refine mvS rfl ?_
  refine r_len rfl rfl rfl ?_
  refine mvI rfl ?_
  refine r_nil ?_
  refine i_then ?_
  refine t_block ?_
  refine t_loop (fun (k : {k : Nat // k ≤ l.length}) => live [(3, Ty.row RowT 85 17 (l.take k.1)), (6, Ty.sl RowT l), (7, Ty.int .i64 l.length), (8, Ty.int .i64 (k.1 : Nat))] []) (fun k => l.length - k.1) (⟨0, by omega⟩) ?_ fun k => ?_
  · (refine Ent.mk' ?_ ?_ <;> (repeat' (first | exact allSub_zero | exact allTags_nil | refine allSub_succ' ?_ (Ty.sub_any _) | refine allSub_succ' ?_ (Ty.sub_refl _) | refine allSub_succ' ?_ Ty.nil_row)))
    all_goals trace_state
  ·
    have hk := k.2
    refine t_seq ?_
    refine t_region ?_
    refine r_bin rfl rfl rfl ?_
    refine r_nil ?_
    refine i_then ?_
    refine t_seq ?_
    refine t_cond_dec rfl (fun hc1 => ?_) (fun hc1 => ?_)
    ·
      refine t_skip ?_
      refine i_then ?_
      refine t_seq ?_
      refine t_block ?_
      refine t_seq ?_
      refine t_region ?_
      refine r_index_slN rfl rfl rfl rfl rfl rfl (by omega) ?_
      refine r_load_pp rfl rfl rfl rfl ?_
      refine asS rfl ?_
      refine r_nil ?_
      refine i_then ?_
      refine t_region ?_
      refine mvR rfl ?_
      refine mvS rfl ?_
      refine r_call (c_plans (nth l k.1) (h _ (nth_mem (by omega)))) rfl rfl rfl rfl rfl ?_
      refine r_buildSlice (E := RowT) (xs := [nth l k.1]) rfl rfl rfl rfl rfl (by decide) (by decide) (by repeat (first | exact (Parts.nil : Parts _ _ [] _) | (show Parts _ _ ((_, _) :: _) _; apply Parts.one; (· exact (rfl : _ = Ty.sl _ _)); (· exact rfl)))) (by exact rfl) rfl ?_
      refine r_append rfl rfl (by decide) rfl rfl rfl rfl rfl rfl (by decide) (by (simp <;> omega)) (by (simp <;> omega)) ?_
      refine asR rfl ?_
      refine r_nil ?_
      refine i_block ?_
      refine i_then ?_
      refine t_region ?_
      refine r_add rfl rfl (by omega) (by omega) ?_
      refine mvI rfl ?_
      refine r_nil ?_
      refine i_round (⟨k.1 + 1, by omega⟩) ?_ (by show l.length - (k.1 + 1) < l.length - k.1; omega)
      (refine Ent.mk' ?_ ?_ <;> (repeat' (first | exact allSub_zero | exact allTags_nil | refine allSub_succ' ?_ (Ty.sub_any _) | refine allSub_succ' ?_ (Ty.sub_refl _) | refine allSub_succ' ?_ ?_)))
      all_goals exact Ty.sub_row (take_nth (by omega)).symm
    ·
      refine t_exit ?_
      refine i_then_exit ?_
      refine i_then_exit ?_
      refine i_block_exit rfl ?_
      refine i_then ?_
      refine t_seq ?_
      refine t_region ?_
      refine mvR rfl ?_
      refine asR rfl ?_
      refine r_nil ?_
      refine i_then ?_
      refine t_ret ?_
      refine i_rp1 rfl rfl ?_
      all_goals skip
      all_goals exact ret_row_eq (by decide) (List.take_of_length_le (by have := k.2; omega))
set_option maxRecDepth 100000 in
theorem c_rRound (b : Barn) (hs : b.Small) (h6 : b.lots.length ≤ 6) (p : Pl) (g : Int) (l : List Tur) (hl : l.length ≤ 400000000) : Ctr Tryz.prog 42 [barnT b, Ty.sl I64 (cutP b p), Ty.int .i64 g, Ty.sl TurE l] (Ty.tup [Ty.sl I64 (rroundV b p g l), Ty.int .i64 (roundE b p g l)]) := by
  refine fn_intro Tryz.func42 rfl (by decide) Tryz.ntmps42 (by exact Nat.le_of_ble_eq_true rfl) fun w0 M0 => ?_
  have hs1 := hs.sizes
  have hcl := cut_len h6 p
  refine t_seq ?_
  refine t_region ?_
  refine r_box_agg rfl ?_
  refine asX rfl ?_
  refine asI rfl ?_
  refine r_nil ?_
  refine i_then ?_
  refine t_seq ?_
  refine t_seq ?_
  refine t_region ?_
  refine asI rfl ?_
  refine r_nil ?_
  refine i_then ?_
  refine t_block ?_
  refine t_loop (fun (k : {k : Nat // ∀ t ∈ l.take k, (offB t.lot 0 (b.lots.length - 1) || offB t.aim 0 (b.sizes.length - 1)) = false}) => live [(1, Ty.sl I64 (cutP b p)), (2, Ty.int .i64 g), (3, Ty.sl TurE l), (4, Ty.pp (barnTys b)), (10, Ty.int .i64 (k.1 : Nat))] []) (fun k => l.length - k.1) (⟨0, by simp⟩) ?_ fun k => ?_
  · (refine Ent.mk' ?_ ?_ <;> (repeat' (first | exact allSub_zero | exact allTags_nil | refine allSub_succ' ?_ (Ty.sub_any _) | refine allSub_succ' ?_ (Ty.sub_refl _))))
  ·
    refine t_seq ?_
    refine t_seq ?_
    refine t_region ?_
    refine mvI rfl ?_
    refine mvS rfl ?_
    refine r_len rfl rfl rfl ?_
    refine r_bin rfl rfl rfl ?_
    refine r_nil ?_
    refine i_then ?_
    refine t_cond_dec rfl (fun hc1 => ?_) (fun hc1 => ?_)
    ·
      refine t_skip ?_
      refine i_then ?_
      refine t_seq ?_
      refine t_block ?_
      refine t_seq ?_
      refine t_draw mixed rfl ?_
      refine mvS rfl ?_
      refine mvI rfl ?_
      refine r_index_slN rfl rfl rfl rfl rfl rfl (by omega) ?_
      refine r_field_pp rfl rfl rfl rfl rfl (by decide) ?_
      refine r_load_pp rfl rfl rfl rfl ?_
      refine r_field_pp rfl rfl rfl rfl rfl (by decide) ?_
      refine r_load_pp rfl rfl rfl rfl ?_
      refine r_len rfl rfl rfl ?_
      refine r_sub rfl rfl (by omega) (by omega) ?_
      refine r_call (c_off _ _ _) rfl rfl rfl rfl rfl ?_
      refine mvB rfl ?_
      apply r_guard (s := 32) rfl rfl rfl
      · intro hg; apply opT_of; (refine mvS rfl ?_); refine r_nil ?_; exact rfl
      · exact rfl
      · exact rfl
      apply r_guard (s := 32) rfl rfl rfl
      · intro hg; apply opT_of; (refine mvI rfl ?_); refine r_nil ?_; exact rfl
      · exact rfl
      · exact rfl
      apply r_guard (s := 32) rfl rfl rfl
      · intro hg; apply opT_strip (s := 33) rfl (by (rw [hg]; rfl)); apply opT_strip (s := 34) rfl (by (rw [hg]; rfl)); apply opT_of; (refine r_index_slN rfl rfl rfl rfl rfl rfl (by omega) ?_); refine r_nil ?_; exact rfl
      · exact rfl
      · exact rfl
      apply r_guard (s := 32) rfl rfl rfl
      · intro hg; apply opT_strip (s := 35) rfl (by (rw [hg]; rfl)); apply opT_of; (refine r_field_pp rfl rfl rfl rfl rfl (by decide) ?_); refine r_nil ?_; exact rfl
      · exact rfl
      · exact rfl
      apply r_guard (s := 32) rfl rfl rfl
      · intro hg; apply opT_strip (s := 36) rfl (by (rw [hg]; rfl)); apply opT_of; (refine r_load_pp rfl rfl rfl rfl ?_); refine r_nil ?_; exact rfl
      · exact rfl
      · exact rfl
      apply r_guard (s := 32) rfl rfl rfl
      · intro hg; apply opT_of; (refine r_field_pp rfl rfl rfl rfl rfl (by decide) ?_); refine r_nil ?_; exact rfl
      · exact rfl
      · exact rfl
      apply r_guard (s := 32) rfl rfl rfl
      · intro hg; apply opT_strip (s := 38) rfl (by (rw [hg]; rfl)); apply opT_of; (refine r_load_pp rfl rfl rfl rfl ?_); refine r_nil ?_; exact rfl
      · exact rfl
      · exact rfl
      apply r_guard (s := 32) rfl rfl rfl
      · intro hg; apply opT_strip (s := 39) rfl (by (rw [hg]; rfl)); apply opT_of; (refine r_len rfl rfl rfl ?_); refine r_nil ?_; exact rfl
      · exact rfl
      · exact rfl
      apply r_guard (s := 32) rfl rfl rfl
      · intro hg; apply opT_strip (s := 40) rfl (by (rw [hg]; rfl)); apply opT_of; (refine r_sub rfl rfl (by omega) (by omega) ?_); refine r_nil ?_; exact rfl
      · exact rfl
      · exact rfl
      apply r_guard (s := 32) rfl rfl rfl
      · intro hg; apply opT_strip (s := 37) rfl (by (rw [hg]; rfl)); apply opT_strip (s := 41) rfl (by (rw [hg]; rfl)); apply opT_of; (refine r_call (c_off _ _ _) rfl rfl rfl rfl rfl ?_); refine r_nil ?_; exact rfl
      · exact rfl
      · exact rfl
      refine r_or rfl rfl ?_
      refine r_nil ?_
      refine ⟨by kernel_rfl, ?_⟩
      refine i_then ?_
      refine t_cond rfl (fun hc2 => ?_) (fun hc2 => ?_)
      ·
        refine t_seq ?_
        refine t_region ?_
        refine asX rfl ?_
        refine asI rfl ?_
        refine r_nil ?_
        refine i_then ?_
        refine t_ret ?_
        refine i_block_ret ?_
        refine i_then_ret ?_
        refine i_then_ret ?_
        refine i_block_ret ?_
        refine i_then_ret ?_
        refine i_rp2 rfl rfl rfl ?_ ?_
        all_goals skip
        all_goals first | exact ret_nil_eq (rround_no (by rw [rE1 (rd_bad (by omega) hc2)]; decide)) | exact ret_eq rfl rfl (congrArg (Ty.int .i64) (rE1 (rd_bad (by omega) hc2)).symm)
      ·
        refine t_skip ?_
        refine i_block ?_
        refine i_then ?_
        refine t_region ?_
        refine mvI rfl ?_
        refine r_add rfl rfl (by omega) (by omega) ?_
        refine asI rfl ?_
        refine r_nil ?_
        refine i_round (⟨k.1 + 1, ext_false k.2 (by omega) hc2⟩) ?_ (by show l.length - (k.1 + 1) < l.length - k.1; omega)
        (refine Ent.mk' ?_ ?_ <;> (repeat' (first | exact allSub_zero | exact allTags_nil | refine allSub_succ' ?_ (Ty.sub_any _) | refine allSub_succ' ?_ (Ty.sub_refl _))))
        all_goals skip
    ·
      refine t_exit ?_
      refine i_then_exit ?_
      refine i_then_exit ?_
      refine i_block_exit rfl ?_
      refine i_then ?_
      refine t_seq ?_
      refine t_seq ?_
      have hall : (!l.all fun t => b.lot t.lot && b.bin t.aim) = false := rd_all k.2 (by omega)
      have har := all_rng hall
      refine t_region ?_
      refine asI rfl ?_
      refine r_nil ?_
      refine i_then ?_
      refine t_block ?_
      refine t_loop (fun (i : {i : Nat // OIx l i}) => live [(1, Ty.sl I64 (cutP b p)), (2, Ty.int .i64 g), (3, Ty.sl TurE l), (4, Ty.pp (barnTys b)), (11, Ty.int .i64 (i.1 : Nat))] []) (fun i => l.length - i.1) (⟨1, oix1 l⟩) ?_ fun i => ?_
      · (refine Ent.mk' ?_ ?_ <;> (repeat' (first | exact allSub_zero | exact allTags_nil | refine allSub_succ' ?_ (Ty.sub_any _) | refine allSub_succ' ?_ (Ty.sub_refl _))))
      ·
        have hi1 := i.2.pos
        refine t_seq ?_
        refine t_seq ?_
        refine t_region ?_
        refine mvI rfl ?_
        refine mvS rfl ?_
        refine r_len rfl rfl rfl ?_
        refine r_bin rfl rfl rfl ?_
        refine r_nil ?_
        refine i_then ?_
        refine t_cond_dec rfl (fun hc3 => ?_) (fun hc3 => ?_)
        ·
          refine t_skip ?_
          refine i_then ?_
          refine t_seq ?_
          refine t_block ?_
          refine t_seq ?_
          refine t_draw mixed rfl ?_
          refine mvS rfl ?_
          refine mvI rfl ?_
          refine r_index_slN rfl rfl rfl rfl rfl rfl (by omega) ?_
          refine r_field_pp rfl rfl rfl rfl rfl (by decide) ?_
          refine r_load_pp rfl rfl rfl rfl ?_
          refine mvS rfl ?_
          refine mvI rfl ?_
          refine r_sub rfl rfl (by omega) (by omega) ?_
          refine r_index_sl rfl rfl rfl rfl rfl rfl (by omega) (by omega) ?_
          refine r_field_pp rfl rfl rfl rfl rfl (by decide) ?_
          refine r_load_pp rfl rfl rfl rfl ?_
          refine r_bin rfl rfl rfl ?_
          refine r_nil ?_
          refine ⟨by kernel_rfl, ?_⟩
          refine i_then ?_
          refine t_cond_dec rfl (fun hc4 => ?_) (fun hc4 => ?_)
          ·
            refine t_seq ?_
            refine t_region ?_
            refine asX rfl ?_
            refine asI rfl ?_
            refine r_nil ?_
            refine i_then ?_
            refine t_ret ?_
            refine i_block_ret ?_
            refine i_then_ret ?_
            refine i_then_ret ?_
            refine i_block_ret ?_
            refine i_then_ret ?_
            refine i_rp2 rfl rfl rfl ?_ ?_
            all_goals skip
            all_goals first | exact ret_nil_eq (rround_no (by rw [rE4 hall (i.2.yes (by omega) hc4)]; decide)) | exact ret_eq rfl rfl (congrArg (Ty.int .i64) (rE4 hall (i.2.yes (by omega) hc4)).symm)
          ·
            refine t_skip ?_
            refine i_block ?_
            refine i_then ?_
            refine t_region ?_
            refine mvI rfl ?_
            refine r_add rfl rfl (by omega) (by omega) ?_
            refine asI rfl ?_
            refine r_nil ?_
            refine i_round (⟨i.1 + 1, i.2.next hc4⟩) ?_ (by show l.length - (i.1 + 1) < l.length - i.1; omega)
            (refine Ent.mk' ?_ ?_ <;> (repeat' (first | exact allSub_zero | exact allTags_nil | refine allSub_succ' ?_ (Ty.sub_any _) | refine allSub_succ' ?_ (Ty.sub_refl _))))
            all_goals skip
        ·
          refine t_exit ?_
          refine i_then_exit ?_
          refine i_then_exit ?_
          refine i_block_exit rfl ?_
          refine i_then ?_
          refine t_seq ?_
          have hor := i.2.end (by omega)
          refine t_region ?_
          refine r_buildRow (E := I64) rfl rfl rfl rfl ?_
          refine mvS rfl ?_
          refine r_append rfl rfl (by decide) rfl rfl rfl rfl rfl rfl (by decide) (by (simp <;> omega)) (by (simp <;> omega)) ?_
          refine asR rfl ?_
          refine r_nil ?_
          refine i_then ?_
          refine t_seq ?_
          refine t_seq ?_
          refine t_own (s := 12) rfl rfl ?_
          refine t_as (s := 12) rfl (vs_len (show ([] ++ cutP b p).length = b.lots.length by rw [List.nil_append]; exact hcl)) ?_
          refine t_asC (tg := 63) rfl (Cont.sub_vec (show [] ++ cutP b p = cutP b (mvUp p l 0) by rw [List.nil_append, mvUp_zero])) ?_
          refine t_region ?_
          refine asI rfl ?_
          refine r_nil ?_
          refine i_then ?_
          refine t_block ?_
          refine t_loop (fun (k3 : {k : Nat // ∀ i, i < k → twI b p l i = false}) => live [(1, Ty.sl I64 (cutP b p)), (2, Ty.int .i64 g), (3, Ty.sl TurE l), (4, Ty.pp (barnTys b)), (12, Ty.vs 63 b.lots.length), (13, Ty.int .i64 (k3.1 : Nat))] [(63, Cont.vec I64 3 (cutP b (mvUp p l k3.1)))]) (fun k3 => l.length - k3.1) (⟨0, fun i hi => absurd hi (Nat.not_lt_zero i)⟩) ?_ fun k3 => ?_
          · (refine Ent.mk' ?_ ?_ <;> (repeat' (first | exact allSub_zero | exact allTags_nil | refine allSub_succ' ?_ (Ty.sub_any _) | refine allSub_succ' ?_ (Ty.sub_refl _) | refine allTags_cons rfl (Cont.sub_refl _) ?_)))
          ·
            have hcu := cut_len h6 (mvUp p l k3.1)
            refine t_seq ?_
            refine t_seq ?_
            refine t_region ?_
            refine mvI rfl ?_
            refine mvS rfl ?_
            refine r_len rfl rfl rfl ?_
            refine r_bin rfl rfl rfl ?_
            refine r_nil ?_
            refine i_then ?_
            refine t_cond_dec rfl (fun hc5 => ?_) (fun hc5 => ?_)
            ·
              refine t_skip ?_
              refine i_then ?_
              refine t_seq ?_
              refine t_block ?_
              refine t_seq ?_
              refine t_seq ?_
              refine t_region ?_
              refine asI rfl ?_
              refine r_nil ?_
              refine i_then ?_
              refine t_block ?_
              refine t_loop (fun (j : {j : Nat // ∀ i, i < j → decide ((nth l k3.1).aim = (nth l i).aim) = false}) => live [(1, Ty.sl I64 (cutP b p)), (2, Ty.int .i64 g), (3, Ty.sl TurE l), (4, Ty.pp (barnTys b)), (12, Ty.vs 63 b.lots.length), (13, Ty.int .i64 (k3.1 : Nat)), (14, Ty.int .i64 (j.1 : Nat))] [(63, Cont.vec I64 3 (cutP b (mvUp p l k3.1)))]) (fun j => k3.1 - j.1) (⟨0, fun i hi => absurd hi (Nat.not_lt_zero i)⟩) ?_ fun j => ?_
              · (refine Ent.mk' ?_ ?_ <;> (repeat' (first | exact allSub_zero | exact allTags_nil | refine allSub_succ' ?_ (Ty.sub_any _) | refine allSub_succ' ?_ (Ty.sub_refl _) | refine allTags_cons rfl (Cont.sub_refl _) ?_)))
              ·
                refine t_seq ?_
                refine t_seq ?_
                refine t_region ?_
                refine mvI rfl ?_
                refine mvI rfl ?_
                refine r_bin rfl rfl rfl ?_
                refine r_nil ?_
                refine i_then ?_
                refine t_cond_dec rfl (fun hc6 => ?_) (fun hc6 => ?_)
                ·
                  refine t_skip ?_
                  refine i_then ?_
                  refine t_seq ?_
                  refine t_block ?_
                  refine t_seq ?_
                  refine t_draw mixed rfl ?_
                  refine mvS rfl ?_
                  refine mvI rfl ?_
                  refine r_index_slN rfl rfl rfl rfl rfl rfl (by omega) ?_
                  refine r_field_pp rfl rfl rfl rfl rfl (by decide) ?_
                  refine r_load_pp rfl rfl rfl rfl ?_
                  refine mvS rfl ?_
                  refine mvI rfl ?_
                  refine r_index_slN rfl rfl rfl rfl rfl rfl (by omega) ?_
                  refine r_field_pp rfl rfl rfl rfl rfl (by decide) ?_
                  refine r_load_pp rfl rfl rfl rfl ?_
                  refine r_bin rfl rfl rfl ?_
                  refine r_nil ?_
                  refine ⟨by kernel_rfl, ?_⟩
                  refine i_then ?_
                  refine t_cond_dec rfl (fun hc7 => ?_) (fun hc7 => ?_)
                  ·
                    refine t_seq ?_
                    refine t_region ?_
                    refine asX rfl ?_
                    refine asI rfl ?_
                    refine r_nil ?_
                    refine i_then ?_
                    refine t_ret ?_
                    refine i_block_ret ?_
                    refine i_then_ret ?_
                    refine i_then_ret ?_
                    refine i_block_ret ?_
                    refine i_then_ret ?_
                    refine i_block_ret ?_
                    refine i_then_ret ?_
                    refine i_then_ret ?_
                    refine i_block_ret ?_
                    refine i_then_ret ?_
                    refine i_rp2 rfl rfl rfl ?_ ?_
                    all_goals skip
                    all_goals first | exact ret_nil_eq (rround_no (by rw [rE5 hall hor (tw_yes (by omega) (rd_tw_k (by omega) (by omega) hc7))]; decide)) | exact ret_eq rfl rfl (congrArg (Ty.int .i64) (rE5 hall hor (tw_yes (by omega) (rd_tw_k (by omega) (by omega) hc7))).symm)
                  ·
                    refine t_skip ?_
                    refine i_block ?_
                    refine i_then ?_
                    refine t_region ?_
                    refine mvI rfl ?_
                    refine r_add rfl rfl (by omega) (by omega) ?_
                    refine asI rfl ?_
                    refine r_nil ?_
                    refine i_round (⟨j.1 + 1, rng_ext j.2 (decide_eq_false hc7)⟩) ?_ (by show k3.1 - (j.1 + 1) < k3.1 - j.1; omega)
                    (refine Ent.mk' ?_ ?_ <;> (repeat' (first | exact allSub_zero | exact allTags_nil | refine allSub_succ' ?_ (Ty.sub_any _) | refine allSub_succ' ?_ (Ty.sub_refl _) | refine allTags_cons rfl (Cont.sub_refl _) ?_)))
                    all_goals skip
                ·
                  refine t_exit ?_
                  refine i_then_exit ?_
                  refine i_then_exit ?_
                  refine i_block_exit rfl ?_
                  refine i_then ?_
                  refine t_seq ?_
                  refine t_seq ?_
                  refine t_region ?_
                  refine mvS rfl ?_
                  refine mvS rfl ?_
                  refine mvI rfl ?_
                  refine r_index_slN rfl rfl rfl rfl rfl rfl (by omega) ?_
                  refine r_field_pp rfl rfl rfl rfl rfl (by decide) ?_
                  refine r_load_pp rfl rfl rfl rfl ?_
                  refine r_call (c_has (cutP b p) (nth l k3.1).aim) rfl rfl rfl rfl rfl ?_
                  refine r_nil ?_
                  refine i_then ?_
                  refine t_cond_dec rfl (fun hc8 => ?_) (fun hc8 => ?_)
                  ·
                    refine t_seq ?_
                    refine t_region ?_
                    refine asX rfl ?_
                    refine asI rfl ?_
                    refine r_nil ?_
                    refine i_then ?_
                    refine t_ret ?_
                    refine i_then_ret ?_
                    refine i_block_ret ?_
                    refine i_then_ret ?_
                    refine i_then_ret ?_
                    refine i_block_ret ?_
                    refine i_then_ret ?_
                    refine i_rp2 rfl rfl rfl ?_ ?_
                    all_goals skip
                    all_goals first | exact ret_nil_eq (rround_no (by rw [rE5 hall hor (tw_yes (by omega) (rd_tw_p hc8))]; decide)) | exact ret_eq rfl rfl (congrArg (Ty.int .i64) (rE5 hall hor (tw_yes (by omega) (rd_tw_p hc8))).symm)
                  ·
                    refine t_skip ?_
                    refine i_then ?_
                    have hkr := har _ (nth_mem (xs := l) (k := k3.1) (by omega))
                    refine t_draw mixed rfl ?_
                    refine mvV rfl ?_
                    refine mvS rfl ?_
                    refine mvI rfl ?_
                    refine r_index_slN rfl rfl rfl rfl rfl rfl (by omega) ?_
                    refine r_field_pp rfl rfl rfl rfl rfl (by decide) ?_
                    refine r_load_pp rfl rfl rfl rfl ?_
                    refine mvS rfl ?_
                    refine mvI rfl ?_
                    refine r_index_slN rfl rfl rfl rfl rfl rfl (by omega) ?_
                    refine r_field_pp rfl rfl rfl rfl rfl (by decide) ?_
                    refine r_load_pp rfl rfl rfl rfl ?_
                    refine r_index_vsI rfl rfl rfl rfl rfl hkr.1.1 (by omega) ?_
                    refine r_store_vecB (E := I64) (z := (nth l k3.1).aim) rfl rfl rfl (by decide) rfl rfl (by exact (rfl : _ = Ty.int _ _)) rfl (by omega) (by decide) rfl rfl ?_
                    refine r_nil ?_
                    refine ⟨by kernel_rfl, ?_⟩
                    refine i_block ?_
                    refine i_then ?_
                    refine t_region ?_
                    refine mvI rfl ?_
                    refine r_add rfl rfl (by omega) (by omega) ?_
                    refine asI rfl ?_
                    refine r_nil ?_
                    refine i_round (⟨k3.1 + 1, rng_ext k3.2 (rd_tw_no (by omega) j.2 (by omega) hc8)⟩) ?_ (by show l.length - (k3.1 + 1) < l.length - k3.1; omega)
                    (refine Ent.mk' ?_ ?_ <;> (repeat' (first | exact allSub_zero | exact allTags_nil | refine allSub_succ' ?_ (Ty.sub_any _) | refine allSub_succ' ?_ (Ty.sub_refl _) | refine allTags_cons rfl ?_ ?_)))
                    all_goals skip
                    all_goals exact Cont.sub_vec (cut_up (by omega))
            ·
              refine t_exit ?_
              refine i_then_exit ?_
              refine i_then_exit ?_
              refine i_block_exit rfl ?_
              refine i_then ?_
              refine t_seq ?_
              refine t_seq ?_
              have htw := tw_no k3.2 (show l.length ≤ k3.1 by omega)
              have hcu := cut_len h6 (mvUp p l k3.1)
              refine t_region ?_
              refine asI rfl ?_
              refine r_nil ?_
              refine i_then ?_
              refine t_block ?_
              refine t_loop (fun (k5 : {k : Nat // ∀ t ∈ l.take k, decide (nth b.sizes t.aim.toNat < (nth b.lots t.lot.toNat).sacks) = false}) => live [(1, Ty.sl I64 (cutP b p)), (2, Ty.int .i64 g), (3, Ty.sl TurE l), (4, Ty.pp (barnTys b)), (12, Ty.vs 63 b.lots.length), (15, Ty.int .i64 (k5.1 : Nat))] [(63, Cont.vec I64 3 (cutP b (mvUp p l k3.1)))]) (fun k5 => l.length - k5.1) (⟨0, by simp⟩) ?_ fun k5 => ?_
              · (refine Ent.mk' ?_ ?_ <;> (repeat' (first | exact allSub_zero | exact allTags_nil | refine allSub_succ' ?_ (Ty.sub_any _) | refine allSub_succ' ?_ (Ty.sub_refl _) | refine allTags_cons rfl (Cont.sub_refl _) ?_)))
              ·
                refine t_seq ?_
                refine t_seq ?_
                refine t_region ?_
                refine mvI rfl ?_
                refine mvS rfl ?_
                refine r_len rfl rfl rfl ?_
                refine r_bin rfl rfl rfl ?_
                refine r_nil ?_
                refine i_then ?_
                refine t_cond_dec rfl (fun hc9 => ?_) (fun hc9 => ?_)
                ·
                  refine t_skip ?_
                  refine i_then ?_
                  refine t_seq ?_
                  refine t_block ?_
                  refine t_seq ?_
                  have hkr := har _ (nth_mem (xs := l) (k := k5.1) (by omega))
                  refine t_draw mixed rfl ?_
                  refine r_field_pp rfl rfl rfl rfl rfl (by decide) ?_
                  refine r_load_pp rfl rfl rfl rfl ?_
                  refine mvS rfl ?_
                  refine mvI rfl ?_
                  refine r_index_slN rfl rfl rfl rfl rfl rfl (by omega) ?_
                  refine r_field_pp rfl rfl rfl rfl rfl (by decide) ?_
                  refine r_load_pp rfl rfl rfl rfl ?_
                  refine r_index_sl rfl rfl rfl rfl rfl rfl hkr.2.1 (by omega) ?_
                  refine r_load_pp rfl rfl rfl rfl ?_
                  refine r_field_pp rfl rfl rfl rfl rfl (by decide) ?_
                  refine r_load_pp rfl rfl rfl rfl ?_
                  refine mvS rfl ?_
                  refine mvI rfl ?_
                  refine r_index_slN rfl rfl rfl rfl rfl rfl (by omega) ?_
                  refine r_field_pp rfl rfl rfl rfl rfl (by decide) ?_
                  refine r_load_pp rfl rfl rfl rfl ?_
                  refine r_index_sl rfl rfl rfl rfl rfl rfl hkr.1.1 (by omega) ?_
                  refine r_field_pp rfl rfl rfl rfl rfl (by decide) ?_
                  refine r_load_pp rfl rfl rfl rfl ?_
                  refine r_bin rfl rfl rfl ?_
                  refine r_nil ?_
                  refine ⟨by kernel_rfl, ?_⟩
                  refine i_then ?_
                  refine t_cond_dec rfl (fun hc10 => ?_) (fun hc10 => ?_)
                  ·
                    refine t_seq ?_
                    refine t_region ?_
                    refine asX rfl ?_
                    refine asI rfl ?_
                    refine r_nil ?_
                    refine i_then ?_
                    refine t_ret ?_
                    refine i_block_ret ?_
                    refine i_then_ret ?_
                    refine i_then_ret ?_
                    refine i_block_ret ?_
                    refine i_then_ret ?_
                    refine i_rp2 rfl rfl rfl ?_ ?_
                    all_goals skip
                    all_goals first | exact ret_nil_eq (rround_no (by rw [rE9 hall hor htw (rd_full (by omega) hc10)]; decide)) | exact ret_eq rfl rfl (congrArg (Ty.int .i64) (rE9 hall hor htw (rd_full (by omega) hc10)).symm)
                  ·
                    refine t_skip ?_
                    refine i_block ?_
                    refine i_then ?_
                    refine t_region ?_
                    refine mvI rfl ?_
                    refine r_add rfl rfl (by omega) (by omega) ?_
                    refine asI rfl ?_
                    refine r_nil ?_
                    refine i_round (⟨k5.1 + 1, ext_false k5.2 (by omega) (decide_eq_false hc10)⟩) ?_ (by show l.length - (k5.1 + 1) < l.length - k5.1; omega)
                    (refine Ent.mk' ?_ ?_ <;> (repeat' (first | exact allSub_zero | exact allTags_nil | refine allSub_succ' ?_ (Ty.sub_any _) | refine allSub_succ' ?_ (Ty.sub_refl _) | refine allTags_cons rfl (Cont.sub_refl _) ?_)))
                    all_goals skip
                ·
                  refine t_exit ?_
                  refine i_then_exit ?_
                  refine i_then_exit ?_
                  refine i_block_exit rfl ?_
                  refine i_then ?_
                  refine t_seq ?_
                  refine t_seq ?_
                  have hho := rd_hold k5.2 (show l.length ≤ k5.1 by omega)
                  refine t_region ?_
                  refine mvS rfl ?_
                  refine r_len rfl rfl rfl ?_
                  refine mvI rfl ?_
                  refine r_bin rfl rfl rfl ?_
                  refine r_nil ?_
                  refine i_then ?_
                  refine t_cond_dec rfl (fun hc11 => ?_) (fun hc11 => ?_)
                  ·
                    refine t_seq ?_
                    refine t_region ?_
                    refine asX rfl ?_
                    refine asI rfl ?_
                    refine r_nil ?_
                    refine i_then ?_
                    refine t_ret ?_
                    refine i_then_ret ?_
                    refine i_rp2 rfl rfl rfl ?_ ?_
                    all_goals skip
                    all_goals first | exact ret_nil_eq (rround_no (by rw [rE2 hall hor htw hho hc11]; decide)) | exact ret_eq rfl rfl (congrArg (Ty.int .i64) (rE2 hall hor htw hho hc11).symm)
                  ·
                    refine t_skip ?_
                    refine i_then ?_
                    refine t_seq ?_
                    refine t_pub (tg := 63) [(12, Ty.sl I64 (cutP b (mvUp p l k3.1)))] (by decide) rfl ⟨pub_vs rfl rfl hcu (by decide), trivial⟩ ?_
                    refine t_region ?_
                    refine mvS rfl ?_
                    refine asS rfl ?_
                    refine asI rfl ?_
                    refine r_nil ?_
                    refine i_then ?_
                    refine t_ret ?_
                    refine i_rp2 rfl rfl rfl ?_ ?_
                    all_goals skip
                    all_goals first | exact ret_eq rfl rfl (congrArg (Ty.int .i64) (rE0 hall hor htw hho hc11).symm) | exact ret_eq rfl rfl (congrArg (Ty.sl I64) ((congrArg (cutP b) (mvUp_all (show l.length ≤ k3.1 by omega))).trans (rround_ok (rE0 hall hor htw hho hc11)).symm))
set_option maxRecDepth 100000 in
theorem c_rWorks (b : Barn) (hr : b.Right) (g : Int) (ha : askE b g = 0) (rs : List (List Tur)) (hl : ∀ l ∈ rs, l.length ≤ 400000000) : Ctr Tryz.prog 12 [barnT b, Ty.int .i64 g, Ty.sl RowT rs] (Ty.tup [Ty.bool (worksV b g rs).1, Ty.int .i64 (worksV b g rs).2]) := by
  refine fn_intro Tryz.func12 rfl (by decide) Tryz.ntmps12 (by exact Nat.le_of_ble_eq_true rfl) fun w0 M0 => ?_
  refine t_fact (s := 2) rfl rfl sl_len fun hln => ?_
  have hs := small_right hr
  have h6 := hr.lots
  refine t_seq ?_
  refine t_region ?_
  refine r_box_agg rfl ?_
  refine asB rfl ?_
  refine asI rfl ?_
  refine r_nil ?_
  refine i_then ?_
  refine t_seq ?_
  refine t_seq ?_
  refine t_region ?_
  refine mvS rfl ?_
  refine r_len rfl rfl rfl ?_
  refine r_bin rfl rfl rfl ?_
  refine r_nil ?_
  refine i_then ?_
  refine t_cond_dec rfl (fun hc1 => ?_) (fun hc1 => ?_)
  ·
    refine t_seq ?_
    refine t_region ?_
    refine asB rfl ?_
    refine asI rfl ?_
    refine r_nil ?_
    refine i_then ?_
    refine t_ret ?_
    refine i_then_ret ?_
    refine i_rp2 rfl rfl rfl ?_ ?_
    all_goals skip
    all_goals first | exact ret_eq rfl rfl (congrArg (fun z : Bool × Int => Ty.bool z.1) (worksV_2 ha hc1).symm) | exact ret_eq rfl rfl (congrArg (fun z : Bool × Int => Ty.int .i64 z.2) (worksV_2 ha hc1).symm)
  ·
    refine t_skip ?_
    refine i_then ?_
    refine t_seq ?_
    refine t_region ?_
    refine r_load_ppN rfl rfl rfl (by exact Nat.le_of_ble_eq_true rfl) ?_
    refine r_call (c_rFirst b hs) rfl rfl rfl rfl rfl ?_
    refine asS rfl ?_
    refine r_nil ?_
    refine i_then ?_
    refine t_seq ?_
    refine t_seq ?_
    refine t_region ?_
    refine asI rfl ?_
    refine r_nil ?_
    refine i_then ?_
    refine t_block ?_
    refine t_loop (fun (x : {x : Nat × Pl // WIx b g rs x.1 x.2}) => live [(1, Ty.int .i64 g), (2, Ty.sl RowT rs), (3, Ty.pp (barnTys b)), (8, Ty.sl I64 (cutP b x.1.2)), (9, Ty.int .i64 (x.1.1 : Nat))] []) (fun x => rs.length - x.1.1) (⟨(0, firstP b), wix0 b g rs⟩) ?_ fun x => ?_
    · (refine Ent.mk' ?_ ?_ <;> (repeat' (first | exact allSub_zero | exact allTags_nil | refine allSub_succ' ?_ (Ty.sub_any _) | refine allSub_succ' ?_ (Ty.sub_refl _) | refine allSub_succ' ?_ ?_)))
      all_goals exact Ty.sub_sl ((inn_map b).trans (cut_first h6).symm)
    ·
      have hxe := x.2.le
      refine t_seq ?_
      refine t_seq ?_
      refine t_region ?_
      refine mvI rfl ?_
      refine mvS rfl ?_
      refine r_len rfl rfl rfl ?_
      refine r_bin rfl rfl rfl ?_
      refine r_nil ?_
      refine i_then ?_
      refine t_cond_dec rfl (fun hc2 => ?_) (fun hc2 => ?_)
      ·
        refine t_skip ?_
        refine i_then ?_
        refine t_seq ?_
        refine t_block ?_
        refine t_seq ?_
        refine t_draw mixed rfl ?_
        refine r_load_ppN rfl rfl rfl (by exact Nat.le_of_ble_eq_true rfl) ?_
        refine mvS rfl ?_
        refine mvI rfl ?_
        refine mvS rfl ?_
        refine mvI rfl ?_
        refine r_index_slN rfl rfl rfl rfl rfl rfl (by omega) ?_
        refine r_load_pp rfl rfl rfl rfl ?_
        refine r_call (c_rRound b hs h6 x.1.2 g (nth rs x.1.1) (hl _ (nth_mem (by omega)))) rfl rfl rfl rfl rfl ?_
        refine mvT rfl ?_
        refine r_extract rfl rfl ?_
        refine r_extract rfl rfl ?_
        refine asS rfl ?_
        refine asI rfl ?_
        refine r_nil ?_
        refine ⟨by kernel_rfl, ?_⟩
        refine i_then ?_
        refine t_seq ?_
        refine t_seq ?_
        refine t_region ?_
        refine mvI rfl ?_
        refine r_bin rfl rfl rfl ?_
        refine r_nil ?_
        refine i_then ?_
        refine t_cond_ndec rfl (fun hc3 => ?_) (fun hc3 => ?_)
        ·
          refine t_seq ?_
          refine t_region ?_
          refine mvI rfl ?_
          refine asB rfl ?_
          refine asI rfl ?_
          refine r_nil ?_
          refine i_then ?_
          refine t_ret ?_
          refine i_then_ret ?_
          refine i_block_ret ?_
          refine i_then_ret ?_
          refine i_then_ret ?_
          refine i_block_ret ?_
          refine i_then_ret ?_
          refine i_rp2 rfl rfl rfl ?_ ?_
          all_goals skip
          all_goals first | exact ret_eq rfl rfl (congrArg (fun z : Bool × Int => Ty.bool z.1) (worksV_3 ha hc1 (x.2.stop (by omega) hc3)).symm) | exact ret_eq rfl rfl (congrArg (fun z : Bool × Int => Ty.int .i64 z.2) (worksV_3 ha hc1 (x.2.stop (by omega) hc3)).symm)
        ·
          refine t_skip ?_
          refine i_then ?_
          refine t_region ?_
          refine mvS rfl ?_
          refine asS rfl ?_
          refine r_nil ?_
          refine i_block ?_
          refine i_then ?_
          refine t_region ?_
          refine mvI rfl ?_
          refine r_add rfl rfl (by omega) (by omega) ?_
          refine asI rfl ?_
          refine r_nil ?_
          refine i_round (⟨(x.1.1 + 1, movedAll x.1.2 (nth rs x.1.1)), x.2.next (by omega) hc3⟩) ?_ (by show rs.length - (x.1.1 + 1) < rs.length - x.1.1; omega)
          (refine Ent.mk' ?_ ?_ <;> (repeat' (first | exact allSub_zero | exact allTags_nil | refine allSub_succ' ?_ (Ty.sub_any _) | refine allSub_succ' ?_ (Ty.sub_refl _) | refine allSub_succ' ?_ ?_)))
          all_goals skip
          all_goals exact Ty.sub_sl (rround_ok hc3)
      ·
        refine t_exit ?_
        refine i_then_exit ?_
        refine i_then_exit ?_
        refine i_block_exit rfl ?_
        refine i_then ?_
        refine t_seq ?_
        refine t_region ?_
        refine r_load_ppN rfl rfl rfl (by exact Nat.le_of_ble_eq_true rfl) ?_
        refine mvS rfl ?_
        refine r_call (c_rMade b hs (cutP b x.1.2) (Nat.le_of_eq (cut_len h6 _))) rfl rfl rfl rfl rfl ?_
        refine asB rfl ?_
        refine asI rfl ?_
        refine r_nil ?_
        refine i_then ?_
        refine t_ret ?_
        refine i_rp2 rfl rfl rfl ?_ ?_
        all_goals skip
        all_goals first | exact ret_eq rfl rfl (congrArg Ty.bool ((cut_made hr x.1.2).trans (congrArg Prod.fst (worksV_3 ha hc1 (x.2.end (by omega)))).symm)) | exact ret_eq rfl rfl (congrArg (fun z : Bool × Int => Ty.int .i64 z.2) (worksV_3 ha hc1 (x.2.end (by omega))).symm)
set_option maxRecDepth 100000 in
theorem k_afterS (b : Barn) (hr : b.Right) (pp : List Int) (hp : pp.length = b.lots.length) (m : Nat) (ih : ∀ m', m = m' + 1 → ∀ (now : List Int) (lot : Nat) (left : Int), lot + m' = b.lots.length → now.length = b.lots.length → 0 ≤ left ∧ left ≤ 3 → CtrG Tryz.prog 40 [] [] [barnT b, Ty.sl I64 pp, Ty.sl I64 now, Ty.int .i64 (lot : Nat), Ty.int .i64 left] [] (Ty.row RowE 22 20 (afterL b pp m' now lot left))) (now : List Int) (lot : Nat) (left : Int) (hlot : lot + m = b.lots.length) (hnow : now.length = b.lots.length) (hleft : 0 ≤ left ∧ left ≤ 3) : CtrG Tryz.prog 40 [] [] [barnT b, Ty.sl I64 pp, Ty.sl I64 now, Ty.int .i64 (lot : Nat), Ty.int .i64 left] [] (Ty.row RowE 22 20 (afterL b pp m now lot left)) := by
  refine fnG_intro Tryz.func40 rfl (by decide) Tryz.ntmps40 (by exact Nat.le_of_ble_eq_true rfl) fun w0 M0 => ?_
  have h6 := hr.lots
  have h7 := hr.bins
  refine t_seq ?_
  refine t_region ?_
  refine r_box_agg rfl ?_
  refine asX rfl ?_
  refine r_nil ?_
  refine i_then ?_
  refine t_seq ?_
  refine t_seq ?_
  refine t_region ?_
  refine mvI rfl ?_
  refine mvS rfl ?_
  refine r_len rfl rfl rfl ?_
  refine r_bin rfl rfl rfl ?_
  refine r_nil ?_
  refine i_then ?_
  refine t_cond_dec rfl (fun hc1 => ?_) (fun hc1 => ?_)
  ·
    refine t_seq ?_
    refine t_region ?_
    refine mvS rfl ?_
    refine r_buildRowN (E := RowE) (xs := [now]) rfl rfl rfl rfl rfl (by decide) (by decide) (by repeat (first | exact (Parts.nil : Parts _ _ [] _) | (show Parts _ _ ((_, _) :: _) _; apply Parts.one; (· exact (rfl : _ = Ty.sl _ _)); (· exact rfl)))) (by exact rfl) rfl rfl ?_
    refine asR rfl ?_
    refine r_nil ?_
    refine i_then ?_
    refine t_ret ?_
    refine i_then_ret ?_
    refine g_ret1 [20] rfl rfl (by decide) (by repeat (exact rc_nil)) ?_
    all_goals skip
    all_goals (obtain rfl : m = 0 := (by omega); exact rg_cv (cv_row_eq (by decide) after_zero))
  ·
    refine t_skip ?_
    refine i_then ?_
    refine t_seq ?_
    obtain ⟨m', rfl⟩ : ∃ m', m = m' + 1 := ⟨m - 1, by omega⟩
    have hpw : 8 ^ (m' + 1) ≤ 8 ^ 6 := Nat.pow_le_pow_right (by decide) (by omega)
    have hpw2 : 8 ^ m' ≤ 8 ^ 6 := Nat.pow_le_pow_right (by decide) (by omega)
    have hp6 : 8 ^ 6 = 262144 := by decide
    refine t_region ?_
    refine r_load_ppN rfl rfl rfl (by exact Nat.le_of_ble_eq_true rfl) ?_
    refine mvS rfl ?_
    refine mvS rfl ?_
    refine mvI rfl ?_
    refine r_add rfl rfl (by omega) (by omega) ?_
    refine mvI rfl ?_
    refine r_callG [(20, 20)] [20] [] (ih m' rfl now (lot + 1) left (by omega) hnow hleft) rfl rfl (by repeat (first | exact cv_nil | refine cv_cons ?_ ?_ | exact cv_pub rfl rfl)) pre_nil post_nil (cv_row (by exact List.mem_cons_self)) ?_
    refine asR rfl ?_
    refine r_nil ?_
    refine i_then ?_
    refine t_seq ?_
    refine t_seq ?_
    refine t_region ?_
    refine asI rfl ?_
    refine r_nil ?_
    refine i_then ?_
    refine t_block ?_
    refine t_loop (fun (k : {k : Nat // k ≤ b.sizes.length ∧ (left ≤ 0 → k = 0)}) => live [(1, Ty.sl I64 pp), (2, Ty.sl I64 now), (3, Ty.int .i64 (lot : Nat)), (4, Ty.int .i64 left), (5, Ty.pp (barnTys b)), (11, Ty.row RowE 22 20 (afterUp b pp m' now lot left k.1)), (12, Ty.int .i64 (k.1 : Nat))] []) (fun k => b.sizes.length - k.1) (⟨0, Nat.zero_le _, fun _ => rfl⟩) ?_ fun k => ?_
    · (refine Ent.mk' ?_ ?_ <;> (repeat' (first | exact allSub_zero | exact allTags_nil | refine allSub_succ' ?_ (Ty.sub_any _) | refine allSub_succ' ?_ (Ty.sub_refl _) | refine allSub_succ' ?_ ?_)))
      all_goals exact Ty.sub_row afterUp_zero
    ·
      have hk := k.2.1
      have hau := afterUp_len (b := b) (pp := pp) (m := m') (now := now) (lot := lot) (left := left) h7.2 hk
      refine t_seq ?_
      refine t_seq ?_
      refine t_region ?_
      refine mvI rfl ?_
      refine r_field_pp rfl rfl rfl rfl rfl (by decide) ?_
      refine r_load_pp rfl rfl rfl rfl ?_
      refine r_len rfl rfl rfl ?_
      refine r_bin rfl rfl rfl ?_
      refine mvB rfl ?_
      apply r_guard (s := 32) rfl rfl rfl
      · intro hg; apply opT_of; (refine mvI rfl ?_); refine r_nil ?_; exact rfl
      · exact rfl
      · exact rfl
      apply r_guard (s := 32) rfl rfl rfl
      · intro hg; apply opT_strip (s := 33) rfl (by (rw [hg]; rfl)); apply opT_of; (refine r_bin rfl rfl rfl ?_); refine r_nil ?_; exact rfl
      · exact rfl
      · exact rfl
      refine r_and rfl rfl ?_
      refine r_nil ?_
      refine i_then ?_
      refine t_cond rfl (fun hc2 => ?_) (fun hc2 => ?_)
      ·
        refine t_skip ?_
        refine i_then ?_
        refine t_seq ?_
        refine t_block ?_
        refine t_seq ?_
        refine t_seq ?_
        have hcd := and_pos hc2
        refine t_draw mixed rfl ?_
        refine mvS rfl ?_
        refine mvI rfl ?_
        refine r_call (c_has _ _) rfl rfl rfl rfl rfl ?_
        refine mvB rfl ?_
        apply r_guard (s := 41) rfl rfl rfl
        · intro hg; apply opT_of; (refine mvS rfl ?_); refine r_nil ?_; exact rfl
        · exact rfl
        · exact rfl
        apply r_guard (s := 41) rfl rfl rfl
        · intro hg; apply opT_of; (refine mvI rfl ?_); refine r_nil ?_; exact rfl
        · exact rfl
        · exact rfl
        apply r_guard (s := 41) rfl rfl rfl
        · intro hg; apply opT_strip (s := 42) rfl (by (rw [hg]; rfl)); apply opT_strip (s := 43) rfl (by (rw [hg]; rfl)); apply opT_of; (refine r_call (c_has _ _) rfl rfl rfl rfl rfl ?_); refine r_nil ?_; exact rfl
        · exact rfl
        · exact rfl
        refine r_or rfl rfl ?_
        refine mvB rfl ?_
        apply r_guard (s := 46) rfl rfl rfl
        · intro hg; apply opT_of; (refine r_field_pp rfl rfl rfl rfl rfl (by decide) ?_); refine r_nil ?_; exact rfl
        · exact rfl
        · exact rfl
        apply r_guard (s := 46) rfl rfl rfl
        · intro hg; apply opT_strip (s := 47) rfl (by (rw [hg]; rfl)); apply opT_of; (refine r_load_pp rfl rfl rfl rfl ?_); refine r_nil ?_; exact rfl
        · exact rfl
        · exact rfl
        apply r_guard (s := 46) rfl rfl rfl
        · intro hg; apply opT_of; (refine mvI rfl ?_); refine r_nil ?_; exact rfl
        · exact rfl
        · exact rfl
        apply r_guard (s := 46) rfl rfl rfl
        · intro hg; apply opT_strip (s := 48) rfl (by (rw [hg]; rfl)); apply opT_strip (s := 49) rfl (by (rw [hg]; rfl)); apply opT_of; (refine r_index_slN rfl rfl rfl rfl rfl rfl (by omega) ?_); refine r_nil ?_; exact rfl
        · exact rfl
        · exact rfl
        apply r_guard (s := 46) rfl rfl rfl
        · intro hg; apply opT_strip (s := 50) rfl (by (rw [hg]; rfl)); apply opT_of; (refine r_load_pp rfl rfl rfl rfl ?_); refine r_nil ?_; exact rfl
        · exact rfl
        · exact rfl
        apply r_guard (s := 46) rfl rfl rfl
        · intro hg; apply opT_of; (refine r_field_pp rfl rfl rfl rfl rfl (by decide) ?_); refine r_nil ?_; exact rfl
        · exact rfl
        · exact rfl
        apply r_guard (s := 46) rfl rfl rfl
        · intro hg; apply opT_strip (s := 52) rfl (by (rw [hg]; rfl)); apply opT_of; (refine r_load_pp rfl rfl rfl rfl ?_); refine r_nil ?_; exact rfl
        · exact rfl
        · exact rfl
        apply r_guard (s := 46) rfl rfl rfl
        · intro hg; apply opT_of; (refine mvI rfl ?_); refine r_nil ?_; exact rfl
        · exact rfl
        · exact rfl
        apply r_guard (s := 46) rfl rfl rfl
        · intro hg; apply opT_strip (s := 53) rfl (by (rw [hg]; rfl)); apply opT_strip (s := 54) rfl (by (rw [hg]; rfl)); apply opT_of; (refine r_index_slN rfl rfl rfl rfl rfl rfl (by omega) ?_); refine r_nil ?_; exact rfl
        · exact rfl
        · exact rfl
        apply r_guard (s := 46) rfl rfl rfl
        · intro hg; apply opT_strip (s := 55) rfl (by (rw [hg]; rfl)); apply opT_of; (refine r_field_pp rfl rfl rfl rfl rfl (by decide) ?_); refine r_nil ?_; exact rfl
        · exact rfl
        · exact rfl
        apply r_guard (s := 46) rfl rfl rfl
        · intro hg; apply opT_strip (s := 56) rfl (by (rw [hg]; rfl)); apply opT_of; (refine r_load_pp rfl rfl rfl rfl ?_); refine r_nil ?_; exact rfl
        · exact rfl
        · exact rfl
        apply r_guard (s := 46) rfl rfl rfl
        · intro hg; apply opT_strip (s := 51) rfl (by (rw [hg]; rfl)); apply opT_strip (s := 57) rfl (by (rw [hg]; rfl)); apply opT_of; (refine r_bin rfl rfl rfl ?_); refine r_nil ?_; exact rfl
        · exact rfl
        · exact rfl
        refine r_or rfl rfl ?_
        refine r_nil ?_
        refine ⟨by kernel_rfl, ?_⟩
        refine i_then ?_
        refine t_cond rfl (fun hc3 => ?_) (fun hc3 => ?_)
        ·
          refine t_exit ?_
          refine i_then_exit ?_
          refine i_block_exit rfl ?_
          refine i_then ?_
          refine t_region ?_
          refine mvI rfl ?_
          refine r_add rfl rfl (by omega) (by omega) ?_
          refine asI rfl ?_
          refine r_nil ?_
          refine i_round (⟨k.1 + 1, by have := and_pos hc2; omega, fun h => by have := and_pos hc2; omega⟩) ?_ (by have := and_pos hc2; show b.sizes.length - (k.1 + 1) < b.sizes.length - k.1; omega)
          (refine Ent.mk' ?_ ?_ <;> (repeat' (first | exact allSub_zero | exact allTags_nil | refine allSub_succ' ?_ (Ty.sub_any _) | refine allSub_succ' ?_ (Ty.sub_refl _) | refine allSub_succ' ?_ ?_)))
          all_goals skip
          all_goals exact Ty.sub_row (afterUp_no hc3)
        ·
          refine t_skip ?_
          refine i_then ?_
          refine t_seq ?_
          refine t_region ?_
          refine r_buildRow (E := I64) rfl rfl rfl rfl ?_
          refine mvS rfl ?_
          refine r_append rfl rfl (by decide) rfl rfl rfl rfl rfl rfl (by decide) (by (simp <;> omega)) (by (simp <;> omega)) ?_
          refine asR rfl ?_
          refine r_nil ?_
          refine i_then ?_
          refine t_seq ?_
          refine t_own (s := 13) rfl rfl ?_
          refine t_as (s := 13) rfl (vs_len (show ([] ++ now).length = b.lots.length by rw [List.nil_append]; exact hnow)) ?_
          refine t_asC (tg := 61) rfl (Cont.sub_vec (List.nil_append now)) ?_
          refine t_region ?_
          refine mvV rfl ?_
          refine mvI rfl ?_
          refine mvI rfl ?_
          refine r_index_vsI rfl rfl rfl rfl rfl (by omega) (by omega) ?_
          refine r_store_vecB (E := I64) (z := (k.1 : Int)) rfl rfl rfl (by decide) rfl rfl (by exact (rfl : _ = Ty.int _ _)) rfl (by omega) (by decide) rfl rfl ?_
          refine r_nil ?_
          refine i_then ?_
          refine t_pub (tg := 61) [(13, Ty.sl I64 (now.set lot k.1))] (by decide) rfl ⟨pub_vs rfl rfl (by rw [List.length_set]; exact hnow) (by decide), trivial⟩ ?_
          have hal := after_len (b := b) (pp := pp) h7.2 m' (now.set lot k.1) (lot + 1) (left - 1)
          refine t_region ?_
          refine mvR rfl ?_
          refine r_load_ppN rfl rfl rfl (by exact Nat.le_of_ble_eq_true rfl) ?_
          refine mvS rfl ?_
          refine mvS rfl ?_
          refine mvI rfl ?_
          refine r_add rfl rfl (by omega) (by omega) ?_
          refine mvI rfl ?_
          refine r_sub rfl rfl (by omega) (by omega) ?_
          refine r_call (ctr_pub (by decide) (ih m' rfl (now.set lot k.1) (lot + 1) (left - 1) (by omega) (by rw [List.length_set]; exact hnow) (by omega))) rfl rfl rfl rfl rfl ?_
          refine r_append rfl rfl (by decide) rfl rfl rfl rfl rfl rfl (by decide) (by (dsimp only; omega)) (by omega) ?_
          refine asR rfl ?_
          refine r_nil ?_
          refine i_block ?_
          refine i_then ?_
          refine t_region ?_
          refine mvI rfl ?_
          refine r_add rfl rfl (by omega) (by omega) ?_
          refine asI rfl ?_
          refine r_nil ?_
          refine i_round (⟨k.1 + 1, by have := and_pos hc2; omega, fun h => by have := and_pos hc2; omega⟩) ?_ (by have := and_pos hc2; show b.sizes.length - (k.1 + 1) < b.sizes.length - k.1; omega)
          (refine Ent.mk' ?_ ?_ <;> (repeat' (first | exact allSub_zero | exact allTags_nil | refine allSub_succ' ?_ (Ty.sub_any _) | refine allSub_succ' ?_ (Ty.sub_refl _) | refine allSub_succ' ?_ ?_)))
          all_goals skip
          all_goals exact Ty.sub_row (afterUp_yes hc3)
      ·
        refine t_exit ?_
        refine i_then_exit ?_
        refine i_then_exit ?_
        refine i_block_exit rfl ?_
        refine i_then ?_
        refine t_seq ?_
        refine t_region ?_
        refine mvR rfl ?_
        refine asR rfl ?_
        refine r_nil ?_
        refine i_then ?_
        refine t_ret ?_
        refine g_ret1 [20] rfl rfl (by decide) (by repeat (exact rc_nil)) ?_
        all_goals skip
        all_goals exact rg_cv (cv_row_eq (by decide) (after_end k.2.1 (fun h => and_neg hc2 ⟨by omega, h.2⟩) k.2.2))
theorem k_after (b : Barn) (hr : b.Right) (pp : List Int) (hp : pp.length = b.lots.length) : ∀ (m : Nat) (now : List Int) (lot : Nat) (left : Int), lot + m = b.lots.length → now.length = b.lots.length → 0 ≤ left ∧ left ≤ 3 → CtrG Tryz.prog 40 [] [] [barnT b, Ty.sl I64 pp, Ty.sl I64 now, Ty.int .i64 (lot : Nat), Ty.int .i64 left] [] (Ty.row RowE 22 20 (afterL b pp m now lot left))
  | 0, now, lot, left, h1, h2, h3 => k_afterS b hr pp hp 0 (fun m' e => by cases e) now lot left h1 h2 h3
  | m + 1, now, lot, left, h1, h2, h3 => k_afterS b hr pp hp (m + 1) (fun m' e now lot left => by
      injection e with e; subst e; exact k_after b hr pp hp m now lot left) now lot left h1 h2 h3
theorem c_around (b : Barn) (hr : b.Right) (g : Int) (hg : 1 ≤ g ∧ g ≤ 3) (x : List Int) (hx : x.length = b.lots.length) : Ctr Tryz.prog 40 [barnT b, Ty.sl I64 x, Ty.sl I64 x, Ty.int .i64 0, Ty.int .i64 g] (Ty.sl RowE (aroundL b g x)) := by
  have h := ctr_pub (by decide) (k_after b hr x hx b.lots.length x 0 g (by omega) hx (by omega))
  rw [Int.natCast_zero, around_def] at h
  exact h
set_option maxRecDepth 100000 in
theorem c_rLeast (b : Barn) (hr : b.Right) (g : Int) (hg : 1 ≤ g ∧ g ≤ 3) : Ctr Tryz.prog 11 [barnT b, Ty.int .i64 g] (Ty.int .i64 (leastR b g)) := by
  refine fn_intro Tryz.func11 rfl (by decide) Tryz.ntmps11 (by exact Nat.le_of_ble_eq_true rfl) fun w0 M0 => ?_
  have hs := small_right hr
  have h6 := hr.lots
  have h7 := hr.bins
  have hg0 : 0 ≤ g := by omega
  have hpw : 8 ^ b.lots.length ≤ 8 ^ 6 := Nat.pow_le_pow_right (by decide) (by omega)
  have hp6 : 8 ^ 6 = 262144 := by decide
  refine t_seq ?_
  refine t_region ?_
  refine r_box_agg rfl ?_
  refine asI rfl ?_
  refine r_nil ?_
  refine i_then ?_
  refine t_seq ?_
  refine t_region ?_
  refine r_load_ppN rfl rfl rfl (by exact Nat.le_of_ble_eq_true rfl) ?_
  refine r_call (c_rFirst b hs) rfl rfl rfl rfl rfl ?_
  refine r_buildRowN (E := RowE) (xs := [innL b]) rfl rfl rfl rfl rfl (by decide) (by decide) (by repeat (first | exact (Parts.nil : Parts _ _ [] _) | (show Parts _ _ ((_, _) :: _) _; apply Parts.one; (· exact (rfl : _ = Ty.sl _ _)); (· exact rfl)))) (by exact rfl) rfl rfl ?_
  refine asR rfl ?_
  refine r_nil ?_
  refine i_then ?_
  refine t_seq ?_
  refine t_region ?_
  refine asI rfl ?_
  refine r_nil ?_
  refine i_then ?_
  refine t_seq ?_
  refine t_seq ?_
  refine t_region ?_
  refine asI rfl ?_
  refine r_nil ?_
  refine i_then ?_
  refine t_block ?_
  refine t_loop (fun (x : {x : List (List Int) × Nat × Nat // Lv b g x.1 x.2.1 x.2.2}) => live [(1, Ty.int .i64 g), (2, Ty.pp (barnTys b)), (5, Ty.row RowE 22 16 x.1.1), (6, Ty.int .i64 (x.1.2.1 : Nat)), (7, Ty.int .i64 (x.1.2.2 : Nat))] []) (fun x => 117649 - x.1.2.1) (⟨([innL b], 0, 0), lv0 hr g⟩) ?_ fun x => ?_
  · (refine Ent.mk' ?_ ?_ <;> (repeat' (first | exact allSub_zero | exact allTags_nil | refine allSub_succ' ?_ (Ty.sub_any _) | refine allSub_succ' ?_ (Ty.sub_refl _))))
  ·
    have hxf := few_all hr hg0 x.2.nodup x.2.reach
    have hxn := x.2.nle
    have hxl := x.2.fle
    refine t_seq ?_
    refine t_seq ?_
    refine t_region ?_
    refine mvI rfl ?_
    refine mvR rfl ?_
    refine r_len_row rfl rfl rfl ?_
    refine r_bin rfl rfl rfl ?_
    refine r_nil ?_
    refine i_then ?_
    refine t_cond_dec rfl (fun hc1 => ?_) (fun hc1 => ?_)
    ·
      refine t_skip ?_
      refine i_then ?_
      refine t_seq ?_
      refine t_block ?_
      refine t_seq ?_
      refine t_region ?_
      refine mvR rfl ?_
      refine r_len_row rfl rfl rfl ?_
      refine asI rfl ?_
      refine r_nil ?_
      refine i_then ?_
      refine t_seq ?_
      refine t_seq ?_
      refine t_region ?_
      refine mvI rfl ?_
      refine asI rfl ?_
      refine r_nil ?_
      refine i_then ?_
      refine t_block ?_
      refine t_loop (fun (i : {i : Nat // x.1.2.1 ≤ i ∧ i ≤ x.1.1.length ∧ ∀ j, x.1.2.1 ≤ j → j < i → madeL b (nth x.1.1 j) = false}) => live [(1, Ty.int .i64 g), (2, Ty.pp (barnTys b)), (5, Ty.row RowE 22 16 x.1.1), (6, Ty.int .i64 (x.1.2.1 : Nat)), (7, Ty.int .i64 (x.1.2.2 : Nat)), (8, Ty.int .i64 x.1.1.length), (9, Ty.int .i64 (i.1 : Nat))] []) (fun i => x.1.1.length - i.1) (⟨x.1.2.1, Nat.le_refl _, x.2.fle, fun j h1 h2 => by omega⟩) ?_ fun i => ?_
      · (refine Ent.mk' ?_ ?_ <;> (repeat' (first | exact allSub_zero | exact allTags_nil | refine allSub_succ' ?_ (Ty.sub_any _) | refine allSub_succ' ?_ (Ty.sub_refl _))))
      ·
        have hi1 := i.2.1
        have hi2 := i.2.2.1
        refine t_seq ?_
        refine t_seq ?_
        refine t_region ?_
        refine mvI rfl ?_
        refine mvI rfl ?_
        refine r_bin rfl rfl rfl ?_
        refine r_nil ?_
        refine i_then ?_
        refine t_cond_dec rfl (fun hc2 => ?_) (fun hc2 => ?_)
        ·
          refine t_skip ?_
          refine i_then ?_
          refine t_seq ?_
          refine t_block ?_
          refine t_seq ?_
          refine t_draw mixed rfl ?_
          refine r_load_ppN rfl rfl rfl (by exact Nat.le_of_ble_eq_true rfl) ?_
          refine mvR rfl ?_
          refine mvI rfl ?_
          refine r_index_rowI rfl rfl rfl rfl rfl rfl (by omega) (by omega) ?_
          refine r_load_op rfl rfl rfl rfl ?_
          refine r_call (c_rMade b hs (nth x.1.1 i.1) (Nat.le_of_eq ((x.2.reach _ (nth_mem (by omega))).bins hr hg0).1)) rfl rfl rfl rfl rfl ?_
          refine r_nil ?_
          refine ⟨by kernel_rfl, ?_⟩
          refine i_then ?_
          refine t_cond rfl (fun hc3 => ?_) (fun hc3 => ?_)
          ·
            refine t_seq ?_
            refine t_region ?_
            refine mvI rfl ?_
            refine asI rfl ?_
            refine r_nil ?_
            refine i_then ?_
            refine t_ret ?_
            refine i_block_ret ?_
            refine i_then_ret ?_
            refine i_then_ret ?_
            refine i_block_ret ?_
            refine i_then_ret ?_
            refine i_block_ret ?_
            refine i_then_ret ?_
            refine i_then_ret ?_
            refine i_block_ret ?_
            refine i_then_ret ?_
            refine i_rp1 rfl rfl ?_
            all_goals skip
            all_goals exact ret_eq rfl rfl (congrArg (Ty.int .i64) (x.2.found hr hg (by omega) hc3))
          ·
            refine t_skip ?_
            refine i_block ?_
            refine i_then ?_
            refine t_region ?_
            refine mvI rfl ?_
            refine r_add rfl rfl (by omega) (by omega) ?_
            refine asI rfl ?_
            refine r_nil ?_
            refine i_round (⟨i.1 + 1, by have := i.2.1; omega, by omega, lv_ext i.2.2.2 hc3⟩) ?_ (by show x.1.1.length - (i.1 + 1) < x.1.1.length - i.1; omega)
            (refine Ent.mk' ?_ ?_ <;> (repeat' (first | exact allSub_zero | exact allTags_nil | refine allSub_succ' ?_ (Ty.sub_any _) | refine allSub_succ' ?_ (Ty.sub_refl _))))
            all_goals skip
        ·
          refine t_exit ?_
          refine i_then_exit ?_
          refine i_then_exit ?_
          refine i_block_exit rfl ?_
          refine i_then ?_
          refine t_seq ?_
          refine t_seq ?_
          refine t_region ?_
          refine mvI rfl ?_
          refine asI rfl ?_
          refine r_nil ?_
          refine i_then ?_
          refine t_block ?_
          refine t_loop (fun (y : {y : List (List Int) × Nat // Ex b g x.1.1 y.1 x.1.2.1 x.1.2.2 y.2 0}) => live [(1, Ty.int .i64 g), (2, Ty.pp (barnTys b)), (5, Ty.row RowE 22 16 y.1.1), (6, Ty.int .i64 (x.1.2.1 : Nat)), (7, Ty.int .i64 (x.1.2.2 : Nat)), (8, Ty.int .i64 x.1.1.length), (10, Ty.int .i64 (y.1.2 : Nat))] []) (fun y => x.1.1.length - y.1.2) (⟨(x.1.1, x.1.2.1), ex0 x.2⟩) ?_ fun y => ?_
          · (refine Ent.mk' ?_ ?_ <;> (repeat' (first | exact allSub_zero | exact allTags_nil | refine allSub_succ' ?_ (Ty.sub_any _) | refine allSub_succ' ?_ (Ty.sub_refl _))))
          ·
            have hy1 := y.2.fi
            refine t_seq ?_
            refine t_seq ?_
            refine t_region ?_
            refine mvI rfl ?_
            refine mvI rfl ?_
            refine r_bin rfl rfl rfl ?_
            refine r_nil ?_
            refine i_then ?_
            refine t_cond_dec rfl (fun hc4 => ?_) (fun hc4 => ?_)
            ·
              refine t_skip ?_
              refine i_then ?_
              refine t_seq ?_
              refine t_block ?_
              refine t_seq ?_
              obtain ⟨hya, hyb⟩ := y.2.at_ (show y.1.2 < x.1.1.length by omega)
              have hyl := ((x.2.reach _ (nth_mem (xs := x.1.1) (k := y.1.2) (by omega))).bins hr hg0).1
              refine t_draw mixed rfl ?_
              refine r_load_ppN rfl rfl rfl (by exact Nat.le_of_ble_eq_true rfl) ?_
              refine mvR rfl ?_
              refine mvI rfl ?_
              refine r_index_rowI rfl rfl rfl rfl rfl rfl (by omega) (by omega) ?_
              refine r_load_op rfl rfl rfl rfl ?_
              refine mvR rfl ?_
              refine mvI rfl ?_
              refine r_index_rowI rfl rfl rfl rfl rfl rfl (by omega) (by omega) ?_
              refine r_load_op rfl rfl rfl rfl ?_
              refine mvI rfl ?_
              refine r_call (c_around b hr g hg (nth y.1.1 y.1.2) (by rw [hyb]; exact hyl)) rfl rfl rfl rfl rfl ?_
              refine asS rfl ?_
              refine r_nil ?_
              refine ⟨by kernel_rfl, ?_⟩
              refine i_then ?_
              refine t_seq ?_
              refine t_as (s := 11) rfl (Ty.sub_sl (congrArg (aroundL b g) hyb)) ?_
              have hal : (aroundL b g (nth x.1.1 y.1.2)).length ≤ 262144 := Nat.le_trans (around_len h7.2 g _) (by omega)
              refine t_region ?_
              refine asI rfl ?_
              refine r_nil ?_
              refine i_then ?_
              refine t_block ?_
              refine t_loop (fun (z : {z : List (List Int) × Nat // Ex b g x.1.1 z.1 x.1.2.1 x.1.2.2 y.1.2 z.2}) => live [(1, Ty.int .i64 g), (2, Ty.pp (barnTys b)), (5, Ty.row RowE 22 16 z.1.1), (6, Ty.int .i64 (x.1.2.1 : Nat)), (7, Ty.int .i64 (x.1.2.2 : Nat)), (8, Ty.int .i64 x.1.1.length), (10, Ty.int .i64 (y.1.2 : Nat)), (11, Ty.sl RowE (aroundL b g (nth x.1.1 y.1.2))), (12, Ty.int .i64 (z.1.2 : Nat))] []) (fun z => (aroundL b g (nth x.1.1 y.1.2)).length - z.1.2) (⟨(y.1.1, 0), y.2⟩) ?_ fun z => ?_
              · (refine Ent.mk' ?_ ?_ <;> (repeat' (first | exact allSub_zero | exact allTags_nil | refine allSub_succ' ?_ (Ty.sub_any _) | refine allSub_succ' ?_ (Ty.sub_refl _))))
              ·
                have hzf := few_all hr hg0 z.2.nodup z.2.reach
                refine t_seq ?_
                refine t_seq ?_
                refine t_region ?_
                refine mvI rfl ?_
                refine mvS rfl ?_
                refine r_len rfl rfl rfl ?_
                refine r_bin rfl rfl rfl ?_
                refine r_nil ?_
                refine i_then ?_
                refine t_cond_dec rfl (fun hc5 => ?_) (fun hc5 => ?_)
                ·
                  refine t_skip ?_
                  refine i_then ?_
                  refine t_seq ?_
                  refine t_block ?_
                  refine t_seq ?_
                  have hnx := (((x.2.reach _ (nth_mem (xs := x.1.1) (k := y.1.2) (by omega))).next h6 hg0 (nth_mem (xs := aroundL b g (nth x.1.1 y.1.2)) (k := z.1.2) (by omega))).bins hr hg0).1
                  refine t_region ?_
                  refine mvR rfl ?_
                  refine mvS rfl ?_
                  refine mvI rfl ?_
                  refine r_index_slN rfl rfl rfl rfl rfl rfl (by omega) ?_
                  refine r_load_pp rfl rfl rfl rfl ?_
                  refine r_callL [16] (c_rplace z.1.1 (nth (aroundL b g (nth x.1.1 y.1.2)) z.1.2) (fun q hq => (((z.2.reach q hq).bins hr hg0).1).trans hnx.symm)) rfl (by repeat (first | exact lends_nil | refine lends_cons (lend_pub rfl rfl) ?_ | refine lends_cons (lend_row rfl) ?_)) (by exact plain_int _ _) ?_
                  refine r_bin rfl rfl rfl ?_
                  refine r_nil ?_
                  refine i_then ?_
                  refine t_cond_dec rfl (fun hc6 => ?_) (fun hc6 => ?_)
                  ·
                    refine t_region ?_
                    refine mvR rfl ?_
                    refine mvS rfl ?_
                    refine mvI rfl ?_
                    refine r_index_slN rfl rfl rfl rfl rfl rfl (by omega) ?_
                    refine r_load_pp rfl rfl rfl rfl ?_
                    refine r_buildSlice (E := RowE) (xs := [nth (aroundL b g (nth x.1.1 y.1.2)) z.1.2]) rfl rfl rfl rfl rfl (by decide) (by decide) (by repeat (first | exact (Parts.nil : Parts _ _ [] _) | (show Parts _ _ ((_, _) :: _) _; apply Parts.one; (· exact (rfl : _ = Ty.sl _ _)); (· exact rfl)))) (by exact rfl) rfl ?_
                    refine r_append rfl rfl (by decide) rfl rfl rfl rfl rfl rfl (by decide) (by (simp <;> omega)) (by (simp <;> omega)) ?_
                    refine asR rfl ?_
                    refine r_nil ?_
                    refine i_block ?_
                    refine i_then ?_
                    refine t_region ?_
                    refine mvI rfl ?_
                    refine r_add rfl rfl (by omega) (by omega) ?_
                    refine asI rfl ?_
                    refine r_nil ?_
                    refine i_round (⟨(z.1.1 ++ [nth (aroundL b g (nth x.1.1 y.1.2)) z.1.2], z.1.2 + 1), z.2.new x.2 h6 hg0 (by omega) (by omega) (place_no hc6)⟩) ?_ (by show (aroundL b g (nth x.1.1 y.1.2)).length - (z.1.2 + 1) < (aroundL b g (nth x.1.1 y.1.2)).length - z.1.2; omega)
                    (refine Ent.mk' ?_ ?_ <;> (repeat' (first | exact allSub_zero | exact allTags_nil | refine allSub_succ' ?_ (Ty.sub_any _) | refine allSub_succ' ?_ (Ty.sub_refl _))))
                    all_goals skip
                  ·
                    refine t_skip ?_
                    refine i_block ?_
                    refine i_then ?_
                    refine t_region ?_
                    refine mvI rfl ?_
                    refine r_add rfl rfl (by omega) (by omega) ?_
                    refine asI rfl ?_
                    refine r_nil ?_
                    refine i_round (⟨(z.1.1, z.1.2 + 1), z.2.old x.2 (by omega) (place_in hc6)⟩) ?_ (by show (aroundL b g (nth x.1.1 y.1.2)).length - (z.1.2 + 1) < (aroundL b g (nth x.1.1 y.1.2)).length - z.1.2; omega)
                    (refine Ent.mk' ?_ ?_ <;> (repeat' (first | exact allSub_zero | exact allTags_nil | refine allSub_succ' ?_ (Ty.sub_any _) | refine allSub_succ' ?_ (Ty.sub_refl _))))
                    all_goals skip
                ·
                  refine t_exit ?_
                  refine i_then_exit ?_
                  refine i_then_exit ?_
                  refine i_block_exit rfl ?_
                  refine i_block ?_
                  refine i_then ?_
                  refine t_region ?_
                  refine mvI rfl ?_
                  refine r_add rfl rfl (by omega) (by omega) ?_
                  refine asI rfl ?_
                  refine r_nil ?_
                  refine i_round (⟨(z.1.1, y.1.2 + 1), z.2.next (by omega) (by omega)⟩) ?_ (by show x.1.1.length - (y.1.2 + 1) < x.1.1.length - y.1.2; omega)
                  (refine Ent.mk' ?_ ?_ <;> (repeat' (first | exact allSub_zero | exact allTags_nil | refine allSub_succ' ?_ (Ty.sub_any _) | refine allSub_succ' ?_ (Ty.sub_refl _))))
                  all_goals skip
            ·
              refine t_exit ?_
              refine i_then_exit ?_
              refine i_then_exit ?_
              refine i_block_exit rfl ?_
              refine i_then ?_
              refine t_region ?_
              refine mvI rfl ?_
              refine asI rfl ?_
              refine r_nil ?_
              refine i_block ?_
              refine i_then ?_
              refine t_region ?_
              refine mvI rfl ?_
              refine r_add rfl rfl (by omega) (by omega) ?_
              refine asI rfl ?_
              refine r_nil ?_
              refine i_round (⟨(y.1.1, x.1.1.length, x.1.2.2 + 1), y.2.end x.2 h6 hg0 (by omega) (by omega) (fun j h1 h2 => i.2.2.2 j h1 (by have := i.2.2.1; omega))⟩) ?_ (by show 117649 - x.1.1.length < 117649 - x.1.2.1; omega)
              (refine Ent.mk' ?_ ?_ <;> (repeat' (first | exact allSub_zero | exact allTags_nil | refine allSub_succ' ?_ (Ty.sub_any _) | refine allSub_succ' ?_ (Ty.sub_refl _))))
              all_goals skip
    ·
      refine t_exit ?_
      refine i_then_exit ?_
      refine i_then_exit ?_
      refine i_block_exit rfl ?_
      refine i_then ?_
      refine t_seq ?_
      refine t_region ?_
      refine asI rfl ?_
      refine r_nil ?_
      refine i_then ?_
      refine t_ret ?_
      refine i_rp1 rfl rfl ?_
      all_goals skip
      all_goals exact ret_eq rfl rfl (congrArg (Ty.int .i64) (x.2.none hr hg (by omega)))
end Go.Proofs.YtpnndljmhpepgaaGreat

namespace Go.Proofs.YtpnndljmhpepgaaGreat
open Go Go.T
set_option maxHeartbeats 6000000
theorem wide_g {b : Barn} (h : greatV b = true) : true = wideV b := by unfold wideV; rw [h]; rfl
theorem wide_n {b : Barn} (h : greatV b = false) (h2 : decide (checkR b = 0) = false) : false = wideV b := by
  unfold wideV; rw [check_eq] at h2; rw [h, h2]; rfl
theorem wide_y {b : Barn} (h : greatV b = false) (h2 : decide (checkR b = 0) = true) : decide (150 < manyV b) = wideV b := by
  unfold wideV; rw [check_eq] at h2; rw [h, h2]; rfl
attribute [local irreducible] rturn madeL manyUp muQ placeL greatV checkR checkB
attribute [local irreducible] dInt dBool dSl dPp dPtr dAgg dTup dClo dAny dEx dStr dGd dCells dVec dVs dRow dOp nth Tri Into TOps Ctr bodyPost Exit.then Exit.inBlock Code.wp Code.wpIn dWhen dPa dPe dAo dArr dMp dPm dMap dCJ CtrG CtrI OpY keepPost iterPost bodyPostM roundQ
attribute [local irreducible] dRowJ dMs dFit
set_option maxRecDepth 100000 in
theorem c_wide (b : Barn) (hs1 : b.lots.length * 24 ≤ 140737488355328) : Ctr Tryz.prog 5 [barnT b] (Ty.bool (wideV b)) := by
  refine fn_intro Tryz.func5 rfl (by decide) Tryz.ntmps5 (by exact Nat.le_of_ble_eq_true rfl) fun w0 M0 => ?_
  refine t_seq ?_
  refine t_region ?_
  refine r_box_agg rfl ?_
  refine asB rfl ?_
  refine r_nil ?_
  refine i_then ?_
  refine t_seq ?_
  refine t_region ?_
  refine r_load_ppN rfl rfl rfl (by exact Nat.le_of_ble_eq_true rfl) ?_
  refine r_call (c_theirsW b hs1) rfl rfl rfl rfl rfl ?_
  refine r_alloc rfl (by exact List.cons_ne_nil _ _) rfl ?_
  refine r_storeN rfl rfl (by decide) rfl rfl rfl rfl rfl rfl ?_
  refine r_nil ?_
  refine i_then ?_
  refine t_seq ?_
  refine t_region ?_
  refine r_load_ppN rfl rfl rfl (by exact Nat.le_of_ble_eq_true rfl) ?_
  refine r_call (c_great b) rfl rfl rfl rfl rfl ?_
  refine mvB rfl ?_
  cases hsp : (greatV b)
  ·
    (refine r_on rfl rfl rfl (by apply opT_of; (refine r_load_ptrN rfl rfl (by decide) rfl rfl (by exact Nat.le_of_ble_eq_true rfl) ?_); refine r_nil ?_; exact rfl) ?_)
    (refine r_on rfl rfl rfl (by apply opT_of; (refine r_call (c_rCheck b (small_great hsp)) rfl rfl rfl rfl rfl ?_); refine r_nil ?_; exact rfl) ?_)
    (refine r_on rfl rfl rfl (by apply opT_of; (refine r_bin rfl rfl rfl ?_); refine r_nil ?_; exact rfl) ?_)
    (refine r_on rfl rfl rfl (by apply opT_of; (refine mvB rfl ?_); refine r_nil ?_; exact rfl) ?_)
    cases hsp : (decide (checkR b = 0))
    ·
      refine r_off rfl rfl rfl rfl ?_
      refine r_off rfl rfl rfl rfl ?_
      refine r_off rfl rfl rfl rfl ?_
      (refine r_on rfl rfl rfl (by apply opT_of; (refine r_pick0 rfl ?_); refine r_nil ?_; exact rfl) ?_)
      refine r_pickF rfl rfl ?_
      refine asB rfl ?_
      refine r_nil ?_
      refine i_then ?_
      refine t_ret ?_
      refine i_rp1 rfl rfl ?_
      all_goals skip
      all_goals exact ret_eq rfl rfl (congrArg Ty.bool (wide_n ‹greatV b = false› hsp))
    ·
      (refine r_on rfl rfl rfl (by apply opT_of; (refine r_load_ptrN rfl rfl (by decide) rfl rfl (by exact Nat.le_of_ble_eq_true rfl) ?_); refine r_nil ?_; exact rfl) ?_)
      (refine r_on rfl rfl rfl (by apply opT_of; (refine r_call (c_rMany b (check_right ((check_eq b).symm.trans (of_decide_eq_true hsp)))) rfl rfl rfl rfl rfl ?_); refine r_nil ?_; exact rfl) ?_)
      (refine r_on rfl rfl rfl (by apply opT_of; (refine r_bin rfl rfl rfl ?_); refine r_nil ?_; exact rfl) ?_)
      (refine r_on rfl rfl rfl (by apply opT_of; (refine r_pick1 rfl rfl ?_); refine r_nil ?_; exact rfl) ?_)
      refine r_pickF rfl rfl ?_
      refine asB rfl ?_
      refine r_nil ?_
      refine i_then ?_
      refine t_ret ?_
      refine i_rp1 rfl rfl ?_
      all_goals skip
      all_goals exact ret_eq rfl rfl (congrArg Ty.bool (wide_y ‹greatV b = false› hsp))
  ·
    refine r_off rfl rfl rfl rfl ?_
    refine r_off rfl rfl rfl rfl ?_
    refine r_off rfl rfl rfl rfl ?_
    refine r_off rfl rfl rfl rfl ?_
    cases hsp : (decide (checkR b = 0))
    ·
      refine r_offU rfl rfl rfl ?_
      refine r_offU rfl rfl rfl ?_
      refine r_offU rfl rfl rfl ?_
      refine r_off rfl rfl rfl rfl ?_
      refine r_pickT rfl ?_
      refine asB rfl ?_
      refine r_nil ?_
      refine i_then ?_
      refine t_ret ?_
      refine i_rp1 rfl rfl ?_
      all_goals skip
      all_goals exact ret_eq rfl rfl (congrArg Ty.bool (wide_g ‹greatV b = true›))
    ·
      refine r_offU rfl rfl rfl ?_
      refine r_offU rfl rfl rfl ?_
      refine r_offU rfl rfl rfl ?_
      refine r_off rfl rfl rfl rfl ?_
      refine r_pickT rfl ?_
      refine asB rfl ?_
      refine r_nil ?_
      refine i_then ?_
      refine t_ret ?_
      refine i_rp1 rfl rfl ?_
      all_goals skip
      all_goals exact ret_eq rfl rfl (congrArg Ty.bool (wide_g ‹greatV b = true›))
end Go.Proofs.YtpnndljmhpepgaaGreat

namespace Go.Proofs.YtpnndljmhpepgaaGreat
open Go Go.T
set_option maxHeartbeats 6000000
section
variable {b : Barn}
theorem nowide {b : Barn} (h : wideV b = false) : b.Small ∧ (checkB b = 0 → manyV b ≤ 150) := by
  unfold wideV at h
  rw [Bool.or_eq_false_iff] at h
  refine ⟨small_great h.1, fun h0 => ?_⟩
  have h2 := h.2
  rw [decide_eq_true h0, Bool.true_and, decide_eq_false_iff_not] at h2
  omega
theorem fw_cost (h : ¬ checkB b = 0) (c : Tur → Int) : 0 = costR b c := (if_neg h).symm
theorem fw_len (b : Barn) : ((planR b oneC).length : Int) = costR b oneC := by
  by_cases h : checkB b = 0
  · have hr := check_right h
    have hO := cheap hr (one_ok b)
    rcases hO.err with e | e
    · rw [← (hO.yes e).2.1, cost_one]
    · rw [(hO.no e).1, (hO.no e).2.1]; rfl
  · rw [← fw_cost h]; unfold planR; rw [if_neg h]; rfl
end
attribute [local irreducible] planE planR costR placesV checkB checkR madeL afterR sameV wideV bestV
attribute [local irreducible] dInt dBool dSl dPp dPtr dAgg dTup dClo dAny dEx dStr dGd dCells dVec dVs dRow dOp nth Tri Into TOps Ctr bodyPost Exit.then Exit.inBlock Code.wp Code.wpIn dWhen dPa dPe dAo dArr dMp dPm dMap dCJ CtrG CtrI OpY keepPost iterPost bodyPostM roundQ
attribute [local irreducible] dRowJ dMs dFit
end Go.Proofs.YtpnndljmhpepgaaGreat

namespace Go.Proofs.YtpnndljmhpepgaaGreat
open Go Go.T
set_option maxHeartbeats 6000000
def rowOT (x : Option (List Tur)) : List Ty := match x with | none => [Ty.ex (.slice none 0 0)] | some l => [Ty.sl TurE l]
def RowOTE : El (Option (List Tur)) := El.mk' 1 rowOT (fun x => by cases x <;> rfl) (fun x => by cases x <;> exact ⟨rfl, rfl, rfl⟩)
instance : Inhabited (Option (List Tur)) := ⟨none⟩
theorem rows_someT (l : List (List Tur)) : (l.map some).flatMap RowOTE.tys = l.flatMap RowT.tys := by
  induction l with
  | nil => rfl
  | cons x l ih => rw [List.map_cons, List.flatMap_cons, List.flatMap_cons, ih]; rfl
theorem sl_rowsT (l : List (List Tur)) : (Ty.sl RowOTE (l.map some)).Sub (Ty.sl RowT l) := fun w M v ⟨a, c, e, h1, h2, h3⟩ => by
  rw [List.length_map] at e h1 h3
  exact ⟨a, c, e, h1, h2, fun h0 => by
    obtain ⟨b, off, e1, h4⟩ := h3 h0
    rw [rows_someT] at h4
    exact ⟨b, off, e1, h4⟩⟩
def rowUT (l : List (List Tur)) (k : Nat) : List (Option (List Tur)) := (l.take k).map some ++ List.replicate (l.length - k) none
theorem row_setT (x : Option (List Tur)) (l : List Tur) : (RowOTE.tys x).set 0 (Ty.sl TurE l) = RowOTE.tys (some l) := by cases x <;> rfl
theorem rowUT_len {l : List (List Tur)} {k : Nat} (h : k ≤ l.length) : (rowUT l k).length = l.length := by unfold rowUT; simp; omega
theorem rowUT_succ {l : List (List Tur)} {k : Nat} (h : k < l.length) : (rowUT l k).set k (some (nth l k)) = rowUT l (k + 1) := by
  unfold rowUT
  have e : ((l.take k).map some).length = k := by rw [List.length_map, List.length_take]; omega
  rw [List.set_append_right _ _ (by omega), e, Nat.sub_self, take_nth h, List.map_append, List.append_assoc, show l.length - k = (l.length - (k + 1)) + 1 by omega, List.replicate_succ]; rfl
theorem rowUT_all {l : List (List Tur)} {k : Nat} (h : l.length = k) : rowUT l k = l.map some := by
  unfold rowUT; rw [List.take_of_length_le (by omega), show l.length - k = 0 by omega]; simp
section
variable {b : Barn} {g : Int} {rs : List (List Tur)}
theorem rn_shape (b : Barn) (g : Int) : (decide (checkB b = 0) && (decide (g < 1) || decide (g > 3))) = (decide (checkB b = 0) && !inB g 1 3) := by
  have : (decide (g < 1) || decide (g > 3)) = !inB g 1 3 := by
    rw [Bool.eq_iff_iff, Bool.or_eq_true, decide_eq_true_eq, decide_eq_true_eq, Bool.not_eq_true', ← Bool.not_eq_true, inB_true]; omega
  rw [this]
theorem rn_3 (h : (decide (checkB b = 0) && (decide (g < 1) || decide (g > 3))) = true) : 3 = askE b g := (ask_3 (by rw [← rn_shape]; exact h)).symm
theorem rn_ok (h : (decide (checkB b = 0) && (decide (g < 1) || decide (g > 3))) = false) : checkB b = askE b g := (ask_ok (by rw [← rn_shape]; exact h)).symm
theorem rn_bad (h : ¬ askE b g = 0) : askE b g = roundsE b g ∧ askE b g = (worksV b g rs).2 ∧ (0 : Int) = (roundsV b g).length ∧ false = (worksV b g rs).1 := by
  rw [roundsV_1 h, roundsE_1 h, worksV_1 h]; exact ⟨rfl, rfl, rfl, rfl⟩
theorem rn_rnds (h : askE b g = 0) : Rnds b g (roundsE b g) (roundsV b g) := rnds (check_right (ask_zero h).1) (ask_zero h).2
theorem rn_none (h : askE b g = 0) (hl : leastR b g < 0) : 7 = roundsE b g ∧ (0 : Int) = (roundsV b g).length := by
  have hR := rn_rnds h
  rcases hR.err with e | e
  · unfold leastR at hl; rw [if_pos e] at hl; omega
  · exact ⟨e.symm, by rw [(hR.no e).1]; rfl⟩
theorem rn_some (h : askE b g = 0) (hl : ¬ leastR b g < 0) : askE b g = roundsE b g ∧ leastR b g = (roundsV b g).length := by
  rcases (rn_rnds h).err with e | e
  · exact ⟨h.trans e.symm, by unfold leastR; rw [if_pos e]⟩
  · exfalso; apply hl; unfold leastR; rw [if_neg (by rw [e]; decide)]; decide
theorem rn_ask (h : roundsE b g = 0) : askE b g = 0 := Classical.byContradiction fun hn => by rw [roundsE_1 hn] at h; exact hn h
theorem rn_short (hm : checkB b = 0 → manyV b ≤ 150) (h : roundsE b g = 0) : (roundsV b g).length ≤ 150 ∧ (∀ l ∈ roundsV b g, l.length ≤ 3) ∧ worksV b g (roundsV b g) = (true, 0) := by
  have ha := rn_ask h
  obtain ⟨h0, hg⟩ := ask_zero ha
  have hr := check_right h0
  have hR := rn_rnds ha
  rw [h] at hR
  have hO := cheap hr (one_ok b)
  have hE := hR.same hr.lots hg.1 hO
  have hO' := hO
  rw [← hE] at hO'
  have hf := (hR.few hr.lots hg.1 hO').2
  have h1 := few_len hr hO hE.symm
  have h2 := fw_len b
  have h3 := hm h0
  have hlen : (roundsV b g).length ≤ 150 := by omega
  refine ⟨hlen, fun l hl => by have := (hR.rows hg.1 l hl).2; omega, ?_⟩
  obtain ⟨q, k1, k2, _⟩ := hR.yes rfl
  unfold worksV
  rw [if_pos ha, if_neg (by omega), works_go (by omega) _ k1, k2]
end
attribute [local irreducible] roundsE roundsV worksV leastR askE checkB checkR sameV wideV
attribute [local irreducible] dInt dBool dSl dPp dPtr dAgg dTup dClo dAny dEx dStr dGd dCells dVec dVs dRow dOp nth Tri Into TOps Ctr bodyPost Exit.then Exit.inBlock Code.wp Code.wpIn dWhen dPa dPe dAo dArr dMp dPm dMap dCJ CtrG CtrI OpY keepPost iterPost bodyPostM roundQ
attribute [local irreducible] dRowJ dMs dFit
set_option maxRecDepth 100000 in
theorem c_DupRowsT (l : List (List Tur)) (hn : l.length ≤ 1000) (hl : ∀ x ∈ l, x.length ≤ 1000) : Ctr Tryz.prog 9 [Ty.sl RowT l] (Ty.sl RowT l) := by
  refine fn_intro Tryz.func9 rfl (by decide) Tryz.ntmps9 (by exact Nat.le_of_ble_eq_true rfl) fun w0 M0 => ?_
  refine t_seq ?_
  refine t_region ?_
  refine asX rfl ?_
  refine r_nil ?_
  refine i_then ?_
  refine t_seq ?_
  refine t_region ?_
  refine mvS rfl ?_
  refine r_len rfl rfl rfl ?_
  refine r_makeV (E := RowOTE) (x0 := none) rfl rfl rfl rfl rfl rfl rfl (by decide) rfl (by omega) (by (dsimp only; omega)) (by omega) ?_
  refine asV rfl ?_
  refine r_nil ?_
  refine i_then ?_
  refine t_seq ?_
  refine t_seq ?_
  refine t_region ?_
  refine mvS rfl ?_
  refine r_len rfl rfl rfl ?_
  refine mvI rfl ?_
  refine r_nil ?_
  refine i_then ?_
  refine t_block ?_
  refine t_loop (fun (k : {k : Nat // k ≤ l.length}) => live [(3, Ty.vs 9 l.length), (9, Ty.sl RowT l), (10, Ty.int .i64 l.length), (11, Ty.int .i64 (k.1 : Nat))] [(9, Cont.vec RowOTE 29 (rowUT l k.1))]) (fun k => l.length - k.1) (⟨0, by omega⟩) ?_ fun k => ?_
  · (refine Ent.mk' ?_ ?_ <;> (repeat' (first | exact allSub_zero | exact allTags_nil | refine allSub_succ' ?_ (Ty.sub_any _) | refine allSub_succ' ?_ (Ty.sub_refl _) | refine allTags_cons rfl (Cont.sub_refl _) ?_)))
    all_goals trace_state
  ·
    have hk := k.2
    have hul := rowUT_len hk
    refine t_seq ?_
    refine t_region ?_
    refine r_bin rfl rfl rfl ?_
    refine r_nil ?_
    refine i_then ?_
    refine t_seq ?_
    refine t_cond_dec rfl (fun hc1 => ?_) (fun hc1 => ?_)
    ·
      refine t_skip ?_
      refine i_then ?_
      refine t_seq ?_
      refine t_block ?_
      refine t_seq ?_
      refine t_region ?_
      refine mvI rfl ?_
      refine r_index_slN rfl rfl rfl rfl rfl rfl (by omega) ?_
      refine r_load_pp rfl rfl rfl rfl ?_
      refine asI rfl ?_
      refine asS rfl ?_
      refine r_nil ?_
      refine i_then ?_
      refine t_region ?_
      refine mvV rfl ?_
      refine mvI rfl ?_
      refine mvS rfl ?_
      refine r_call (c_Dup_tur (nth l k.1) (hl _ (nth_mem (by omega)))) rfl rfl rfl rfl rfl ?_
      refine r_index_vs rfl rfl rfl rfl rfl (by omega) ?_
      refine r_store_vecB (E := RowOTE) (z := some (nth l k.1)) rfl rfl rfl (by decide) rfl rfl (by exact (rfl : _ = Ty.sl _ _)) rfl (by omega) (by decide) rfl (row_setT _ _) ?_
      refine r_nil ?_
      refine i_block ?_
      refine i_then ?_
      refine t_region ?_
      refine r_add rfl rfl (by omega) (by omega) ?_
      refine mvI rfl ?_
      refine r_nil ?_
      refine i_round (⟨k.1 + 1, by omega⟩) ?_ (by show l.length - (k.1 + 1) < l.length - k.1; omega)
      (refine Ent.mk' ?_ ?_ <;> (repeat' (first | exact allSub_zero | exact allTags_nil | refine allSub_succ' ?_ (Ty.sub_any _) | refine allSub_succ' ?_ (Ty.sub_refl _) | refine allTags_cons rfl ?_ ?_)))
      all_goals skip
      all_goals exact Cont.sub_vec (rowUT_succ (by omega))
    ·
      refine t_exit ?_
      refine i_then_exit ?_
      refine i_then_exit ?_
      refine i_block_exit rfl ?_
      refine i_then ?_
      refine t_seq ?_
      obtain ⟨k, hk⟩ := k
      obtain rfl : k = l.length := by have h1 : ¬ (k : Int) < (l.length : Int) := hc1; have h2 : k ≤ l.length := hk; omega
      refine t_pub (tg := 9) [(3, Ty.sl RowOTE (rowUT l l.length))] (by decide) rfl ⟨pub_vs rfl rfl (rowUT_len (Nat.le_refl _)) (by decide), trivial⟩ ?_
      refine t_region ?_
      refine mvS rfl ?_
      refine asS rfl ?_
      refine r_nil ?_
      refine i_then ?_
      refine t_ret ?_
      refine i_rp1 rfl rfl ?_
      all_goals skip
      all_goals exact ret_sub rfl rfl (by rw [rowUT_all rfl]; exact sl_rowsT l)
set_option maxRecDepth 100000 in
theorem c_EqRowsT (a b : List (List Tur)) : Ctr Tryz.prog 18 [Ty.sl RowT a, Ty.sl RowT b] (Ty.bool (decide (a = b))) := by
  refine fn_intro Tryz.func18 rfl (by decide) Tryz.ntmps18 (by exact Nat.le_of_ble_eq_true rfl) fun w0 M0 => ?_
  refine t_fact (s := 0) rfl rfl sl_len fun ha => ?_
  refine t_fact (s := 1) rfl rfl sl_len fun hb => ?_
  refine t_seq ?_
  refine t_region ?_
  refine asB rfl ?_
  refine r_nil ?_
  refine i_then ?_
  refine t_seq ?_
  refine t_seq ?_
  refine t_region ?_
  refine mvS rfl ?_
  refine r_len rfl rfl rfl ?_
  refine mvS rfl ?_
  refine r_len rfl rfl rfl ?_
  refine r_bin rfl rfl rfl ?_
  refine r_nil ?_
  refine i_then ?_
  refine t_cond_ndec rfl (fun hc1 => ?_) (fun hc1 => ?_)
  ·
    refine t_seq ?_
    refine t_region ?_
    refine asB rfl ?_
    refine r_nil ?_
    refine i_then ?_
    refine t_ret ?_
    refine i_then_ret ?_
    refine i_rp1 rfl rfl ?_
    all_goals skip
    exact ret_eq rfl rfl (congrArg Ty.bool (by rw [eq_comm, decide_eq_false_iff_not]; intro e; subst e; exact hc1 rfl))
  ·
    refine t_skip ?_
    refine i_then ?_
    refine t_seq ?_
    refine t_seq ?_
    refine t_region ?_
    refine mvS rfl ?_
    refine r_len rfl rfl rfl ?_
    refine mvI rfl ?_
    refine r_nil ?_
    refine i_then ?_
    refine t_block ?_
    refine t_loop (fun (k : {k : Nat // a.take k = b.take k}) => live [(0, Ty.sl RowT a), (1, Ty.sl RowT b), (12, Ty.sl RowT a), (13, Ty.int .i64 a.length), (14, Ty.int .i64 (k.1 : Nat))] []) (fun k => a.length - k.1) (⟨0, by simp⟩) ?_ fun k => ?_
    · (refine Ent.mk' ?_ ?_ <;> (repeat' (first | exact allSub_zero | exact allTags_nil | refine allSub_succ' ?_ (Ty.sub_any _) | refine allSub_succ' ?_ (Ty.sub_refl _))))
    ·
      have hlen : a.length = b.length := by omega
      refine t_seq ?_
      refine t_region ?_
      refine r_bin rfl rfl rfl ?_
      refine r_nil ?_
      refine i_then ?_
      refine t_seq ?_
      refine t_cond_dec rfl (fun hc2 => ?_) (fun hc2 => ?_)
      ·
        refine t_skip ?_
        refine i_then ?_
        refine t_seq ?_
        refine t_block ?_
        refine t_seq ?_
        refine t_region ?_
        refine mvI rfl ?_
        refine r_index_slN rfl rfl rfl rfl rfl rfl (by omega) ?_
        refine r_load_pp rfl rfl rfl rfl ?_
        refine asI rfl ?_
        refine asS rfl ?_
        refine r_nil ?_
        refine i_then ?_
        refine t_seq ?_
        refine t_region ?_
        refine mvS rfl ?_
        refine mvS rfl ?_
        refine mvI rfl ?_
        refine r_index_slN rfl rfl rfl rfl rfl rfl (by omega) ?_
        refine r_load_pp rfl rfl rfl rfl ?_
        refine r_call (c_Equal_tur _ _) rfl rfl rfl rfl rfl ?_
        refine r_not rfl ?_
        refine r_nil ?_
        refine i_then ?_
        refine t_cond_ndec rfl (fun hc3 => ?_) (fun hc3 => ?_)
        ·
          refine t_seq ?_
          refine t_region ?_
          refine asB rfl ?_
          refine r_nil ?_
          refine i_then ?_
          refine t_ret ?_
          refine i_block_ret ?_
          refine i_then_ret ?_
          refine i_then_ret ?_
          refine i_block_ret ?_
          refine i_then_ret ?_
          refine i_rp1 rfl rfl ?_
          all_goals skip
          exact ret_eq rfl rfl (congrArg Ty.bool (by rw [eq_comm, decide_eq_false_iff_not]; exact ne_of_nth (k := k.1) hc3))
        ·
          refine t_skip ?_
          refine i_block ?_
          refine i_then ?_
          refine t_region ?_
          refine r_add rfl rfl (by omega) (by omega) ?_
          refine mvI rfl ?_
          refine r_nil ?_
          refine i_round (⟨k.1 + 1, by have e : nth a k.1 = nth b k.1 := hc3; rw [take_nth (by omega), take_nth (by omega), k.2, e]⟩) ?_ (by show a.length - (k.1 + 1) < a.length - k.1; omega)
          (refine Ent.mk' ?_ ?_ <;> (repeat' (first | exact allSub_zero | exact allTags_nil | refine allSub_succ' ?_ (Ty.sub_any _) | refine allSub_succ' ?_ (Ty.sub_refl _))))
          all_goals skip
      ·
        refine t_exit ?_
        refine i_then_exit ?_
        refine i_then_exit ?_
        refine i_block_exit rfl ?_
        refine i_then ?_
        refine t_seq ?_
        refine t_region ?_
        refine asB rfl ?_
        refine r_nil ?_
        refine i_then ?_
        refine t_ret ?_
        refine i_rp1 rfl rfl ?_
        all_goals skip
        exact ret_eq rfl rfl (congrArg Ty.bool (by rw [eq_comm, decide_eq_true_eq]; have := k.2; rwa [List.take_of_length_le (by omega), List.take_of_length_le (by omega)] at this))
set_option maxRecDepth 100000 in
theorem c_TurnRounds (b : Barn) (hb : b.lots.length * 24 ≤ 140737488355328) (g : Int) (rs : List (List Tur)) : Ctr Tryz.prog 3 [barnT b, Ty.int .i64 g, Ty.sl RowT rs] (Ty.bool true) := by
  refine fn_intro Tryz.func3 rfl (by decide) Tryz.ntmps3 (by exact Nat.le_of_ble_eq_true rfl) fun w0 M0 => ?_
  refine t_fact (s := 2) rfl rfl sl_len fun hln => ?_
  refine t_seq ?_
  refine t_region ?_
  refine r_box_agg rfl ?_
  refine asB rfl ?_
  refine r_nil ?_
  refine i_then ?_
  refine t_seq ?_
  refine t_seq ?_
  refine t_region ?_
  refine r_load_ppN rfl rfl rfl (by exact Nat.le_of_ble_eq_true rfl) ?_
  refine r_call (c_wide b hb) rfl rfl rfl rfl rfl ?_
  refine mvB rfl ?_
  apply r_guard (s := 26) rfl rfl rfl
  · intro hg; apply opT_of; (refine mvS rfl ?_); refine r_nil ?_; exact rfl
  · exact rfl
  · exact rfl
  apply r_guard (s := 26) rfl rfl rfl
  · intro hg; apply opT_strip (s := 27) rfl (by (rw [hg]; rfl)); apply opT_of; (refine r_len rfl rfl rfl ?_); refine r_nil ?_; exact rfl
  · exact rfl
  · exact rfl
  apply r_guard (s := 26) rfl rfl rfl
  · intro hg; apply opT_strip (s := 28) rfl (by (rw [hg]; rfl)); apply opT_of; (refine r_bin rfl rfl rfl ?_); refine r_nil ?_; exact rfl
  · exact rfl
  · exact rfl
  refine r_or rfl rfl ?_
  refine r_nil ?_
  refine i_then ?_
  refine t_cond rfl (fun hc1 => ?_) (fun hc1 => ?_)
  ·
    refine t_seq ?_
    refine t_region ?_
    refine r_call (c_awake) rfl rfl rfl rfl rfl ?_
    refine asB rfl ?_
    refine r_nil ?_
    refine i_then ?_
    refine t_ret ?_
    refine i_then_ret ?_
    refine i_rp1 rfl rfl ?_
    all_goals exact ret_refl rfl rfl
    all_goals trace_state
  ·
    refine t_skip ?_
    refine i_then ?_
    refine t_seq ?_
    refine t_seq ?_
    rw [Bool.or_eq_false_iff, decide_eq_false_iff_not] at hc1
    obtain ⟨hs, hmany⟩ := nowide hc1.1
    have hn20 := hc1.2
    refine t_region ?_
    refine mvS rfl ?_
    refine r_len rfl rfl rfl ?_
    refine mvI rfl ?_
    refine r_nil ?_
    refine i_then ?_
    refine t_block ?_
    refine t_loop (fun (m : {m : Nat // ∀ l ∈ rs.take m, decide ((l.length : Int) > 10) = false}) => live [(1, Ty.int .i64 g), (2, Ty.sl RowT rs), (3, Ty.pp (barnTys b)), (32, Ty.sl RowT rs), (33, Ty.int .i64 rs.length), (34, Ty.int .i64 (m.1 : Nat))] []) (fun m => rs.length - m.1) (⟨0, by simp⟩) ?_ fun m => ?_
    · (refine Ent.mk' ?_ ?_ <;> (repeat' (first | exact allSub_zero | exact allTags_nil | refine allSub_succ' ?_ (Ty.sub_any _) | refine allSub_succ' ?_ (Ty.sub_refl _))))
    ·
      refine t_seq ?_
      refine t_region ?_
      refine r_bin rfl rfl rfl ?_
      refine r_nil ?_
      refine i_then ?_
      refine t_seq ?_
      refine t_cond_dec rfl (fun hc2 => ?_) (fun hc2 => ?_)
      ·
        refine t_skip ?_
        refine i_then ?_
        refine t_seq ?_
        refine t_block ?_
        refine t_seq ?_
        refine t_region ?_
        refine r_index_slN rfl rfl rfl rfl rfl rfl (by omega) ?_
        refine r_load_pp rfl rfl rfl rfl ?_
        refine asS rfl ?_
        refine r_nil ?_
        refine i_then ?_
        refine t_seq ?_
        refine t_region ?_
        refine mvS rfl ?_
        refine r_len rfl rfl rfl ?_
        refine r_bin rfl rfl rfl ?_
        refine r_nil ?_
        refine i_then ?_
        refine t_cond_dec rfl (fun hc3 => ?_) (fun hc3 => ?_)
        ·
          refine t_seq ?_
          refine t_region ?_
          refine r_call (c_awake) rfl rfl rfl rfl rfl ?_
          refine asB rfl ?_
          refine r_nil ?_
          refine i_then ?_
          refine t_ret ?_
          refine i_block_ret ?_
          refine i_then_ret ?_
          refine i_then_ret ?_
          refine i_block_ret ?_
          refine i_then_ret ?_
          refine i_rp1 rfl rfl ?_
          all_goals exact ret_refl rfl rfl
          all_goals trace_state
        ·
          refine t_skip ?_
          refine i_block ?_
          refine i_then ?_
          refine t_region ?_
          refine r_add rfl rfl (by omega) (by omega) ?_
          refine mvI rfl ?_
          refine r_nil ?_
          refine i_round (⟨m.1 + 1, ext_false m.2 (by omega) (decide_eq_false hc3)⟩) ?_ (by show rs.length - (m.1 + 1) < rs.length - m.1; omega)
          (refine Ent.mk' ?_ ?_ <;> (repeat' (first | exact allSub_zero | exact allTags_nil | refine allSub_succ' ?_ (Ty.sub_any _) | refine allSub_succ' ?_ (Ty.sub_refl _))))
          all_goals skip
      ·
        refine t_exit ?_
        refine i_then_exit ?_
        refine i_then_exit ?_
        refine i_block_exit rfl ?_
        refine i_then ?_
        refine t_seq ?_
        have hr10 : ∀ l ∈ rs, l.length ≤ 10 := fun l hl => by have h := m.2 l (by rw [List.take_of_length_le (by omega)]; exact hl); rw [decide_eq_false_iff_not] at h; omega
        have hrL : ∀ l ∈ rs, l.length ≤ 400000000 := fun l hl => by have := hr10 l hl; omega
        refine t_draw mixed rfl ?_
        refine r_load_ppN rfl rfl rfl (by exact Nat.le_of_ble_eq_true rfl) ?_
        refine r_call (c_Own b hs) rfl rfl rfl rfl rfl ?_
        refine r_load_ppN rfl rfl rfl (by exact Nat.le_of_ble_eq_true rfl) ?_
        refine r_call (c_theirs b hs) rfl rfl rfl rfl rfl ?_
        refine mvS rfl ?_
        refine r_call (c_DupRowsT rs (by omega) (fun x hx => by have := hr10 x hx; omega)) rfl rfl rfl rfl rfl ?_
        refine r_alloc rfl (by exact List.cons_ne_nil _ _) rfl ?_
        refine r_alloc rfl (by exact List.cons_ne_nil _ _) rfl ?_
        refine r_storeN rfl rfl (by decide) rfl rfl rfl rfl rfl rfl ?_
        refine r_storeN rfl rfl (by decide) rfl rfl rfl rfl rfl rfl ?_
        refine asS rfl ?_
        refine r_nil ?_
        refine ⟨by kernel_rfl, ?_⟩
        refine i_then ?_
        refine t_seq ?_
        refine t_region ?_
        refine r_load_ptrN rfl rfl (by decide) rfl rfl (by exact Nat.le_of_ble_eq_true rfl) ?_
        refine r_call (c_rCheck b hs) rfl rfl rfl rfl rfl ?_
        refine asI rfl ?_
        refine r_nil ?_
        refine i_then ?_
        refine t_join (J := live [(1, Ty.int .i64 g), (2, Ty.sl RowT rs), (3, Ty.pp (barnTys b)), (9, Ty.ptr 10 0), (10, Ty.ptr 11 0), (11, Ty.sl RowT rs), (12, Ty.int .i64 (askE b g))] [(10, Cont.cells 25 (barnTys b)), (11, Cont.cells 33 (barnTys b))]) ?_ ?_
        ·
          refine t_seq ?_
          refine t_as (s := 12) rfl (Ty.sub_int (check_eq b)) ?_
          refine t_region ?_
          refine mvI rfl ?_
          refine r_bin rfl rfl rfl ?_
          refine mvB rfl ?_
          apply r_guard (s := 53) rfl rfl rfl
          · intro hg; apply opT_of; (refine mvI rfl ?_); refine r_nil ?_; exact rfl
          · exact rfl
          · exact rfl
          apply r_guard (s := 53) rfl rfl rfl
          · intro hg; apply opT_strip (s := 54) rfl (by (rw [hg]; rfl)); apply opT_of; (refine r_bin rfl rfl rfl ?_); refine r_nil ?_; exact rfl
          · exact rfl
          · exact rfl
          apply r_guard (s := 53) rfl rfl rfl
          · intro hg; apply opT_strip (s := 55) rfl (by (rw [hg]; rfl)); apply opT_of; (refine mvB rfl ?_); refine r_nil ?_; exact rfl
          · exact rfl
          · exact rfl
          apply r_guardG (s := 56) rfl rfl rfl
          · intro hg1 hg2; apply opT_of; (refine mvI rfl ?_); refine r_nil ?_; exact rfl
          · exact rfl
          · exact rfl
          apply r_guardG (s := 56) rfl rfl rfl
          · intro hg1 hg2; apply opT_strip (s := 57) rfl (by (rw [hg1, hg2]; rfl)); apply opT_of; (refine r_bin rfl rfl rfl ?_); refine r_nil ?_; exact rfl
          · exact rfl
          · exact rfl
          apply r_guard (s := 53) rfl rfl rfl
          · intro hg; apply opT_strip (s := 56) rfl (by (rw [hg]; rfl)); apply opT_stripG (s := 58) rfl (by (rw [hg]; rfl)); apply opT_of; (refine r_or rfl rfl ?_); refine r_nil ?_; exact rfl
          · exact rfl
          · exact rfl
          refine r_and rfl rfl ?_
          refine r_nil ?_
          refine i_then ?_
          refine t_cond rfl (fun hc4 => ?_) (fun hc4 => ?_)
          ·
            refine t_region ?_
            refine asI rfl ?_
            refine r_nil ?_
            refine i_join ?_
            (refine Ent.mk' ?_ ?_ <;> (repeat' (first | exact allSub_zero | exact allTags_nil | refine allSub_succ' ?_ (Ty.sub_any _) | refine allSub_succ' ?_ (Ty.sub_refl _) | refine allTags_cons rfl (Cont.sub_refl _) ?_ | refine allSub_succ' ?_ ?_)))
            all_goals exact Ty.sub_int (rn_3 hc4)
          ·
            refine t_skip ?_
            refine i_join ?_
            (refine Ent.mk' ?_ ?_ <;> (repeat' (first | exact allSub_zero | exact allTags_nil | refine allSub_succ' ?_ (Ty.sub_any _) | refine allSub_succ' ?_ (Ty.sub_refl _) | refine allTags_cons rfl (Cont.sub_refl _) ?_ | refine allSub_succ' ?_ ?_)))
            all_goals exact Ty.sub_int (rn_ok hc4)
        ·
          refine t_seq ?_
          refine t_region ?_
          refine mvI rfl ?_
          refine asI rfl ?_
          refine asI rfl ?_
          refine asB rfl ?_
          refine r_nil ?_
          refine i_then ?_
          refine t_join (J := live [(1, Ty.int .i64 g), (2, Ty.sl RowT rs), (3, Ty.pp (barnTys b)), (9, Ty.ptr 10 0), (10, Ty.ptr 11 0), (11, Ty.sl RowT rs), (12, Ty.int .i64 (roundsE b g)), (13, Ty.int .i64 (worksV b g rs).2), (14, Ty.int .i64 (roundsV b g).length), (15, Ty.bool (worksV b g rs).1)] [(10, Cont.cells 25 (barnTys b)), (11, Cont.cells 33 (barnTys b))]) ?_ ?_
          ·
            refine t_seq ?_
            refine t_region ?_
            refine mvI rfl ?_
            refine r_bin rfl rfl rfl ?_
            refine r_nil ?_
            refine i_then ?_
            refine t_cond_dec rfl (fun hc5 => ?_) (fun hc5 => ?_)
            ·
              refine t_seq ?_
              refine t_seq ?_
              obtain ⟨h0, hg⟩ := ask_zero hc5
              have hr := check_right h0
              refine t_region ?_
              refine r_load_ptrN rfl rfl (by decide) rfl rfl (by exact Nat.le_of_ble_eq_true rfl) ?_
              refine mvI rfl ?_
              refine r_call (c_rLeast b hr g hg) rfl rfl rfl rfl rfl ?_
              refine asI rfl ?_
              refine r_nil ?_
              refine i_then ?_
              refine t_seq ?_
              refine t_region ?_
              refine mvI rfl ?_
              refine r_bin rfl rfl rfl ?_
              refine r_nil ?_
              refine i_then ?_
              refine t_cond_dec rfl (fun hc6 => ?_) (fun hc6 => ?_)
              ·
                refine t_region ?_
                refine asI rfl ?_
                refine asI rfl ?_
                refine r_nil ?_
                refine i_then ?_
                refine t_draw mixed rfl ?_
                refine r_load_ptrN rfl rfl (by decide) rfl rfl (by exact Nat.le_of_ble_eq_true rfl) ?_
                refine mvI rfl ?_
                refine mvS rfl ?_
                refine r_call (c_each rs (by omega) hrL) rfl rfl rfl rfl rfl ?_
                refine r_call (c_rWorks b hr g hc5 rs hrL) rfl rfl rfl rfl rfl ?_
                refine mvT rfl ?_
                refine r_extract rfl rfl ?_
                refine r_extract rfl rfl ?_
                refine asB rfl ?_
                refine asI rfl ?_
                refine r_nil ?_
                refine ⟨by kernel_rfl, ?_⟩
                refine i_join ?_
                (refine Ent.mk' ?_ ?_ <;> (repeat' (first | exact allSub_zero | exact allTags_nil | refine allSub_succ' ?_ (Ty.sub_any _) | refine allSub_succ' ?_ (Ty.sub_refl _) | refine allTags_cons rfl (Cont.sub_refl _) ?_ | refine allSub_succ' ?_ ?_)))
                all_goals first | exact Ty.sub_int (rn_none hc5 hc6).1 | exact Ty.sub_int (rn_none hc5 hc6).2
              ·
                refine t_skip ?_
                refine i_then ?_
                refine t_draw mixed rfl ?_
                refine r_load_ptrN rfl rfl (by decide) rfl rfl (by exact Nat.le_of_ble_eq_true rfl) ?_
                refine mvI rfl ?_
                refine mvS rfl ?_
                refine r_call (c_each rs (by omega) hrL) rfl rfl rfl rfl rfl ?_
                refine r_call (c_rWorks b hr g hc5 rs hrL) rfl rfl rfl rfl rfl ?_
                refine mvT rfl ?_
                refine r_extract rfl rfl ?_
                refine r_extract rfl rfl ?_
                refine asB rfl ?_
                refine asI rfl ?_
                refine r_nil ?_
                refine ⟨by kernel_rfl, ?_⟩
                refine i_join ?_
                (refine Ent.mk' ?_ ?_ <;> (repeat' (first | exact allSub_zero | exact allTags_nil | refine allSub_succ' ?_ (Ty.sub_any _) | refine allSub_succ' ?_ (Ty.sub_refl _) | refine allTags_cons rfl (Cont.sub_refl _) ?_ | refine allSub_succ' ?_ ?_)))
                all_goals first | exact Ty.sub_int (rn_some hc5 hc6).1 | exact Ty.sub_int (rn_some hc5 hc6).2
            ·
              refine t_skip ?_
              refine i_join ?_
              (refine Ent.mk' ?_ ?_ <;> (repeat' (first | exact allSub_zero | exact allTags_nil | refine allSub_succ' ?_ (Ty.sub_any _) | refine allSub_succ' ?_ (Ty.sub_refl _) | refine allTags_cons rfl (Cont.sub_refl _) ?_ | refine allSub_succ' ?_ ?_)))
              all_goals first | exact Ty.sub_int (rn_bad (rs := rs) hc5).1 | exact Ty.sub_int (rn_bad (rs := rs) hc5).2.1 | exact Ty.sub_int (rn_bad (rs := rs) hc5).2.2.1 | exact Ty.sub_bool (rn_bad (rs := rs) hc5).2.2.2
          ·
            refine t_seq ?_
            refine t_region ?_
            refine r_load_ptrN rfl rfl (by decide) rfl rfl (by exact Nat.le_of_ble_eq_true rfl) ?_
            refine mvI rfl ?_
            refine r_call (c_Rounds b hs g) rfl rfl rfl rfl rfl ?_
            refine mvT rfl ?_
            refine r_extract rfl rfl ?_
            refine r_extract rfl rfl ?_
            refine asS rfl ?_
            refine asI rfl ?_
            refine r_nil ?_
            refine i_then ?_
            refine t_seq ?_
            refine t_region ?_
            refine r_load_ptrN rfl rfl (by decide) rfl rfl (by exact Nat.le_of_ble_eq_true rfl) ?_
            refine mvI rfl ?_
            refine r_call (c_Least b hs g) rfl rfl rfl rfl rfl ?_
            refine mvT rfl ?_
            refine r_extract rfl rfl ?_
            refine r_extract rfl rfl ?_
            refine asI rfl ?_
            refine asI rfl ?_
            refine r_nil ?_
            refine i_then ?_
            refine t_seq ?_
            refine t_region ?_
            refine r_load_ptrN rfl rfl (by decide) rfl rfl (by exact Nat.le_of_ble_eq_true rfl) ?_
            refine mvI rfl ?_
            refine mvS rfl ?_
            refine r_call (c_Works b hs g rs hrL) rfl rfl rfl rfl rfl ?_
            refine mvT rfl ?_
            refine r_extract rfl rfl ?_
            refine r_extract rfl rfl ?_
            refine asB rfl ?_
            refine asI rfl ?_
            refine r_nil ?_
            refine i_then ?_
            refine t_seq ?_
            refine t_seq ?_
            refine t_region ?_
            refine mvI rfl ?_
            refine mvI rfl ?_
            refine r_bin rfl rfl rfl ?_
            refine mvB rfl ?_
            apply r_guard (s := 99) rfl rfl rfl
            · intro hg; apply opT_of; (refine mvI rfl ?_); refine r_nil ?_; exact rfl
            · exact rfl
            · exact rfl
            apply r_guard (s := 99) rfl rfl rfl
            · intro hg; apply opT_of; (refine mvI rfl ?_); refine r_nil ?_; exact rfl
            · exact rfl
            · exact rfl
            apply r_guard (s := 99) rfl rfl rfl
            · intro hg; apply opT_strip (s := 100) rfl (by (rw [hg]; rfl)); apply opT_strip (s := 101) rfl (by (rw [hg]; rfl)); apply opT_of; (refine r_bin rfl rfl rfl ?_); refine r_nil ?_; exact rfl
            · exact rfl
            · exact rfl
            refine r_or rfl rfl ?_
            refine mvB rfl ?_
            apply r_guard (s := 104) rfl rfl rfl
            · intro hg; apply opT_of; (refine mvI rfl ?_); refine r_nil ?_; exact rfl
            · exact rfl
            · exact rfl
            apply r_guard (s := 104) rfl rfl rfl
            · intro hg; apply opT_of; (refine mvI rfl ?_); refine r_nil ?_; exact rfl
            · exact rfl
            · exact rfl
            apply r_guard (s := 104) rfl rfl rfl
            · intro hg; apply opT_strip (s := 105) rfl (by (rw [hg]; rfl)); apply opT_strip (s := 106) rfl (by (rw [hg]; rfl)); apply opT_of; (refine r_bin rfl rfl rfl ?_); refine r_nil ?_; exact rfl
            · exact rfl
            · exact rfl
            refine r_or rfl rfl ?_
            refine mvB rfl ?_
            apply r_guard (s := 109) rfl rfl rfl
            · intro hg; apply opT_of; (refine mvS rfl ?_); refine r_nil ?_; exact rfl
            · exact rfl
            · exact rfl
            apply r_guard (s := 109) rfl rfl rfl
            · intro hg; apply opT_strip (s := 110) rfl (by (rw [hg]; rfl)); apply opT_of; (refine r_len rfl rfl rfl ?_); refine r_nil ?_; exact rfl
            · exact rfl
            · exact rfl
            apply r_guard (s := 109) rfl rfl rfl
            · intro hg; apply opT_of; (refine mvI rfl ?_); refine r_nil ?_; exact rfl
            · exact rfl
            · exact rfl
            apply r_guard (s := 109) rfl rfl rfl
            · intro hg; apply opT_strip (s := 111) rfl (by (rw [hg]; rfl)); apply opT_strip (s := 112) rfl (by (rw [hg]; rfl)); apply opT_of; (refine r_bin rfl rfl rfl ?_); refine r_nil ?_; exact rfl
            · exact rfl
            · exact rfl
            refine r_or rfl rfl ?_
            refine mvB rfl ?_
            apply r_guard (s := 115) rfl rfl rfl
            · intro hg; apply opT_of; (refine mvI rfl ?_); refine r_nil ?_; exact rfl
            · exact rfl
            · exact rfl
            apply r_guard (s := 115) rfl rfl rfl
            · intro hg; apply opT_of; (refine mvI rfl ?_); refine r_nil ?_; exact rfl
            · exact rfl
            · exact rfl
            apply r_guard (s := 115) rfl rfl rfl
            · intro hg; apply opT_strip (s := 116) rfl (by (rw [hg]; rfl)); apply opT_strip (s := 117) rfl (by (rw [hg]; rfl)); apply opT_of; (refine r_bin rfl rfl rfl ?_); refine r_nil ?_; exact rfl
            · exact rfl
            · exact rfl
            refine r_or rfl rfl ?_
            refine mvB rfl ?_
            apply r_guard (s := 120) rfl rfl rfl
            · intro hg; apply opT_of; (refine mvB rfl ?_); refine r_nil ?_; exact rfl
            · exact rfl
            · exact rfl
            apply r_guard (s := 120) rfl rfl rfl
            · intro hg; apply opT_of; (refine mvB rfl ?_); refine r_nil ?_; exact rfl
            · exact rfl
            · exact rfl
            apply r_guard (s := 120) rfl rfl rfl
            · intro hg; apply opT_strip (s := 121) rfl (by (rw [hg]; rfl)); apply opT_strip (s := 122) rfl (by (rw [hg]; rfl)); apply opT_of; (refine r_neq_B und4 rfl rfl ?_); refine r_nil ?_; exact rfl
            · exact rfl
            · exact rfl
            refine r_or rfl rfl ?_
            refine r_nil ?_
            refine i_then ?_
            refine t_cond_ff rfl (by simp) ?_
            refine t_skip ?_
            refine i_then ?_
            refine t_seq ?_
            refine t_seq ?_
            refine t_region ?_
            refine mvI rfl ?_
            refine r_bin rfl rfl rfl ?_
            refine r_nil ?_
            refine i_then ?_
            refine t_cond_dec rfl (fun hc8 => ?_) (fun hc8 => ?_)
            ·
              refine t_seq ?_
              have ha := rn_ask hc8
              obtain ⟨h0, hg⟩ := ask_zero ha
              have hr := check_right h0
              obtain ⟨hv1, hv2, hv3⟩ := rn_short hmany hc8
              have hvL : ∀ l ∈ roundsV b g, l.length ≤ 400000000 := fun l hl => by have := hv2 l hl; omega
              refine t_draw mixed rfl ?_
              refine r_load_ptrN rfl rfl (by decide) rfl rfl (by exact Nat.le_of_ble_eq_true rfl) ?_
              refine mvI rfl ?_
              refine mvS rfl ?_
              refine r_call (c_each (roundsV b g) (by omega) hvL) rfl rfl rfl rfl rfl ?_
              refine r_call (c_rWorks b hr g ha (roundsV b g) hvL) rfl rfl rfl rfl rfl ?_
              refine mvT rfl ?_
              refine r_extract rfl rfl ?_
              refine r_extract rfl rfl ?_
              refine asB rfl ?_
              refine asI rfl ?_
              refine r_nil ?_
              refine ⟨by kernel_rfl, ?_⟩
              refine i_then ?_
              refine t_seq ?_
              refine t_as (s := 22) rfl (Ty.sub_bool (congrArg Prod.fst hv3)) ?_
              refine t_as (s := 23) rfl (Ty.sub_int (congrArg Prod.snd hv3)) ?_
              refine t_region ?_
              refine mvI rfl ?_
              refine r_bin rfl rfl rfl ?_
              refine mvB rfl ?_
              apply r_guard (s := 137) rfl rfl rfl
              · intro hg; apply opT_of; (refine mvB rfl ?_); refine r_nil ?_; exact rfl
              · exact rfl
              · exact rfl
              apply r_guard (s := 137) rfl rfl rfl
              · intro hg; apply opT_strip (s := 138) rfl (by (rw [hg]; rfl)); apply opT_of; (refine r_not rfl ?_); refine r_nil ?_; exact rfl
              · exact rfl
              · exact rfl
              refine r_or rfl rfl ?_
              refine r_nil ?_
              refine i_then ?_
              refine t_cond_ff rfl (rfl) ?_
              refine t_skip ?_
              refine i_then ?_
              refine t_seq ?_
              refine t_region ?_
              refine r_load_ptrN rfl rfl (by decide) rfl rfl (by exact Nat.le_of_ble_eq_true rfl) ?_
              refine r_load_ppN rfl rfl rfl (by exact Nat.le_of_ble_eq_true rfl) ?_
              refine r_call (c_same b b) rfl rfl rfl rfl rfl ?_
              refine mvB rfl ?_
              apply r_guard (s := 144) rfl rfl rfl
              · intro hg; apply opT_of; (refine mvS rfl ?_); refine r_nil ?_; exact rfl
              · exact rfl
              · exact rfl
              apply r_guard (s := 144) rfl rfl rfl
              · intro hg; apply opT_of; (refine mvS rfl ?_); refine r_nil ?_; exact rfl
              · exact rfl
              · exact rfl
              apply r_guard (s := 144) rfl rfl rfl
              · intro hg; apply opT_strip (s := 145) rfl (by (rw [hg]; rfl)); apply opT_strip (s := 146) rfl (by (rw [hg]; rfl)); apply opT_of; (refine r_call (c_EqRowsT rs rs) rfl rfl rfl rfl rfl ?_); refine r_nil ?_; exact rfl
              · exact rfl
              · exact rfl
              refine r_and rfl rfl ?_
              refine mvB rfl ?_
              apply r_guard (s := 149) rfl rfl rfl
              · intro hg; apply opT_of; (refine r_call (c_awake) rfl rfl rfl rfl rfl ?_); refine r_nil ?_; exact rfl
              · exact rfl
              · exact rfl
              refine r_and rfl rfl ?_
              refine asB rfl ?_
              refine r_nil ?_
              refine i_then ?_
              refine t_ret ?_
              refine i_rp1 rfl rfl ?_
              all_goals skip
              all_goals exact ret_eq rfl rfl (congrArg Ty.bool (by rw [sameV_self, decide_eq_true (rfl : rs = rs)]; rfl))
            ·
              refine t_skip ?_
              refine i_then ?_
              refine t_seq ?_
              refine t_region ?_
              refine r_load_ptrN rfl rfl (by decide) rfl rfl (by exact Nat.le_of_ble_eq_true rfl) ?_
              refine r_load_ppN rfl rfl rfl (by exact Nat.le_of_ble_eq_true rfl) ?_
              refine r_call (c_same b b) rfl rfl rfl rfl rfl ?_
              refine mvB rfl ?_
              apply r_guard (s := 144) rfl rfl rfl
              · intro hg; apply opT_of; (refine mvS rfl ?_); refine r_nil ?_; exact rfl
              · exact rfl
              · exact rfl
              apply r_guard (s := 144) rfl rfl rfl
              · intro hg; apply opT_of; (refine mvS rfl ?_); refine r_nil ?_; exact rfl
              · exact rfl
              · exact rfl
              apply r_guard (s := 144) rfl rfl rfl
              · intro hg; apply opT_strip (s := 145) rfl (by (rw [hg]; rfl)); apply opT_strip (s := 146) rfl (by (rw [hg]; rfl)); apply opT_of; (refine r_call (c_EqRowsT rs rs) rfl rfl rfl rfl rfl ?_); refine r_nil ?_; exact rfl
              · exact rfl
              · exact rfl
              refine r_and rfl rfl ?_
              refine mvB rfl ?_
              apply r_guard (s := 149) rfl rfl rfl
              · intro hg; apply opT_of; (refine r_call (c_awake) rfl rfl rfl rfl rfl ?_); refine r_nil ?_; exact rfl
              · exact rfl
              · exact rfl
              refine r_and rfl rfl ?_
              refine asB rfl ?_
              refine r_nil ?_
              refine i_then ?_
              refine t_ret ?_
              refine i_rp1 rfl rfl ?_
              all_goals skip
              all_goals exact ret_eq rfl rfl (congrArg Ty.bool (by rw [sameV_self, decide_eq_true (rfl : rs = rs)]; rfl))
end Go.Proofs.YtpnndljmhpepgaaGreat
