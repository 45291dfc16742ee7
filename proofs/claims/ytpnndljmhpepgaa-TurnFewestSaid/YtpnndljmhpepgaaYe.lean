/- Lemmas: the program and the reference walked, plain laws. -/
import Derived.Test.YtpnndljmhpepgaaYd
namespace Go.Proofs.Ytpnndljmhpepgaa
open Go Go.T
def apartP (b : Barn) (p : Pl) : Prop := ∀ i k, i < b.lots.length → k < b.lots.length → nth p.1 i = nth p.1 k → i = k
theorem goP_cons {b : Barn} {p q : Pl} {t : Tur} {l : List Tur} (h : goP b p (t :: l) = some q) : t ∈ turnsL b p ∧ goP b (moved p t) l = some q := by
  have h : (if t ∈ turnsL b p then goP b (moved p t) l else none) = some q := h
  by_cases hu : t ∈ turnsL b p
  · rw [if_pos hu] at h; exact ⟨hu, h⟩
  · rw [if_neg hu] at h; cases h
theorem goP_cons' {b : Barn} {p : Pl} {t : Tur} {l : List Tur} (h : t ∈ turnsL b p) : goP b p (t :: l) = goP b (moved p t) l := if_pos h
theorem first_nth {b : Barn} (h6 : b.lots.length ≤ 6) {i : Nat} (hi : i < b.lots.length) : nth (firstP b).1 i = (nth b.lots i).inn := by
  rw [← nth_take (n := b.lots.length) hi, first_inn h6]
  unfold innL
  rw [nth_lt (by rw [List.length_map]; exact hi), nth_lt hi, List.getElem_map]
theorem made_at {b : Barn} {q : Pl} (h : madeP b q = true) {i : Nat} (hi : i < b.lots.length) : (nth b.lots i).aim = -1 ∨ (nth b.lots i).aim = nth q.1 i := by
  unfold madeP at h
  have := List.all_eq_true.1 h i (List.mem_range.2 hi)
  simpa using this
theorem sum_nonneg' : ∀ (l : List Int), (∀ x ∈ l, 0 ≤ x) → 0 ≤ l.sum
  | [], _ => Int.le_refl _
  | x :: l, h => by
    rw [List.sum_cons]
    have h1 := h x List.mem_cons_self
    have h2 := sum_nonneg' l fun y hy => h y (List.mem_cons_of_mem _ hy)
    omega
theorem filtUp_nodup (p : Nat → Bool) (n : Nat) : (filtUp p n).Nodup := by
  unfold filtUp
  rw [List.nodup_iff_pairwise_ne, List.pairwise_map]
  have h : ((List.range n).filter p).Pairwise fun a c => a ≠ c := List.Pairwise.filter _ (List.nodup_iff_pairwise_ne.1 List.nodup_range)
  exact h.imp fun hne e => hne (by omega)
structure Cheap (b : Barn) (c : Tur → Int) (e : Int) (l : List Tur) (n : Int) : Prop where
  err : e = 0 ∨ e = 7
  yes : e = 0 → rightV b l = true ∧ costL c l = n ∧ ∀ x, rightV b x = true → n ≤ costL c x
  no : e = 7 → l = [] ∧ n = 0 ∧ ∀ x, rightV b x = false
theorem cheap {b : Barn} {c : Tur → Int} (hr : b.Right) (hc : CostOk b c) : Cheap b c (planE b c) (planR b c) (costR b c) := by
  have h0 := right_check hr
  have hp := plan_spec hr hc
  have h6 := hr.lots
  unfold planE planR costR
  rw [if_pos h0, if_pos h0, if_pos h0]
  cases hi : (searchM b c false).is with
  | true =>
    rw [if_pos rfl]
    refine ⟨.inl rfl, fun _ => ?_, fun e => by cases e⟩
    obtain ⟨q, h1, h2, h3, h4⟩ := hp.yes hi
    refine ⟨(right_iff h6).2 ⟨q, h1, h2⟩, h3, fun x hx => ?_⟩
    obtain ⟨q', g1, g2⟩ := (right_iff h6).1 hx
    exact h4 x q' g1 g2
  | false =>
    rw [if_neg (by decide)]
    refine ⟨.inr rfl, (fun e => by cases e), fun _ => ⟨if_neg (by rw [hi]; decide), if_neg (by rw [hi]; decide), fun x => ?_⟩⟩
    rw [Bool.eq_false_iff]; intro hx
    obtain ⟨q', g1, g2⟩ := (right_iff h6).1 hx
    have := hp.no hi x q' g1
    rw [g2] at this; cases this
theorem cheap_same {b : Barn} {c c' : Tur → Int} {e e' : Int} {l l' : List Tur} {n n' : Int} (h : Cheap b c e l n) (h' : Cheap b c' e' l' n') : e = e' := by
  rcases h.err with rfl | rfl
  · rcases h'.err with rfl | rfl
    · rfl
    · have := (h.yes rfl).1; rw [(h'.no rfl).2.2] at this; cases this
  · rcases h'.err with rfl | rfl
    · have := (h'.yes rfl).1; rw [(h.no rfl).2.2] at this; cases this
    · rfl
theorem cost_one (l : List Tur) : costL oneC l = l.length := by
  unfold costL oneC
  induction l with
  | nil => rfl
  | cons t l ih => rw [List.map_cons, List.sum_cons, ih, List.length_cons]; omega
theorem rightV_ok {b : Barn} {l : List Tur} (h : rightV b l = true) : (lawV b l).2 = true := by
  unfold rightV isUp at h
  rw [Bool.and_eq_true] at h; exact h.1
def leastUp (b : Barn) (l : List Int) (k : Nat) : Int := ((l.take k).map fun (i : Int) => (nth b.lots i.toNat).sacks).sum
theorem sack_bound {b : Barn} (hr : b.Right) {i : Int} (hi : 0 ≤ i ∧ i < b.lots.length) : 1 ≤ (nth b.lots i.toNat).sacks ∧ (nth b.lots i.toNat).sacks ≤ 300 := hr.sacks _ (nth_mem (by omega))
end Go.Proofs.Ytpnndljmhpepgaa

namespace Go.Proofs.Ytpnndljmhpepgaa
open Go Go.T
set_option maxHeartbeats 4000000
def walksE (b : Barn) (s : Sk) (most : Int) : Nat → Sk
  | 0 => s
  | k + 1 => walkE b (walksE b s most k) most
theorem sumUp_zero (b : Barn) (l : List Tur) : sumUp b l 0 = 0 := by unfold sumUp; rw [List.take_zero]; rfl
attribute [local irreducible] planR planE costR walkP walkE sumUp leastUp rightV mustL checkB
attribute [local irreducible] dInt dBool dSl dPp dPtr dAgg dTup dClo dAny dEx dStr dGd dCells dVec dVs dRow dOp nth Tri Into TOps Ctr bodyPost Exit.then Exit.inBlock Code.wp Code.wpIn dWhen dPa dPe dAo dArr dMp dPm dMap dCJ CtrG CtrI OpY keepPost iterPost bodyPostM roundQ
end Go.Proofs.Ytpnndljmhpepgaa

namespace Go.Proofs.Ytpnndljmhpepgaa
open Go Go.T
variable {b : Barn} {g : Int}
theorem goR_cons {p q : Pl} {l : List Tur} {rs : List (List Tur)} (h : goR b g p (l :: rs) = some q) : l ∈ allR b p g ∧ goR b g (movedAll p l) rs = some q := by
  have h : (if l ∈ allR b p g then goR b g (movedAll p l) rs else none) = some q := h
  by_cases hu : l ∈ allR b p g
  · rw [if_pos hu] at h; exact ⟨hu, h⟩
  · rw [if_neg hu] at h; cases h
theorem goR_cons' {p : Pl} {l : List Tur} {rs : List (List Tur)} (h : l ∈ allR b p g) : goR b g p (l :: rs) = goR b g (movedAll p l) rs := if_pos h
theorem goR_flat (h6 : b.lots.length ≤ 6) (hg : 0 ≤ g) : ∀ (rs : List (List Tur)) {p q : Pl}, goR b g p rs = some q → goP b p rs.flatten = some q
  | [], p, q, h => h
  | l :: rs, p, q, h => by
    obtain ⟨h1, h2⟩ := goR_cons h
    rw [List.flatten_cons, goP_append, round_go h6 l ((mem_allR hg).1 h1)]
    exact goR_flat h6 hg rs h2
theorem one_round {p : Pl} {t : Tur} (hg : 1 ≤ g) (h : t ∈ turnsL b p) : [t] ∈ allR b p g := by
  rw [mem_allR (by omega)]
  have := mem_turnsL.1 h
  refine ⟨by simpa using hg, fun u hu => ?_, List.pairwise_singleton _ _⟩
  rw [List.mem_singleton.1 hu]
  exact ⟨⟨this.1, this.2.1⟩, ⟨this.2.2.1, this.2.2.2.1⟩, this.2.2.2.2.1, this.2.2.2.2.2⟩
theorem goR_singles (hg : 1 ≤ g) : ∀ (l : List Tur) {p q : Pl}, goP b p l = some q → goR b g p (l.map fun t => [t]) = some q
  | [], p, q, h => h
  | t :: l, p, q, h => by
    obtain ⟨h1, h2⟩ := goP_cons h
    rw [List.map_cons, goR_cons' (one_round hg h1)]
    exact goR_singles hg l h2
theorem goR_more {g' : Int} (hg : 0 ≤ g) (hgg : g ≤ g') : ∀ (rs : List (List Tur)) {p q : Pl}, goR b g p rs = some q → goR b g' p rs = some q
  | [], p, q, h => h
  | l :: rs, p, q, h => by
    obtain ⟨h1, h2⟩ := goR_cons h
    have h3 := (mem_allR hg).1 h1
    rw [goR_cons' ((mem_allR (by omega)).2 ⟨by have := h3.len; omega, h3.ok, h3.apart⟩)]
    exact goR_more hg hgg rs h2
theorem goR_rows (hg : 0 ≤ g) : ∀ (rs : List (List Tur)) {p q : Pl}, goR b g p rs = some q → ∀ l ∈ rs, (l.length : Int) ≤ g
  | [], p, q, _, l, hl => by cases hl
  | r :: rs, p, q, h, l, hl => by
    obtain ⟨h1, h2⟩ := goR_cons h
    rcases List.mem_cons.1 hl with rfl | hl
    · exact ((mem_allR hg).1 h1).len
    · exact goR_rows hg rs h2 l hl
theorem flat_le (hg : 0 ≤ g) : ∀ (rs : List (List Tur)), (∀ l ∈ rs, (l.length : Int) ≤ g) → (rs.flatten.length : Int) ≤ rs.length * g
  | [], _ => by simp
  | l :: rs, h => by
    have h1 := h l List.mem_cons_self
    have h2 := flat_le hg rs fun r hr => h r (List.mem_cons_of_mem _ hr)
    rw [List.flatten_cons, List.length_append, List.length_cons]
    have e : (((rs.length + 1 : Nat) : Int)) * g = rs.length * g + g := by rw [Int.natCast_add, Int.add_mul]; simp
    rw [e]; omega
structure Rnds (b : Barn) (g e : Int) (rs : List (List Tur)) : Prop where
  err : e = 0 ∨ e = 7
  yes : e = 0 → ∃ q, goR b g (firstP b) rs = some q ∧ madeP b q = true ∧ ∀ rs' q', goR b g (firstP b) rs' = some q' → madeP b q' = true → rs.length ≤ rs'.length
  no : e = 7 → rs = [] ∧ ∀ rs' q, goR b g (firstP b) rs' = some q → madeP b q = false
section
variable {e e' n : Int} {l : List Tur} {rs rs' : List (List Tur)}
theorem Rnds.same (h : Rnds b g e' rs) (h6 : b.lots.length ≤ 6) (hg : 1 ≤ g) (hc : Cheap b oneC e l n) : e' = e := by
  rcases h.err with rfl | rfl
  · rcases hc.err with rfl | rfl
    · rfl
    · obtain ⟨q, h1, h2, _⟩ := h.yes rfl
      have := (hc.no rfl).2.2 rs.flatten
      rw [(right_iff h6).2 ⟨q, goR_flat h6 (by omega) rs h1, h2⟩] at this; cases this
  · rcases hc.err with rfl | rfl
    · obtain ⟨q, h1, h2⟩ := (right_iff h6).1 (hc.yes rfl).1
      have := (h.no rfl).2 _ q (goR_singles hg l h1)
      rw [h2] at this; cases this
    · rfl
theorem Rnds.right (h : Rnds b g 0 rs) (h6 : b.lots.length ≤ 6) (hg : 1 ≤ g) : rightV b rs.flatten = true := by
  obtain ⟨q, h1, h2, _⟩ := h.yes rfl
  exact (right_iff h6).2 ⟨q, goR_flat h6 (by omega) rs h1, h2⟩
theorem Rnds.few (h : Rnds b g 0 rs) (h6 : b.lots.length ≤ 6) (hg : 1 ≤ g) (hc : Cheap b oneC 0 l n) : n ≤ rs.length * g ∧ (rs.length : Int) ≤ n := by
  obtain ⟨q, h1, h2, h3⟩ := h.yes rfl
  obtain ⟨c1, c2, c3⟩ := hc.yes rfl
  rw [cost_one] at c2
  constructor
  · have h4 := c3 _ (h.right h6 hg)
    rw [cost_one] at h4
    have := flat_le (by omega) rs (goR_rows (by omega) rs h1)
    omega
  · obtain ⟨q', g1, g2⟩ := (right_iff h6).1 c1
    have := h3 _ q' (goR_singles hg l g1) g2
    rw [List.length_map] at this; omega
theorem Rnds.less (h : Rnds b g 0 rs) (h' : Rnds b (g + 1) 0 rs') (hg : 1 ≤ g) : rs'.length ≤ rs.length := by
  obtain ⟨q, h1, h2, _⟩ := h.yes rfl
  obtain ⟨_, _, _, h3⟩ := h'.yes rfl
  exact h3 _ q (goR_more (by omega) (by omega) rs h1) h2
end
def listsM (m : Nat) : Nat → List (List Int)
  | 0 => [[]]
  | n + 1 => (List.range m).flatMap fun (k : Nat) => (listsM m n).map fun l => (k : Int) :: l
theorem go_tail {b : Barn} : ∀ (l : List Tur) {p q : Pl}, goP b p l = some q → q.1.drop b.lots.length = p.1.drop b.lots.length
  | [], p, q, h => by injection h with h; rw [h]
  | t :: l, p, q, h => by
    obtain ⟨h1, h2⟩ := goP_cons h
    have h3 := mem_turnsL.1 h1
    rw [go_tail l h2]
    unfold moved
    exact List.drop_set_of_lt (by omega)
def ordB (l : List Tur) : Bool := (List.range (l.length - 1)).any fun i => decide ((nth l (i + 1)).lot ≤ (nth l i).lot)
def twI (b : Barn) (p : Pl) (l : List Tur) (i : Nat) : Bool := takenP b p (nth l i).aim || (l.take i).any fun u => decide (u.aim = (nth l i).aim)
def twB (b : Barn) (p : Pl) (l : List Tur) : Bool := (List.range l.length).any fun i => twI b p l i
def roundE (b : Barn) (p : Pl) (g : Int) (l : List Tur) : Int :=
  if (!l.all fun t => b.lot t.lot && b.bin t.aim) = true then 1 else if ordB l = true then 4 else if twB b p l = true then 5 else if (!l.all fun t => b.hold t.aim t.lot) = true then 9 else if (l.length : Int) > g then 2 else 0
def worksGo (b : Barn) (g : Int) : Pl → List (List Tur) → Bool × Int
  | p, [] => (madeP b p, 0)
  | p, l :: rs => if roundE b p g l = 0 then worksGo b g (movedAll p l) rs else (false, roundE b p g l)
def worksV (b : Barn) (g : Int) (rs : List (List Tur)) : Bool × Int := if askE b g = 0 then if (rs.length : Int) > 6000 then (false, 2) else worksGo b g (firstP b) rs else (false, askE b g)
structure WIx (b : Barn) (g : Int) (rs : List (List Tur)) (k : Nat) (p : Pl) : Prop where
  same : worksGo b g (firstP b) rs = worksGo b g p (rs.drop k)
  le : k ≤ rs.length
theorem WIx.stop {rs : List (List Tur)} {k : Nat} {p : Pl} (h : WIx b g rs k p) (hk : k < rs.length) (he : ¬ roundE b p g (nth rs k) = 0) : worksGo b g (firstP b) rs = (false, roundE b p g (nth rs k)) := by
  rw [h.same, drop_nth hk]; exact if_neg he
theorem WIx.next {rs : List (List Tur)} {k : Nat} {p : Pl} (h : WIx b g rs k p) (hk : k < rs.length) (he : roundE b p g (nth rs k) = 0) : WIx b g rs (k + 1) (movedAll p (nth rs k)) :=
  ⟨by rw [h.same, drop_nth hk]; exact if_pos he, hk⟩
theorem WIx.end {rs : List (List Tur)} {k : Nat} {p : Pl} (h : WIx b g rs k p) (hk : rs.length ≤ k) : worksGo b g (firstP b) rs = (madeP b p, 0) := by
  rw [h.same, List.drop_of_length_le hk]; rfl
end Go.Proofs.Ytpnndljmhpepgaa

namespace Go.Proofs.Ytpnndljmhpepgaa
open Go Go.T
def putP (b : Barn) (p : Pl) : Barn := ⟨b.sizes, (List.range b.lots.length).map fun i => ⟨(nth b.lots i).sacks, nth p.1 i, (nth b.lots i).aim⟩⟩
variable {b : Barn} {p q : Pl} {t : Tur}
theorem put_len (b : Barn) (p : Pl) : (putP b p).lots.length = b.lots.length := by simp [putP]
theorem put_nth {i : Nat} (hi : i < b.lots.length) : nth (putP b p).lots i = ⟨(nth b.lots i).sacks, nth p.1 i, (nth b.lots i).aim⟩ := by
  unfold putP
  show nth ((List.range b.lots.length).map _) i = _
  rw [nth_lt (by simpa using hi), List.getElem_map, List.getElem_range]
theorem put_first (h6 : b.lots.length ≤ 6) : putP b (firstP b) = b := by
  have e : (putP b (firstP b)).lots = b.lots := ext_nth (put_len _ _) fun i hi => by
    rw [put_len] at hi
    rw [put_nth hi, first_nth h6 hi]
  cases b with
  | mk s l => exact congrArg (Barn.mk s) e
theorem turned_put (h6 : b.lots.length ≤ 6) (ht : t ∈ turnsL b p) : turnedB (putP b p) t = (putP b (moved p t), 0) := by
  obtain ⟨h1, h2, h3, h4, h5, h7⟩ := mem_turnsL.1 ht
  rw [turned_0]
  · congr 1
    have e : lotsTo (putP b p) t = (putP b (moved p t)).lots := ext_nth (by unfold lotsTo; rw [List.length_set, put_len, put_len]) fun i hi => by
      unfold lotsTo at hi ⊢
      rw [List.length_set, put_len] at hi
      rw [nthA_set (by rw [put_len]; exact hi), put_nth hi, put_nth hi, moved_nth (by omega)]
      by_cases e : t.lot.toNat = i
      · rw [if_pos e, if_pos e, put_nth (by omega), e]
      · rw [if_neg e, if_neg e]
    rw [e]; rfl
  · simp only [Bool.or_eq_false_iff, Bool.not_eq_false', Barn.lot, Barn.bin, inB_true, put_len]
    refine ⟨by omega, ?_⟩
    show 0 ≤ t.aim ∧ t.aim ≤ (b.sizes.length : Int) - 1
    omega
  · unfold Barn.free
    rw [List.all_eq_true]
    intro l hl
    obtain ⟨i, hi, rfl⟩ := mem_nth hl
    rw [put_len] at hi
    rw [put_nth hi, Bool.not_eq_true', decide_eq_false_iff_not]
    intro e
    have := (taken_iff h6).2 ⟨i, hi, e⟩
    rw [h5] at this; cases this
  · unfold Barn.hold at h7 ⊢
    rw [put_nth (by omega)]; exact h7
def backL : Pl → List Tur → List Tur
  | _, [] => []
  | p, t :: l => ⟨t.lot, nth p.1 t.lot.toNat⟩ :: backL (moved p t) l
theorem done_put (h6 : b.lots.length ≤ 6) : ∀ (l : List Tur) {p q : Pl} (acc : List Tur), goP b p l = some q → doneGo (putP b p) acc l = (putP b q, (acc ++ backL p l).reverse, 0)
  | [], p, q, acc, h => by injection h with h; subst h; show (putP b p, acc.reverse, 0) = _; rw [show backL p [] = [] from rfl, List.append_nil]
  | t :: l, p, q, acc, h => by
    obtain ⟨h1, h2⟩ := goP_cons h
    have e := turned_put h6 h1
    have h3 := mem_turnsL.1 h1
    show (if (turnedB (putP b p) t).2 = 0 then doneGo (turnedB (putP b p) t).1 (acc ++ [⟨t.lot, (nth (putP b p).lots t.lot.toNat).inn⟩]) l else _) = _
    rw [e, if_pos rfl, put_nth (by omega), done_put h6 l _ h2, List.append_assoc]; rfl
structure VP (b : Barn) (p : Pl) : Prop where
  apart : apartP b p
  named : ∀ i, i < b.lots.length → 0 ≤ nth p.1 i ∧ nth p.1 i < b.sizes.length
  holds : ∀ i, i < b.lots.length → (nth b.lots i).sacks ≤ nth b.sizes (nth p.1 i).toNat
theorem places_of {c : Barn} (hr : c.Right) {L : List Pl} (hn : L.Nodup) (h : ∀ r, r ∈ L ↔ ∃ l, goP c (firstP c) l = some r) : placesV c = (L.length : Nat) := by
  unfold placesV
  rw [if_pos (right_check hr)]
  obtain ⟨hs, _⟩ := search_spec hr (one_ok c) true
  have hw := (hs.whole rfl).2
  have e1 := nodup_sub hs.keys (L := L) fun r hr' => by
    obtain ⟨w, hw'⟩ := mem_mget hr'
    obtain ⟨l, hl, _⟩ := hs.walk r w hw'
    exact (h r).2 ⟨l, hl⟩
  have e2 := nodup_sub hn (L := (searchM c oneC true).ways.map Prod.fst) fun r hr' => by
    obtain ⟨l, hl⟩ := (h r).1 hr'
    obtain ⟨w, hw'⟩ := hw l r hl
    exact mget_some_mem hw'
  rw [List.length_map] at e1 e2
  congr 1
  omega
theorem reached (hr : b.Right) : ∃ L : List Pl, L.Nodup ∧ (∀ r, r ∈ L ↔ ∃ l, goP b (firstP b) l = some r) ∧ placesV b = (L.length : Nat) := by
  obtain ⟨hs, _⟩ := search_spec hr (one_ok b) true
  have hw := (hs.whole rfl).2
  have h : ∀ r, r ∈ (searchM b oneC true).ways.map Prod.fst ↔ ∃ l, goP b (firstP b) l = some r := fun r => by
    constructor
    · intro hr'
      obtain ⟨w, hw'⟩ := mem_mget hr'
      obtain ⟨l, hl, _⟩ := hs.walk r w hw'
      exact ⟨l, hl⟩
    · rintro ⟨l, hl⟩
      obtain ⟨w, hw'⟩ := hw l r hl
      exact mget_some_mem hw'
  exact ⟨_, hs.keys, h, places_of hr hs.keys h⟩
structure Backs (b : Barn) (plan : List Tur) (a : Barn) (back : List Tur) (p : List Int) : Prop where
  done : doneV b plan = (a, back, 0)
  home : doneV a back = (b, plan, 0)
  right : a.Right
  cost : costL (sackC a) back = costL (sackC b) plan
  ok : (lawV a back).2 = true
  at_ : lawV b plan = (p, true)
  sizes : a.sizes = b.sizes
  len : a.lots.length = b.lots.length
  plen : p.length = b.lots.length
  lot : ∀ i, i < b.lots.length → nth a.lots i = ⟨(nth b.lots i).sacks, nth p i, (nth b.lots i).aim⟩
  places : placesV a = placesV b
  one : 1 ≤ placesV b
  makes : makesB b plan = rightV b plan
  few : ∀ e l n e' l' n', Cheap b oneC e l n → Cheap a oneC e' l' n' → e = e' ∧ (e = 0 → n ≤ n' + plan.length ∧ n' ≤ n + plan.length)
end Go.Proofs.Ytpnndljmhpepgaa

namespace Go.Proofs.Ytpnndljmhpepgaa
open Go Go.T
def widerB (b : Barn) (n : Int) : Barn := ⟨b.sizes ++ [n], b.lots⟩
def looserB (b : Barn) (i : Nat) : Barn := ⟨b.sizes, b.lots.set i ⟨(nth b.lots i).sacks, (nth b.lots i).inn, -1⟩⟩
variable {b : Barn} {n : Int} {i : Nat}
theorem nth_left {l : List Int} (h : i < l.length) : nth (l ++ [n]) i = nth l i := by
  unfold nth; rw [List.getD_eq_getElem?_getD, List.getD_eq_getElem?_getD, List.getElem?_append_left h]
theorem wider_len (b : Barn) (n : Int) : (widerB b n).sizes.length = b.sizes.length + 1 := by
  show (b.sizes ++ [n]).length = _; rw [List.length_append]; rfl
theorem wider_right (hr : b.Right) (hl : b.sizes.length ≤ 6) (hn : 0 ≤ n ∧ n ≤ 300) : (widerB b n).Right := by
  have hb := hr.bins
  have e := wider_len b n
  refine ⟨by omega, hr.lots, fun x hx => ?_, hr.sacks, fun l hl' => ?_, fun l hl' => ?_, hr.apart, fun i hi => ?_⟩
  · rcases List.mem_append.1 (show x ∈ b.sizes ++ [n] from hx) with h | h
    · exact hr.size x h
    · rw [List.mem_singleton.1 h]; exact hn
  · have := hr.inn l hl'; omega
  · have := hr.aim l hl'; omega
  · have h1 := hr.holds i hi
    have h2 := hr.inn _ (nth_mem hi)
    have h3 := hr.aim _ (nth_mem hi)
    refine ⟨?_, fun hne => ?_⟩
    · show (nth b.lots i).sacks ≤ nth (b.sizes ++ [n]) (nth b.lots i).inn.toNat
      rw [nth_left (by omega)]; exact h1.1
    · show (nth b.lots i).sacks ≤ nth (b.sizes ++ [n]) (nth b.lots i).aim.toNat
      have hne' : (nth b.lots i).aim ≠ -1 := hne
      rw [nth_left (by omega)]; exact h1.2 hne
theorem wider_turns {p : Pl} {t : Tur} (h : t ∈ turnsL b p) : t ∈ turnsL (widerB b n) p := by
  rw [mem_turnsL] at h ⊢
  obtain ⟨h1, h2, h3, h4, h5, h6⟩ := h
  refine ⟨h1, h2, h3, by rw [wider_len]; omega, h5, ?_⟩
  unfold Barn.hold at h6 ⊢
  show decide (nth (b.sizes ++ [n]) t.aim.toNat ≥ _) = true
  rw [nth_left (by omega)]; exact h6
theorem wider_go : ∀ (l : List Tur) {p q : Pl}, goP b p l = some q → goP (widerB b n) p l = some q
  | [], _, _, h => h
  | t :: l, p, q, h => by
    obtain ⟨h1, h2⟩ := goP_cons h
    rw [goP_cons' (wider_turns h1)]; exact wider_go l h2
theorem wider_rightV (h6 : b.lots.length ≤ 6) {l : List Tur} (h : rightV b l = true) : rightV (widerB b n) l = true := by
  obtain ⟨q, h1, h2⟩ := (right_iff h6).1 h
  exact (right_iff (b := widerB b n) h6).2 ⟨q, wider_go l h1, h2⟩
theorem wider_places (hr : b.Right) (hr' : (widerB b n).Right) : placesV b ≤ placesV (widerB b n) := by
  obtain ⟨L, h1, h2, h3⟩ := reached hr
  obtain ⟨L', g1, g2, g3⟩ := reached hr'
  have := nodup_sub h1 (L := L') fun r hr0 => by
    obtain ⟨l, hl⟩ := (h2 r).1 hr0
    exact (g2 r).2 ⟨l, wider_go l hl⟩
  rw [h3, g3]; omega
theorem looser_len (b : Barn) (i : Nat) : (looserB b i).lots.length = b.lots.length := by
  show (b.lots.set _ _).length = _; rw [List.length_set]
theorem looser_nth {k : Nat} (hk : k < b.lots.length) : nth (looserB b i).lots k = if i = k then ⟨(nth b.lots k).sacks, (nth b.lots k).inn, -1⟩ else nth b.lots k := by
  have hk' : k < (b.lots.set i ⟨(nth b.lots i).sacks, (nth b.lots i).inn, -1⟩).length := by rw [List.length_set]; exact hk
  show nth (b.lots.set i _) k = _
  rw [nth_lt hk', List.getElem_set]
  by_cases e : i = k
  · subst e; rw [if_pos rfl, if_pos rfl]
  · rw [if_neg e, if_neg e, nth_lt hk]
theorem looser_sacks {k : Nat} (hk : k < b.lots.length) : (nth (looserB b i).lots k).sacks = (nth b.lots k).sacks ∧ (nth (looserB b i).lots k).inn = (nth b.lots k).inn ∧ ((nth (looserB b i).lots k).aim = (nth b.lots k).aim ∨ (nth (looserB b i).lots k).aim = -1) := by
  rw [looser_nth hk]
  by_cases e : i = k
  · rw [if_pos e]; exact ⟨rfl, rfl, .inr rfl⟩
  · rw [if_neg e]; exact ⟨rfl, rfl, .inl rfl⟩
theorem looser_mem {l : Lot} (h : l ∈ (looserB b i).lots) : ∃ k, k < b.lots.length ∧ l.sacks = (nth b.lots k).sacks ∧ l.inn = (nth b.lots k).inn ∧ (l.aim = (nth b.lots k).aim ∨ l.aim = -1) := by
  obtain ⟨k, hk, rfl⟩ := mem_nth h
  rw [looser_len] at hk
  exact ⟨k, hk, looser_sacks hk⟩
theorem looser_right (hr : b.Right) (i : Nat) : (looserB b i).Right := by
  have e := looser_len b i
  have hb := hr.bins
  refine ⟨hr.bins, by rw [e]; exact hr.lots, hr.size, fun l hl => ?_, fun l hl => ?_, fun l hl => ?_, fun x k hk hx => ?_, fun k hk => ?_⟩
  · obtain ⟨k, hk, h1, _, _⟩ := looser_mem hl
    rw [h1]; exact hr.sacks _ (nth_mem hk)
  · obtain ⟨k, hk, _, h1, _⟩ := looser_mem hl
    rw [h1]; exact hr.inn _ (nth_mem hk)
  · obtain ⟨k, hk, _, _, h1⟩ := looser_mem hl
    have h2 := hr.aim _ (nth_mem hk)
    show -1 ≤ l.aim ∧ l.aim < (b.sizes.length : Int)
    omega
  · rw [e] at hx
    obtain ⟨_, h2, h3⟩ := looser_sacks (i := i) (k := x) hx
    obtain ⟨_, g2, g3⟩ := looser_sacks (b := b) (i := i) (k := k) (by omega)
    have h4 := hr.apart x k hk hx
    rw [h2, g2]
    refine ⟨h4.1, fun e' => ?_⟩
    rcases h3 with h3 | h3
    · rcases g3 with g3 | g3
      · rw [h3]; exact h4.2 (by rw [← h3, ← g3]; exact e')
      · rw [e']; exact g3
    · exact h3
  · rw [e] at hk
    obtain ⟨h1, h2, h3⟩ := looser_sacks (i := i) (k := k) hk
    have h4 := hr.holds k hk
    rw [h1, h2]
    refine ⟨h4.1, fun hne => ?_⟩
    rcases h3 with h3 | h3
    · rw [h3] at hne ⊢; exact h4.2 hne
    · exact absurd h3 hne
theorem looser_turns {p : Pl} {t : Tur} : t ∈ turnsL (looserB b i) p ↔ t ∈ turnsL b p := by
  rw [mem_turnsL, mem_turnsL, looser_len]
  have h1 : takenP (looserB b i) p t.aim = takenP b p t.aim := by unfold takenP; rw [looser_len]
  rw [h1]
  have h2 : 0 ≤ t.lot → t.lot < b.lots.length → Barn.hold (looserB b i) t.aim t.lot = b.hold t.aim t.lot := fun h0 h => by
    unfold Barn.hold
    rw [(looser_sacks (i := i) (k := t.lot.toNat) (by omega)).1]; rfl
  constructor
  · rintro ⟨a1, a2, a3, a4, a5, a6⟩; exact ⟨a1, a2, a3, a4, a5, (h2 a1 a2).symm.trans a6⟩
  · rintro ⟨a1, a2, a3, a4, a5, a6⟩; exact ⟨a1, a2, a3, a4, a5, (h2 a1 a2).trans a6⟩
theorem looser_go : ∀ (l : List Tur) {p q : Pl}, goP b p l = some q → goP (looserB b i) p l = some q
  | [], _, _, h => h
  | t :: l, p, q, h => by
    obtain ⟨h1, h2⟩ := goP_cons h
    rw [goP_cons' (looser_turns.2 h1)]; exact looser_go l h2
theorem looser_first (b : Barn) (i : Nat) : firstP (looserB b i) = firstP b := by
  apply Subtype.ext
  show List.take 6 (((looserB b i).lots.map fun (l : Lot) => l.inn) ++ _) = List.take 6 ((b.lots.map fun (l : Lot) => l.inn) ++ _)
  congr 2
  apply List.ext_getElem
  · rw [List.length_map, List.length_map, looser_len]
  · intro k h1 h2
    rw [List.length_map] at h2
    rw [List.length_map] at h1
    rw [List.getElem_map, List.getElem_map, ← nth_lt h1, ← nth_lt h2]
    exact (looser_sacks h2).2.1
theorem looser_rightV (h6 : b.lots.length ≤ 6) {l : List Tur} (h : rightV b l = true) : rightV (looserB b i) l = true := by
  obtain ⟨q, h1, h2⟩ := (right_iff h6).1 h
  refine (right_iff (b := looserB b i) (by rw [looser_len]; exact h6)).2 ⟨q, by rw [looser_first]; exact looser_go l h1, ?_⟩
  unfold madeP
  rw [List.all_eq_true, looser_len]
  intro k hk
  have hk := List.mem_range.1 hk
  rcases (looser_sacks (i := i) hk).2.2 with e | e
  · rw [e]
    rcases made_at h2 hk with e | e
    · rw [decide_eq_true e]; rfl
    · rw [decide_eq_true e, Bool.or_true]
  · rw [decide_eq_true e]; rfl
theorem cheap_more {b' : Barn} {c : Tur → Int} {e e' n n' : Int} {l l' : List Tur} (h : ∀ l, rightV b l = true → rightV b' l = true) (hc : Cheap b c e l n) (hc' : Cheap b' c e' l' n') (h0 : e = 0) : e' = 0 ∧ n' ≤ n := by
  obtain ⟨h1, h2, _⟩ := hc.yes h0
  have h3 := h l h1
  rcases hc'.err with e0 | e7
  · exact ⟨e0, by rw [← h2]; exact (hc'.yes e0).2.2 l h3⟩
  · rw [(hc'.no e7).2.2 l] at h3; cases h3
theorem inn_nodup (hr : b.Right) : (innL b).Nodup := by
  rw [List.nodup_iff_pairwise_ne, List.pairwise_iff_getElem]
  intro i k hi hk hik e
  unfold innL at hi hk e
  rw [List.length_map] at hi hk
  rw [List.getElem_map, List.getElem_map, ← nth_lt hi, ← nth_lt hk] at e
  exact (hr.apart k i hik hk).1 e.symm
theorem free_inn {k : Int} : b.free k = true ↔ k ∉ innL b := by
  unfold Barn.free innL
  rw [List.all_eq_true, List.mem_map]
  constructor
  · rintro h ⟨l, hl, e⟩
    have := h l hl
    rw [decide_eq_true e] at this; cases this
  · intro h l hl
    rw [decide_eq_false fun e => h ⟨l, hl, e⟩]; rfl
theorem filtUp_true (n : Nat) : (filtUp (fun _ => true) n).length = n := by
  unfold filtUp; rw [List.length_map, List.filter_eq_self.2 (fun _ _ => rfl), List.length_range]
theorem free_count (hr : b.Right) : (freeL b).length + b.lots.length = b.sizes.length := by
  have hn : (freeL b ++ innL b).Nodup := by
    rw [List.nodup_append]
    refine ⟨filtUp_nodup _ _, inn_nodup hr, fun x hx y hy e => ?_⟩
    obtain ⟨k, _, h1, e'⟩ := filtUp_mem.1 hx
    have h1 : b.free (k : Int) = true := h1
    rw [← e', e] at h1
    exact free_inn.1 h1 hy
  have hl : (innL b).length = b.lots.length := by unfold innL; rw [List.length_map]
  have h1 := nodup_sub hn (L := filtUp (fun _ => true) b.sizes.length) fun x hx => by
    rcases List.mem_append.1 hx with h | h
    · obtain ⟨k, h1, _, h2⟩ := filtUp_mem.1 h
      exact filtUp_mem.2 ⟨k, h1, rfl, h2⟩
    · obtain ⟨l, hl', rfl⟩ := List.mem_map.1 h
      have := hr.inn l hl'
      exact filtUp_mem.2 ⟨l.inn.toNat, by omega, rfl, by omega⟩
  have h2 := nodup_sub (filtUp_nodup (fun _ => true) b.sizes.length) (L := freeL b ++ innL b) fun x hx => by
    obtain ⟨k, h1, _, h2⟩ := filtUp_mem.1 hx
    by_cases e : b.free (k : Int) = true
    · exact List.mem_append.2 (.inl (filtUp_mem.2 ⟨k, h1, e, h2⟩))
    · rw [free_inn] at e
      rw [h2]
      exact List.mem_append.2 (.inr (Classical.not_not.1 e))
  rw [filtUp_true, List.length_append] at h1 h2
  omega
theorem no_free (h6 : b.lots.length ≤ 6) (h : (freeL b).length = 0) {l : List Tur} {q : Pl} (hg : goP b (firstP b) l = some q) : l = [] ∧ q = firstP b := by
  cases l with
  | nil => injection hg with hg; exact ⟨rfl, hg.symm⟩
  | cons t l =>
    obtain ⟨h1, _⟩ := goP_cons hg
    obtain ⟨_, _, h3, h4, h5, _⟩ := mem_turnsL.1 h1
    have hf : b.free t.aim = true := by
      rw [free_inn]
      rw [takenP_not, first_inn h6] at h5; exact h5
    have : t.aim ∈ freeL b := filtUp_mem.2 ⟨t.aim.toNat, by omega, by rw [show ((t.aim.toNat : Nat) : Int) = t.aim by omega]; exact hf, by omega⟩
    rw [List.length_eq_zero_iff.1 h] at this; cases this
theorem no_places (hr : b.Right) (h : (freeL b).length = 0) : placesV b = 1 := by
  refine places_of hr (L := [firstP b]) (by simp) fun r => ?_
  rw [List.mem_singleton]
  constructor
  · rintro rfl; exact ⟨[], rfl⟩
  · rintro ⟨l, hl⟩; exact (no_free hr.lots h hl).2
theorem no_cost (hr : b.Right) (h : (freeL b).length = 0) {c : Tur → Int} {e n : Int} {l : List Tur} (hc : Cheap b c e l n) (h0 : e = 0) : n = 0 := by
  obtain ⟨h1, h2, _⟩ := hc.yes h0
  obtain ⟨q, g1, _⟩ := (right_iff hr.lots).1 h1
  rw [(no_free hr.lots h g1).1] at h2
  rw [← h2]; rfl
theorem no_lots (h : b.lots.length = 0) {e n : Int} {l : List Tur} (hc : Cheap b oneC e l n) : e = 0 ∧ n = 0 := by
  have h1 : rightV b [] = true := by
    refine (right_iff (by omega)).2 ⟨firstP b, rfl, ?_⟩
    unfold madeP; rw [h]; rfl
  rcases hc.err with e0 | e7
  · obtain ⟨h2, h3, h4⟩ := hc.yes e0
    have h5 := h4 [] h1
    rw [cost_one] at h3 h5
    exact ⟨e0, by rw [List.length_nil] at h5; omega⟩
  · rw [(hc.no e7).2.2 []] at h1; cases h1
structure Roomy (b : Barn) (n : Int) : Prop where
  free : ((freeL b).length : Int) = b.sizes.length - b.lots.length
  places : (freeL b).length = 0 → placesV b = 1
  cost : (freeL b).length = 0 → planE b oneC = 0 → costR b oneC = 0
  right : (widerB b n).Right
  more : placesV b ≤ placesV (widerB b n)
  few : planE b oneC = 0 → planE (widerB b n) oneC = 0 ∧ costR (widerB b n) oneC ≤ costR b oneC
  none : b.lots.length = 0 → planE b oneC = 0 ∧ costR b oneC = 0
  loose : ∀ i, planE b oneC = 0 → planE (looserB b i) oneC = 0 ∧ costR (looserB b i) oneC ≤ costR b oneC
theorem roomy (hr : b.Right) (hl : b.sizes.length ≤ 6) (hn : 0 ≤ n ∧ n ≤ 300) : Roomy b n := by
  have hw := wider_right hr hl hn
  have h1 := cheap hr (one_ok b)
  have h2 := cheap hw (one_ok _)
  have hf := free_count hr
  exact ⟨by omega, no_places hr, fun h => no_cost hr h h1, hw, wider_places hr hw, cheap_more (fun _ => wider_rightV hr.lots) h1 h2, fun h => no_lots h h1, fun i => cheap_more (fun _ => looser_rightV hr.lots) h1 (cheap (looser_right hr i) (one_ok _))⟩
end Go.Proofs.Ytpnndljmhpepgaa

namespace Go.T
open Go Go.RowKit
end Go.T

namespace Go.Proofs.Ytpnndljmhpepgaa
open Go Go.T
set_option maxHeartbeats 4000000
def aimedB (b : Barn) (i k : Int) : Barn := ⟨b.sizes, b.lots.set i.toNat ⟨(nth b.lots i.toNat).sacks, (nth b.lots i.toNat).inn, k⟩⟩
def aimV (b : Barn) (i k : Int) : Barn × Int := if knownE b i = 0 then if checkB (aimedB b i k) = 0 then (aimedB b i k, 0) else (noB, checkB (aimedB b i k)) else (noB, knownE b i)
attribute [local irreducible] planE costR placesV checkB freeL
attribute [local irreducible] dInt dBool dSl dPp dPtr dAgg dTup dClo dAny dEx dStr dGd dCells dVec dVs dRow dOp nth Tri Into TOps Ctr bodyPost Exit.then Exit.inBlock Code.wp Code.wpIn dWhen dPa dPe dAo dArr dMp dPm dMap dCJ CtrG CtrI OpY keepPost iterPost bodyPostM roundQ
end Go.Proofs.Ytpnndljmhpepgaa

namespace Go.Proofs.Ytpnndljmhpepgaa
open Go Go.T
set_option maxHeartbeats 4000000
def sackV (b : Barn) (plan : List Tur) : Int × Int := if (doneV b plan).2.2 = 0 then (costL (sackC b) plan, 0) else (0, (doneV b plan).2.2)
def sameV (a b : Barn) : Bool := decide (a.sizes = b.sizes) && decide (a.lots = b.lots)
theorem sameV_self (b : Barn) : sameV b b = true := by unfold sameV; simp
section
variable {b a : Barn} {P back : List Tur} {p : List Int}
end
attribute [local irreducible] planE costR placesV checkB doneV costL sackC walkP walkE rightV makesB lawV sumUp sameV
attribute [local irreducible] dInt dBool dSl dPp dPtr dAgg dTup dClo dAny dEx dStr dGd dCells dVec dVs dRow dOp nth Tri Into TOps Ctr bodyPost Exit.then Exit.inBlock Code.wp Code.wpIn dWhen dPa dPe dAo dArr dMp dPm dMap dCJ CtrG CtrI OpY keepPost iterPost bodyPostM roundQ
set_option maxRecDepth 100000 in
theorem c_same (a b : Barn) : Ctr Try.prog 24 [barnT a, barnT b] (Ty.bool (sameV a b)) := by
  refine fn_intro Try.func24 rfl (by decide) Try.ntmps24 (by exact Nat.le_of_ble_eq_true rfl) fun w0 M0 => ?_
  refine t_seq ?_
  refine t_region ?_
  refine r_box_agg rfl ?_
  refine r_box_agg rfl ?_
  refine asB rfl ?_
  refine r_nil ?_
  refine i_then ?_
  refine t_seq ?_
  refine t_region ?_
  refine r_field_pp rfl rfl rfl rfl rfl (by decide) ?_
  refine r_load_pp rfl rfl rfl rfl ?_
  refine r_field_pp rfl rfl rfl rfl rfl (by decide) ?_
  refine r_load_pp rfl rfl rfl rfl ?_
  refine r_call (c_Eq_int a.sizes b.sizes) rfl rfl rfl rfl rfl ?_
  refine mvB rfl ?_
  apply r_guard (s := 10) rfl rfl rfl
  · intro hg; apply opT_of; (refine r_field_pp rfl rfl rfl rfl rfl (by decide) ?_); refine r_nil ?_; exact rfl
  · exact rfl
  · exact rfl
  apply r_guard (s := 10) rfl rfl rfl
  · intro hg; apply opT_strip (s := 11) rfl (by (rw [hg]; rfl)); apply opT_of; (refine r_load_pp rfl rfl rfl rfl ?_); refine r_nil ?_; exact rfl
  · exact rfl
  · exact rfl
  apply r_guard (s := 10) rfl rfl rfl
  · intro hg; apply opT_of; (refine r_field_pp rfl rfl rfl rfl rfl (by decide) ?_); refine r_nil ?_; exact rfl
  · exact rfl
  · exact rfl
  apply r_guard (s := 10) rfl rfl rfl
  · intro hg; apply opT_strip (s := 13) rfl (by (rw [hg]; rfl)); apply opT_of; (refine r_load_pp rfl rfl rfl rfl ?_); refine r_nil ?_; exact rfl
  · exact rfl
  · exact rfl
  apply r_guard (s := 10) rfl rfl rfl
  · intro hg; apply opT_strip (s := 12) rfl (by (rw [hg]; rfl)); apply opT_strip (s := 14) rfl (by (rw [hg]; rfl)); apply opT_of; (refine r_call (c_Eq_lot a.lots b.lots) rfl rfl rfl rfl rfl ?_); refine r_nil ?_; exact rfl
  · exact rfl
  · exact rfl
  refine r_and rfl rfl ?_
  refine asB rfl ?_
  refine r_nil ?_
  refine i_then ?_
  refine t_ret ?_
  refine i_rp1 rfl rfl ?_
  all_goals skip
  all_goals exact ret_eq rfl rfl (congrArg Ty.bool (by unfold sameV; rfl))
section
variable {b a : Barn} {P back : List Tur}
end
end Go.Proofs.Ytpnndljmhpepgaa

namespace Go.Proofs.Ytpnndljmhpepgaa
open Go Go.T
set_option maxHeartbeats 4000000
def rowO (x : Option (List Int)) : List Ty := match x with | none => [Ty.ex (.slice none 0 0)] | some l => [Ty.sl I64 l]
def RowOE : El (Option (List Int)) := El.mk' 1 rowO (fun x => by cases x <;> rfl) (fun x => by cases x <;> exact ⟨rfl, rfl, rfl⟩)
instance : Inhabited (Option (List Int)) := ⟨none⟩
def rowU (l : List (List Int)) (k : Nat) : List (Option (List Int)) := (l.take k).map some ++ List.replicate (l.length - k) none
def greatV (b : Barn) : Bool := decide ((b.sizes.length : Int) > 12) || decide ((b.lots.length : Int) > 10)
theorem small_great {b : Barn} (h : greatV b = false) : b.Small := by
  unfold greatV at h
  simp only [Bool.or_eq_false_iff, decide_eq_false_iff_not] at h
  exact ⟨by omega, by omega⟩
def aimTys (s t : Nat) (b : Barn) : List Ty := [Ty.row I64 3 s b.sizes, Ty.vs t b.lots.length]
attribute [local irreducible] dInt dBool dSl dPp dPtr dAgg dTup dClo dAny dEx dStr dGd dCells dVec dVs dRow dOp nth Tri Into TOps Ctr bodyPost Exit.then Exit.inBlock Code.wp Code.wpIn dWhen dPa dPe dAo dArr dMp dPm dMap dCJ CtrG CtrI OpY keepPost iterPost bodyPostM roundQ
attribute [local irreducible] dRowJ dMs dFit
set_option maxRecDepth 100000 in
theorem c_great (b : Barn) : Ctr Try.prog 28 [barnT b] (Ty.bool (greatV b)) := by
  refine fn_intro Try.func28 rfl (by decide) Try.ntmps28 (by exact Nat.le_of_ble_eq_true rfl) fun w0 M0 => ?_
  refine t_seq ?_
  refine t_region ?_
  refine r_box_agg rfl ?_
  refine asB rfl ?_
  refine r_nil ?_
  refine i_then ?_
  refine t_seq ?_
  refine t_region ?_
  refine r_field_pp rfl rfl rfl rfl rfl (by decide) ?_
  refine r_load_pp rfl rfl rfl rfl ?_
  refine r_len rfl rfl rfl ?_
  refine r_bin rfl rfl rfl ?_
  refine mvB rfl ?_
  apply r_guard (s := 7) rfl rfl rfl
  · intro hg; apply opT_of; (refine r_field_pp rfl rfl rfl rfl rfl (by decide) ?_); refine r_nil ?_; exact rfl
  · exact rfl
  · exact rfl
  apply r_guard (s := 7) rfl rfl rfl
  · intro hg; apply opT_strip (s := 8) rfl (by (rw [hg]; rfl)); apply opT_of; (refine r_load_pp rfl rfl rfl rfl ?_); refine r_nil ?_; exact rfl
  · exact rfl
  · exact rfl
  apply r_guard (s := 7) rfl rfl rfl
  · intro hg; apply opT_strip (s := 9) rfl (by (rw [hg]; rfl)); apply opT_of; (refine r_len rfl rfl rfl ?_); refine r_nil ?_; exact rfl
  · exact rfl
  · exact rfl
  apply r_guard (s := 7) rfl rfl rfl
  · intro hg; apply opT_strip (s := 10) rfl (by (rw [hg]; rfl)); apply opT_of; (refine r_bin rfl rfl rfl ?_); refine r_nil ?_; exact rfl
  · exact rfl
  · exact rfl
  refine r_or rfl rfl ?_
  refine asB rfl ?_
  refine r_nil ?_
  refine i_then ?_
  refine t_ret ?_
  refine i_rp1 rfl rfl ?_
  all_goals exact ret_refl rfl rfl
  all_goals trace_state
set_option maxRecDepth 100000 in
theorem c_theirs (b : Barn) (hs : b.Small) : Ctr Try.prog 16 [barnT b] (barnT b) := by
  refine fn_intro Try.func16 rfl (by decide) Try.ntmps16 (by exact Nat.le_of_ble_eq_true rfl) fun w0 M0 => ?_
  have hs1 := hs.lots
  refine t_seq ?_
  refine t_region ?_
  refine r_box_agg rfl ?_
  refine r_alloc rfl (by exact List.cons_ne_nil _ _) rfl ?_
  refine r_nil ?_
  refine i_then ?_
  refine t_seq ?_
  refine t_region ?_
  refine r_field_pp rfl rfl rfl rfl rfl (by decide) ?_
  refine r_load_pp rfl rfl rfl rfl ?_
  refine r_build rfl rfl (by exact List.cons_ne_nil _ _) rfl (by repeat (first | exact (Parts.nil : Parts _ _ [] _) | (show Parts _ _ ((_, _) :: _) _; apply Parts.one; (· exact (rfl : _ = Ty.sl _ _)); (· exact rfl)))) (by exact (rfl : _ = some [_, _])) ?_
  refine r_alloc rfl (by exact List.cons_ne_nil _ _) rfl ?_
  refine r_storeN rfl rfl (by decide) rfl rfl rfl rfl rfl rfl ?_
  refine r_nil ?_
  refine i_then ?_
  refine t_seq ?_
  refine t_seq ?_
  refine t_region ?_
  refine r_field_pp rfl rfl rfl rfl rfl (by decide) ?_
  refine r_load_pp rfl rfl rfl rfl ?_
  refine r_len rfl rfl rfl ?_
  refine mvI rfl ?_
  refine r_nil ?_
  refine i_then ?_
  refine t_block ?_
  refine t_loop (fun (k : {k : Nat // k ≤ b.lots.length}) => live [(2, Ty.ptr 3 0), (3, Ty.ptr 4 0), (10, Ty.sl LotE b.lots), (11, Ty.int .i64 b.lots.length), (12, Ty.int .i64 (k.1 : Nat))] [(3, Cont.cells 31 [Ty.ex (.slice none 0 0), Ty.ex (.slice none 0 0)]), (4, Cont.cells 31 [Ty.sl I64 b.sizes, Ty.row LotE 110 21 (b.lots.take k.1)])]) (fun k => b.lots.length - k.1) (⟨0, by omega⟩) ?_ fun k => ?_
  · (refine Ent.mk' ?_ ?_ <;> (repeat' (first | exact allSub_zero | exact allTags_nil | exact subs_nil | refine allSub_succ' ?_ (Ty.sub_any _) | refine allSub_succ' ?_ (Ty.sub_refl _) | refine allTags_cons rfl (Cont.sub_refl _) ?_ | refine allTags_cons rfl (Cont.sub_subs ?_) ?_ | refine subs_cons ?_ (Ty.sub_refl _) | refine subs_cons ?_ Ty.nil_row)))
    all_goals trace_state
  ·
    have hk := k.2
    refine t_seq ?_
    refine t_region ?_
    refine r_bin rfl rfl rfl ?_
    refine r_nil ?_
    refine i_then ?_
    refine t_seq ?_
    refine t_cond_dec rfl (fun hc1 => ?_) (fun hc1 => ?_)
    ·
      refine t_skip ?_
      refine i_then ?_
      refine t_seq ?_
      refine t_block ?_
      refine t_seq ?_
      refine t_region ?_
      refine r_index_slN rfl rfl rfl rfl rfl rfl (by omega) ?_
      refine r_load_ppN rfl rfl rfl (by exact Nat.le_of_ble_eq_true rfl) ?_
      refine r_alloc rfl (by exact List.cons_ne_nil _ _) rfl ?_
      refine r_storeN rfl rfl (by decide) rfl rfl rfl rfl rfl rfl ?_
      refine r_nil ?_
      refine i_then ?_
      refine t_region ?_
      refine r_field_ptr rfl rfl rfl rfl rfl (by decide) ?_
      refine r_load_ptr rfl rfl (by decide) rfl rfl rfl ?_
      refine r_load_ptrN rfl rfl (by decide) rfl rfl (by exact Nat.le_of_ble_eq_true rfl) ?_
      refine r_buildSlice (E := LotE) (xs := [nth b.lots k.1]) rfl rfl rfl rfl rfl (by decide) (by decide) (by repeat (first | exact (Parts.nil : Parts _ _ [] _) | (show Parts _ _ ((_, _) :: _) _; apply Parts.agg; (· exact (rfl : _ = Ty.agg _))))) (by exact rfl) rfl ?_
      refine r_append rfl rfl (by decide) rfl rfl rfl rfl rfl rfl (by decide) (by (simp <;> omega)) (by (simp <;> omega)) ?_
      refine r_field_ptr rfl rfl rfl rfl rfl (by decide) ?_
      refine r_store1 rfl rfl (by decide) rfl rfl (by exact (rfl : _ = Ty.row _ _ _ _)) rfl (by exact Nat.le_of_ble_eq_true rfl) rfl rfl (by exact rfl) ?_
      refine r_nil ?_
      refine i_block ?_
      refine i_then ?_
      refine t_region ?_
      refine r_add rfl rfl (by omega) (by omega) ?_
      refine mvI rfl ?_
      refine r_nil ?_
      refine i_round (⟨k.1 + 1, by omega⟩) ?_ (by show b.lots.length - (k.1 + 1) < b.lots.length - k.1; omega)
      (refine Ent.mk' ?_ ?_ <;> (repeat' (first | exact allSub_zero | exact allTags_nil | exact subs_nil | refine allSub_succ' ?_ (Ty.sub_any _) | refine allSub_succ' ?_ (Ty.sub_refl _) | refine allTags_cons rfl (Cont.sub_refl _) ?_ | refine allTags_cons rfl (Cont.sub_subs ?_) ?_ | refine subs_cons ?_ (Ty.sub_refl _) | refine subs_cons ?_ ?_)))
      all_goals exact Ty.sub_row (take_nth (by omega)).symm
      all_goals trace_state
    ·
      refine t_exit ?_
      refine i_then_exit ?_
      refine i_then_exit ?_
      refine i_block_exit rfl ?_
      refine i_then ?_
      refine t_seq ?_
      refine t_pubC (tg := 21) [] [(4, Cont.cells 31 [Ty.sl I64 b.sizes, Ty.sl LotE (b.lots.take k.1)])] (by decide) rfl trivial ⟨pubC_cells rfl rfl ⟨pubTy_same rfl, pubTy_row, trivial⟩, trivial⟩ ?_
      refine t_region ?_
      refine r_load_ptrN rfl rfl (by decide) rfl rfl (by exact Nat.le_of_ble_eq_true rfl) ?_
      refine r_storeN rfl rfl (by decide) rfl rfl rfl rfl rfl rfl ?_
      refine r_nil ?_
      refine i_then ?_
      refine t_ret ?_
      refine i_rcell rfl rfl rfl rfl (by decide) rfl rfl rfl ?_
      all_goals exact ret_eq rfl rfl (congrArg (fun l => barnT ⟨b.sizes, l⟩) (show b.lots.take k.1 = b.lots from List.take_of_length_le (by have := k.2; omega)))
set_option maxRecDepth 100000 in
theorem c_Own (b : Barn) (hs : b.Small) : Ctr Try.prog 15 [barnT b] (barnT b) := by
  refine fn_intro Try.func15 rfl (by decide) Try.ntmps15 (by exact Nat.le_of_ble_eq_true rfl) fun w0 M0 => ?_
  refine t_seq ?_
  refine t_region ?_
  refine r_box_agg rfl ?_
  refine r_alloc rfl (by exact List.cons_ne_nil _ _) rfl ?_
  refine r_nil ?_
  refine i_then ?_
  refine t_seq ?_
  refine t_draw mixed rfl ?_
  refine r_field_pp rfl rfl rfl rfl rfl (by decide) ?_
  refine r_load_pp rfl rfl rfl rfl ?_
  refine r_call (c_Dup_int b.sizes (by have := hs.sizes; omega)) rfl rfl rfl rfl rfl ?_
  refine r_field_pp rfl rfl rfl rfl rfl (by decide) ?_
  refine r_load_pp rfl rfl rfl rfl ?_
  refine r_call (c_Dup_lot b.lots (by have := hs.lots; omega)) rfl rfl rfl rfl rfl ?_
  refine r_build rfl rfl (by exact List.cons_ne_nil _ _) rfl (by repeat (first | exact (Parts.nil : Parts _ _ [] _) | (show Parts _ _ ((_, _) :: _) _; apply Parts.one; (· exact (rfl : _ = Ty.sl _ _)); (· exact rfl)))) (by exact (rfl : _ = some [_, _])) ?_
  refine r_storeN rfl rfl (by decide) rfl rfl rfl rfl rfl rfl ?_
  refine r_nil ?_
  refine ⟨by kernel_rfl, ?_⟩
  refine i_then ?_
  refine t_ret ?_
  refine i_rcell rfl rfl rfl rfl (by decide) rfl rfl rfl ?_
  all_goals exact ret_eq rfl rfl rfl
end Go.Proofs.Ytpnndljmhpepgaa

namespace Go.T
open Go Go.RowKit
end Go.T

namespace Go.T
open Go Go.RowKit
section
variable {P : Program} {fr : Fr} {A : As} {c : Code} {Q : Exit → Act → World → Prop}
end
end Go.T

namespace Go.Proofs.Ytpnndljmhpepgaa
open Go Go.T
set_option maxHeartbeats 6000000
def takenU (b : Barn) (k : Int) (j : Nat) : Bool := ((b.lots.map (·.inn)).take j).any fun n => decide (n = k)
def freeR (b : Barn) : List Int := if checkB b = 0 then freeL b else []
def holdR (b : Barn) (i : Int) : List Int := if knownE b i = 0 then holdL b i else []
def mustR (b : Barn) : List Int := if checkB b = 0 then mustL b else []
def ringR (b : Barn) : List (List Int) := if checkB b = 0 then ringsL b else []
section
variable {b : Barn} {i k : Int} {rings : List (List Int)}
end
attribute [local irreducible] aimV knownE showV showsR freeL holdL mustL ringsL checkB checkR sameV takenU Barn.free Barn.hold
attribute [local irreducible] dInt dBool dSl dPp dPtr dAgg dTup dClo dAny dEx dStr dGd dCells dVec dVs dRow dOp nth Tri Into TOps Ctr bodyPost Exit.then Exit.inBlock Code.wp Code.wpIn dWhen dPa dPe dAo dArr dMp dPm dMap dCJ CtrG CtrI OpY keepPost iterPost bodyPostM roundQ
attribute [local irreducible] dRowJ dMs dFit
end Go.Proofs.Ytpnndljmhpepgaa

namespace Go.T
open Go Go.RowKit
section
variable {P : Program} {A : As} {fn : Func} {n : Nat} {w0 : World} {M0 : Tags}
theorem i_rp4 {t1 t2 t3 t4 : Nat} {r1 r2 r3 r4 : Ty} (hr : fn.results = #[.tmp t1, .tmp t2, .tmp t3, .tmp t4]) (h1 : Nat.blt t1 n = true) (h2 : Nat.blt t2 n = true) (h3 : Nat.blt t3 n = true) (h4 : Nat.blt t4 n = true) (hs1 : RetSub (A.slots t1) r1) (hs2 : RetSub (A.slots t2) r2) (hs3 : RetSub (A.slots t3) r3) (hs4 : RetSub (A.slots t4) r4) :
    Into ⟨n, w0, M0, [], .plain⟩ A (bodyPost P fn (retPost w0 M0 (Ty.tup [r1, r2, r3, r4])) .ret) := by
  intro a w ⟨M, ok, hsl, _⟩
  exact ⟨ok.nodefers (by simp), .tuple #[a.tmps.getD t1 undef, a.tmps.getD t2 undef, a.tmps.getD t3 undef, a.tmps.getD t4 undef], by simp [results, hr], _, pubM M, rfl, pubM_wf ok.wf, base_pub (fr := ⟨n, w0, M0, [], .plain⟩) (fun _ h => h) ok.base, _, rfl, hs1 _ _ _ ok.wf (hsl t1 (by simpa using h1)), hs2 _ _ _ ok.wf (hsl t2 (by simpa using h2)), hs3 _ _ _ ok.wf (hsl t3 (by simpa using h3)), hs4 _ _ _ ok.wf (hsl t4 (by simpa using h4)), trivial⟩
end
end Go.T

namespace Go.Proofs.Ytpnndljmhpepgaa
open Go Go.T
set_option maxHeartbeats 4000000
def rturn (b : Barn) (p : List Int) (t : Tur) : List Int × Int :=
  if (offB t.lot 0 (b.lots.length - 1) || offB t.aim 0 (b.sizes.length - 1)) = true then ([], 1) else if t.aim ∈ p then ([], 5) else if nth b.sizes t.aim.toNat < (nth b.lots t.lot.toNat).sacks then ([], 9) else (p.set t.lot.toNat t.aim, 0)
section
variable {b cur : Barn} {p : List Int} {t : Tur}
theorem rturn_1 (h : (offB t.lot 0 (b.lots.length - 1) || offB t.aim 0 (b.sizes.length - 1)) = true) : rturn b p t = ([], 1) := if_pos h
theorem rturn_5 (h : (offB t.lot 0 (b.lots.length - 1) || offB t.aim 0 (b.sizes.length - 1)) = false) (h2 : t.aim ∈ p) : rturn b p t = ([], 5) := (if_neg (ng h)).trans (if_pos h2)
theorem rturn_9 (h : (offB t.lot 0 (b.lots.length - 1) || offB t.aim 0 (b.sizes.length - 1)) = false) (h2 : t.aim ∉ p) (h3 : nth b.sizes t.aim.toNat < (nth b.lots t.lot.toNat).sacks) : rturn b p t = ([], 9) := (if_neg (ng h)).trans ((if_neg h2).trans (if_pos h3))
theorem rturn_0 (h : (offB t.lot 0 (b.lots.length - 1) || offB t.aim 0 (b.sizes.length - 1)) = false) (h2 : t.aim ∉ p) (h3 : ¬ nth b.sizes t.aim.toNat < (nth b.lots t.lot.toNat).sacks) : rturn b p t = (p.set t.lot.toNat t.aim, 0) := (if_neg (ng h)).trans ((if_neg h2).trans (if_neg h3))
theorem off_rng (h : (offB t.lot 0 (b.lots.length - 1) || offB t.aim 0 (b.sizes.length - 1)) = false) : (0 ≤ t.lot ∧ t.lot < b.lots.length) ∧ 0 ≤ t.aim ∧ t.aim < b.sizes.length := by
  rw [Bool.or_eq_false_iff, offB_false, offB_false] at h; omega
structure Kept (b cur : Barn) : Prop where
  sizes : cur.sizes = b.sizes
  len : cur.lots.length = b.lots.length
  sacks : ∀ i, i < b.lots.length → (nth cur.lots i).sacks = (nth b.lots i).sacks
theorem inn_to (_ : 0 ≤ t.lot ∧ t.lot < cur.lots.length) : innL ⟨cur.sizes, lotsTo cur t⟩ = (innL cur).set t.lot.toNat t.aim := by
  unfold innL lotsTo
  show (cur.lots.set _ _).map _ = _
  rw [List.map_set]
theorem rturn_eq (h : Kept b cur) : rturn b (innL cur) t = if (turnedB cur t).2 = 0 then (innL (turnedB cur t).1, 0) else ([], (turnedB cur t).2) := by
  have e : (!cur.lot t.lot || !cur.bin t.aim) = (offB t.lot 0 (b.lots.length - 1) || offB t.aim 0 (b.sizes.length - 1)) := by
    unfold Barn.lot Barn.bin; rw [inB_off, inB_off, h.len, h.sizes]
  cases h1 : (offB t.lot 0 (b.lots.length - 1) || offB t.aim 0 (b.sizes.length - 1)) with
  | true => rw [rturn_1 h1, turned_1 (e.trans h1)]; rfl
  | false =>
    have hr := off_rng h1
    by_cases h2 : t.aim ∈ innL cur
    · have hf : cur.free t.aim = false := by rw [Bool.eq_false_iff]; intro hc; exact free_inn.1 hc h2
      rw [rturn_5 h1 h2, turned_5 (e.trans h1) hf]; rfl
    · have hf : cur.free t.aim = true := free_inn.2 h2
      have hs := h.sacks t.lot.toNat (by omega)
      by_cases h3 : nth b.sizes t.aim.toNat < (nth b.lots t.lot.toNat).sacks
      · have hh : cur.hold t.aim t.lot = false := by unfold Barn.hold; rw [hs, h.sizes]; exact decide_eq_false (by omega)
        rw [rturn_9 h1 h2 h3, turned_9 (e.trans h1) hf hh]; rfl
      · have hh : cur.hold t.aim t.lot = true := by unfold Barn.hold; rw [hs, h.sizes]; exact decide_eq_true (by omega)
        rw [rturn_0 h1 h2 h3, turned_0 (e.trans h1) hf hh, if_pos rfl, inn_to (by rw [h.len]; exact hr.1)]
theorem kept_turn (h : Kept b cur) (h0 : (turnedB cur t).2 = 0) : Kept b (turnedB cur t).1 ∧ 0 ≤ t.lot ∧ t.lot < b.lots.length := by
  obtain ⟨h1, _, _, _, e⟩ := turned_err h0
  rw [h.len] at h1
  refine ⟨?_, h1⟩
  rw [e]
  refine ⟨h.sizes, by show (lotsTo cur t).length = _; unfold lotsTo; rw [List.length_set]; exact h.len, fun i hi => ?_⟩
  show (nth (lotsTo cur t) i).sacks = _
  unfold lotsTo
  rw [nthA_set (by rw [h.len]; exact hi)]
  by_cases c : t.lot.toNat = i
  · rw [if_pos c, ← h.sacks i hi, c]
  · rw [if_neg c]; exact h.sacks i hi
def afterR (b : Barn) (plan : List Tur) : List Int × List Tur × Int × Int :=
  if (plan.length : Int) > 6000 then ([], [], 0, 2) else if (doneGo b [] plan).2.2 = 0 then (innL (doneGo b [] plan).1, (doneGo b [] plan).2.1, costL (sackC b) plan, 0) else ([], [], 0, (doneGo b [] plan).2.2)
variable {plan : List Tur}
theorem afterR_2 (h : (plan.length : Int) > 6000) : afterR b plan = ([], [], 0, 2) := if_pos h
theorem afterR_e (h : ¬ (plan.length : Int) > 6000) {e : Int} (he : ¬ e = 0) (hd : doneGo b [] plan = (noB, [], e)) : afterR b plan = ([], [], 0, e) := by
  unfold afterR; rw [if_neg h, hd]; exact if_neg he
theorem afterR_0 (h : ¬ (plan.length : Int) > 6000) {back : List Tur} {k : Nat} (hk : plan.length ≤ k) (hd : doneGo b [] plan = (cur, back, 0)) : afterR b plan = (innL cur, back, sumUp b plan k, 0) := by
  unfold afterR sumUp; rw [if_neg h, hd, if_pos rfl, List.take_of_length_le hk]
structure AIx (b : Barn) (plan : List Tur) (k : Nat) (cur : Barn) (back : List Tur) : Prop where
  ix : DIx b plan k cur back
  kept : Kept b cur
  sum : 0 ≤ sumUp b plan k ∧ sumUp b plan k ≤ 300 * k
theorem aix0 (b : Barn) (plan : List Tur) : AIx b plan 0 b [] := ⟨dix0 b plan, ⟨rfl, rfl, fun _ _ => rfl⟩, by rw [sumUp_zero]; exact ⟨Int.le_refl _, Int.le_refl _⟩⟩
variable {k : Nat} {back : List Tur}
theorem AIx.next (h : AIx b plan k cur back) (hr : b.Right) (hk : k < plan.length) (he : (turnedB cur (nth plan k)).2 = 0) : AIx b plan (k + 1) (turnedB cur (nth plan k)).1 (back ++ [⟨(nth plan k).lot, (nth cur.lots (nth plan k).lot.toNat).inn⟩]) := by
  obtain ⟨h1, h2⟩ := kept_turn h.kept he
  have h3 := sack_bound hr h2
  have h4 := h.sum
  refine ⟨h.ix.next hk he, h1, ?_⟩
  rw [sumUp_succ hk]; omega
theorem innL_nth {i : Nat} (hi : i < cur.lots.length) : nth (innL cur) i = (nth cur.lots i).inn := by
  unfold innL; rw [nth_lt (by rw [List.length_map]; exact hi), List.getElem_map, ← nth_lt hi]
theorem rt_zero (h : Kept b cur) (he : (rturn b (innL cur) t).2 = 0) : (turnedB cur t).2 = 0 ∧ (rturn b (innL cur) t).1 = innL (turnedB cur t).1 := by
  rw [rturn_eq h] at he ⊢
  by_cases c : (turnedB cur t).2 = 0
  · rw [if_pos c]; exact ⟨c, rfl⟩
  · rw [if_neg c] at he; exact absurd he c
theorem rt_err (h : Kept b cur) (he : ¬ (rturn b (innL cur) t).2 = 0) : ¬ (turnedB cur t).2 = 0 ∧ (rturn b (innL cur) t).2 = (turnedB cur t).2 := by
  rw [rturn_eq h] at he ⊢
  by_cases c : (turnedB cur t).2 = 0
  · rw [if_pos c] at he; exact absurd rfl he
  · rw [if_neg c]; exact ⟨c, rfl⟩
theorem AIx.halt (h : AIx b plan k cur back) (h1 : ¬ (plan.length : Int) > 6000) (hk : k < plan.length) (he : ¬ (rturn b (innL cur) (nth plan k)).2 = 0) : afterR b plan = ([], [], 0, (rturn b (innL cur) (nth plan k)).2) := by
  obtain ⟨h2, h3⟩ := rt_err h.kept he
  rw [h3]
  exact afterR_e h1 h2 (h.ix.stop hk h2)
theorem inn_map (b : Barn) : (b.lots.map fun x => x.inn) = innL b := rfl
theorem back_step (h : Kept b cur) (hl : 0 ≤ t.lot ∧ t.lot < b.lots.length) : [(⟨t.lot, nth (innL cur) t.lot.toNat⟩ : Tur)] ++ back.reverse = (back ++ [(⟨t.lot, (nth cur.lots t.lot.toNat).inn⟩ : Tur)]).reverse := by
  rw [List.reverse_append, innL_nth (by rw [h.len]; omega)]; rfl
def wrongI (b : Barn) (p : List Int) (i : Nat) : Bool := decide ((nth b.lots i).aim ≥ 0) && !decide ((nth b.lots i).aim = nth p i)
def madeL (b : Barn) (p : List Int) : Bool := !(List.range p.length).any (wrongI b p)
end
attribute [local irreducible] rturn turnedB sumUp innL
attribute [local irreducible] dInt dBool dSl dPp dPtr dAgg dTup dClo dAny dEx dStr dGd dCells dVec dVs dRow dOp nth Tri Into TOps Ctr bodyPost Exit.then Exit.inBlock Code.wp Code.wpIn dWhen dPa dPe dAo dArr dMp dPm dMap dCJ CtrG CtrI OpY keepPost iterPost bodyPostM roundQ
set_option maxRecDepth 100000 in
theorem c_rTurned (b : Barn) (hs : b.Small) (p : List Int) (hp : p.length = b.lots.length) (t : Tur) : Ctr Try.prog 71 [barnT b, Ty.sl I64 p, Ty.agg (TurE.tys t)] (Ty.tup [Ty.sl I64 (rturn b p t).1, Ty.int .i64 (rturn b p t).2]) := by
  refine fn_intro Try.func71 rfl (by decide) Try.ntmps71 (by exact Nat.le_of_ble_eq_true rfl) fun w0 M0 => ?_
  have hs1 := hs.sizes
  have hs2 := hs.lots
  refine t_seq ?_
  refine t_region ?_
  refine r_box_agg rfl ?_
  refine r_box_agg rfl ?_
  refine asX rfl ?_
  refine asI rfl ?_
  refine r_nil ?_
  refine i_then ?_
  refine t_seq ?_
  refine t_seq ?_
  refine t_region ?_
  refine r_field_pp rfl rfl rfl rfl rfl (by decide) ?_
  refine r_load_pp rfl rfl rfl rfl ?_
  refine r_field_pp rfl rfl rfl rfl rfl (by decide) ?_
  refine r_load_pp rfl rfl rfl rfl ?_
  refine r_len rfl rfl rfl ?_
  refine r_sub rfl rfl (by omega) (by omega) ?_
  refine r_call (c_off _ _ _) rfl rfl rfl rfl rfl ?_
  refine mvB rfl ?_
  apply r_guard (s := 16) rfl rfl rfl
  · intro hg; apply opT_of; (refine r_field_pp rfl rfl rfl rfl rfl (by decide) ?_); refine r_nil ?_; exact rfl
  · exact rfl
  · exact rfl
  apply r_guard (s := 16) rfl rfl rfl
  · intro hg; apply opT_strip (s := 17) rfl (by (rw [hg]; rfl)); apply opT_of; (refine r_load_pp rfl rfl rfl rfl ?_); refine r_nil ?_; exact rfl
  · exact rfl
  · exact rfl
  apply r_guard (s := 16) rfl rfl rfl
  · intro hg; apply opT_of; (refine r_field_pp rfl rfl rfl rfl rfl (by decide) ?_); refine r_nil ?_; exact rfl
  · exact rfl
  · exact rfl
  apply r_guard (s := 16) rfl rfl rfl
  · intro hg; apply opT_strip (s := 19) rfl (by (rw [hg]; rfl)); apply opT_of; (refine r_load_pp rfl rfl rfl rfl ?_); refine r_nil ?_; exact rfl
  · exact rfl
  · exact rfl
  apply r_guard (s := 16) rfl rfl rfl
  · intro hg; apply opT_strip (s := 20) rfl (by (rw [hg]; rfl)); apply opT_of; (refine r_len rfl rfl rfl ?_); refine r_nil ?_; exact rfl
  · exact rfl
  · exact rfl
  apply r_guard (s := 16) rfl rfl rfl
  · intro hg; apply opT_strip (s := 21) rfl (by (rw [hg]; rfl)); apply opT_of; (refine r_sub rfl rfl (by omega) (by omega) ?_); refine r_nil ?_; exact rfl
  · exact rfl
  · exact rfl
  apply r_guard (s := 16) rfl rfl rfl
  · intro hg; apply opT_strip (s := 18) rfl (by (rw [hg]; rfl)); apply opT_strip (s := 22) rfl (by (rw [hg]; rfl)); apply opT_of; (refine r_call (c_off _ _ _) rfl rfl rfl rfl rfl ?_); refine r_nil ?_; exact rfl
  · exact rfl
  · exact rfl
  refine r_or rfl rfl ?_
  refine r_nil ?_
  refine i_then ?_
  refine t_cond rfl (fun hc1 => ?_) (fun hc1 => ?_)
  ·
    refine t_seq ?_
    refine t_region ?_
    refine asX rfl ?_
    refine asI rfl ?_
    refine r_nil ?_
    refine i_then ?_
    refine t_ret ?_
    refine i_then_ret ?_
    refine i_rp2 rfl rfl rfl ?_ ?_
    all_goals skip
    all_goals first | exact ret_nil_eq (congrArg Prod.fst (rturn_1 hc1)) | exact ret_eq rfl rfl (congrArg (fun z : List Int × Int => Ty.int .i64 z.2) (rturn_1 hc1).symm)
  ·
    refine t_skip ?_
    refine i_then ?_
    refine t_seq ?_
    refine t_seq ?_
    have hof := off_rng hc1
    refine t_region ?_
    refine mvS rfl ?_
    refine r_field_pp rfl rfl rfl rfl rfl (by decide) ?_
    refine r_load_pp rfl rfl rfl rfl ?_
    refine r_call (c_has _ _) rfl rfl rfl rfl rfl ?_
    refine r_nil ?_
    refine i_then ?_
    refine t_cond_dec rfl (fun hc2 => ?_) (fun hc2 => ?_)
    ·
      refine t_seq ?_
      refine t_region ?_
      refine asX rfl ?_
      refine asI rfl ?_
      refine r_nil ?_
      refine i_then ?_
      refine t_ret ?_
      refine i_then_ret ?_
      refine i_rp2 rfl rfl rfl ?_ ?_
      all_goals skip
      all_goals first | exact ret_nil_eq (congrArg Prod.fst (rturn_5 hc1 hc2)) | exact ret_eq rfl rfl (congrArg (fun z : List Int × Int => Ty.int .i64 z.2) (rturn_5 hc1 hc2).symm)
    ·
      refine t_skip ?_
      refine i_then ?_
      refine t_seq ?_
      refine t_seq ?_
      refine t_draw mixed rfl ?_
      refine r_field_pp rfl rfl rfl rfl rfl (by decide) ?_
      refine r_load_pp rfl rfl rfl rfl ?_
      refine r_field_pp rfl rfl rfl rfl rfl (by decide) ?_
      refine r_load_pp rfl rfl rfl rfl ?_
      refine r_index_sl rfl rfl rfl rfl rfl rfl hof.2.1 (by omega) ?_
      refine r_load_pp rfl rfl rfl rfl ?_
      refine r_field_pp rfl rfl rfl rfl rfl (by decide) ?_
      refine r_load_pp rfl rfl rfl rfl ?_
      refine r_field_pp rfl rfl rfl rfl rfl (by decide) ?_
      refine r_load_pp rfl rfl rfl rfl ?_
      refine r_index_sl rfl rfl rfl rfl rfl rfl hof.1.1 (by omega) ?_
      refine r_field_pp rfl rfl rfl rfl rfl (by decide) ?_
      refine r_load_pp rfl rfl rfl rfl ?_
      refine r_bin rfl rfl rfl ?_
      refine r_nil ?_
      refine ⟨by kernel_rfl, ?_⟩
      refine i_then ?_
      refine t_cond_dec rfl (fun hc3 => ?_) (fun hc3 => ?_)
      ·
        refine t_seq ?_
        refine t_region ?_
        refine asX rfl ?_
        refine asI rfl ?_
        refine r_nil ?_
        refine i_then ?_
        refine t_ret ?_
        refine i_then_ret ?_
        refine i_rp2 rfl rfl rfl ?_ ?_
        all_goals skip
        all_goals first | exact ret_nil_eq (congrArg Prod.fst (rturn_9 hc1 hc2 hc3)) | exact ret_eq rfl rfl (congrArg (fun z : List Int × Int => Ty.int .i64 z.2) (rturn_9 hc1 hc2 hc3).symm)
      ·
        refine t_skip ?_
        refine i_then ?_
        refine t_seq ?_
        refine t_region ?_
        refine r_buildRow (E := I64) rfl rfl rfl rfl ?_
        refine mvS rfl ?_
        refine r_append rfl rfl (by decide) rfl rfl rfl rfl rfl rfl (by decide) (by (simp <;> omega)) (by (simp <;> omega)) ?_
        refine asR rfl ?_
        refine r_nil ?_
        refine i_then ?_
        refine t_seq ?_
        refine t_own (s := 8) rfl rfl ?_
        refine t_region ?_
        refine mvV rfl ?_
        refine r_field_pp rfl rfl rfl rfl rfl (by decide) ?_
        refine r_load_pp rfl rfl rfl rfl ?_
        refine r_field_pp rfl rfl rfl rfl rfl (by decide) ?_
        refine r_load_pp rfl rfl rfl rfl ?_
        refine r_index_vsI rfl rfl rfl rfl rfl hof.1.1 (by show t.lot.toNat < ([] ++ p).length; rw [List.nil_append]; omega) ?_
        refine r_store_vecB (E := I64) (z := t.aim) rfl rfl rfl (by decide) rfl rfl (by exact (rfl : _ = Ty.int _ _)) rfl (by show t.lot.toNat < ([] ++ p).length; rw [List.nil_append]; omega) (by decide) rfl rfl ?_
        refine r_nil ?_
        refine i_then ?_
        refine t_seq ?_
        refine t_pub (tg := 44) [(8, Ty.sl I64 (([] ++ p).set t.lot.toNat t.aim))] (by decide) rfl ⟨pub_vs rfl rfl (by rw [List.length_set]) (by decide), trivial⟩ ?_
        refine t_region ?_
        refine mvS rfl ?_
        refine asS rfl ?_
        refine asI rfl ?_
        refine r_nil ?_
        refine i_then ?_
        refine t_ret ?_
        refine i_rp2 rfl rfl rfl ?_ ?_
        all_goals skip
        all_goals first | exact ret_eq rfl rfl (congrArg (fun z : List Int × Int => Ty.sl I64 z.1) (rturn_0 hc1 hc2 hc3).symm) | exact ret_eq rfl rfl (congrArg (fun z : List Int × Int => Ty.int .i64 z.2) (rturn_0 hc1 hc2 hc3).symm)
set_option maxRecDepth 100000 in
theorem c_rAfter (b : Barn) (hr : b.Right) (plan : List Tur) : Ctr Try.prog 25 [barnT b, Ty.sl TurE plan] (Ty.tup [Ty.sl I64 (afterR b plan).1, Ty.sl TurE (afterR b plan).2.1, Ty.int .i64 (afterR b plan).2.2.1, Ty.int .i64 (afterR b plan).2.2.2]) := by
  refine fn_intro Try.func25 rfl (by decide) Try.ntmps25 (by exact Nat.le_of_ble_eq_true rfl) fun w0 M0 => ?_
  have hs := small_right hr
  refine t_seq ?_
  refine t_region ?_
  refine r_box_agg rfl ?_
  refine asX rfl ?_
  refine asX rfl ?_
  refine asI rfl ?_
  refine asI rfl ?_
  refine r_nil ?_
  refine i_then ?_
  refine t_seq ?_
  refine t_seq ?_
  refine t_region ?_
  refine mvS rfl ?_
  refine r_len rfl rfl rfl ?_
  refine r_bin rfl rfl rfl ?_
  refine r_nil ?_
  refine i_then ?_
  refine t_cond_dec rfl (fun hc1 => ?_) (fun hc1 => ?_)
  ·
    refine t_seq ?_
    refine t_region ?_
    refine asX rfl ?_
    refine asX rfl ?_
    refine asI rfl ?_
    refine asI rfl ?_
    refine r_nil ?_
    refine i_then ?_
    refine t_ret ?_
    refine i_then_ret ?_
    refine i_rp4 rfl rfl rfl rfl rfl ?_ ?_ ?_ ?_
    all_goals skip
    all_goals first | exact ret_nil_eq (congrArg (fun z : List Int × List Tur × Int × Int => z.1) (afterR_2 hc1)) | exact ret_nil_eq (congrArg (fun z : List Int × List Tur × Int × Int => z.2.1) (afterR_2 hc1)) | exact ret_eq rfl rfl (congrArg (fun z : List Int × List Tur × Int × Int => Ty.int .i64 z.2.2.1) (afterR_2 hc1).symm) | exact ret_eq rfl rfl (congrArg (fun z : List Int × List Tur × Int × Int => Ty.int .i64 z.2.2.2) (afterR_2 hc1).symm)
  ·
    refine t_skip ?_
    refine i_then ?_
    refine t_seq ?_
    refine t_region ?_
    refine r_load_ppN rfl rfl rfl (by exact Nat.le_of_ble_eq_true rfl) ?_
    refine r_call (c_rFirst b hs) rfl rfl rfl rfl rfl ?_
    refine asS rfl ?_
    refine asI rfl ?_
    refine r_nil ?_
    refine i_then ?_
    refine t_seq ?_
    refine t_region ?_
    refine asX rfl ?_
    refine r_nil ?_
    refine i_then ?_
    refine t_seq ?_
    refine t_seq ?_
    refine t_region ?_
    refine asI rfl ?_
    refine r_nil ?_
    refine i_then ?_
    refine t_block ?_
    refine t_loop (fun (x : {x : Nat × Barn × List Tur // AIx b plan x.1 x.2.1 x.2.2}) => live [(1, Ty.sl TurE plan), (2, Ty.pp (barnTys b)), (8, Ty.sl I64 (innL x.1.2.1)), (9, Ty.int .i64 (sumUp b plan x.1.1)), (10, Ty.sl TurE x.1.2.2.reverse), (11, Ty.int .i64 (x.1.1 : Nat))] []) (fun x => plan.length - x.1.1) (⟨(0, b, []), aix0 b plan⟩) ?_ fun x => ?_
    · (refine Ent.mk' ?_ ?_ <;> (repeat' (first | exact allSub_zero | exact allTags_nil | refine allSub_succ' ?_ (Ty.sub_any _) | refine allSub_succ' ?_ (Ty.sub_refl _) | refine allSub_succ' ?_ ?_)))
      all_goals first | exact Ty.sub_sl (inn_map b) | exact Ty.sub_int (sumUp_zero b plan).symm | exact Ty.nil_sl
    ·
      have hxl := x.2.ix.len
      have hxe := x.2.ix.le
      have hxs := x.2.sum
      have hxk := x.2.kept.len
      have hil : (innL x.1.2.1).length = b.lots.length := by unfold innL; rw [List.length_map]; exact hxk
      refine t_seq ?_
      refine t_seq ?_
      refine t_region ?_
      refine mvI rfl ?_
      refine mvS rfl ?_
      refine r_len rfl rfl rfl ?_
      refine r_bin rfl rfl rfl ?_
      refine r_nil ?_
      refine i_then ?_
      refine t_cond_dec rfl (fun hc2 => ?_) (fun hc2 => ?_)
      ·
        refine t_skip ?_
        refine i_then ?_
        refine t_seq ?_
        refine t_block ?_
        refine t_seq ?_
        refine t_draw mixed rfl ?_
        refine r_load_ppN rfl rfl rfl (by exact Nat.le_of_ble_eq_true rfl) ?_
        refine mvS rfl ?_
        refine mvS rfl ?_
        refine mvI rfl ?_
        refine r_index_slN rfl rfl rfl rfl rfl rfl (by omega) ?_
        refine r_load_ppN rfl rfl rfl (by exact Nat.le_of_ble_eq_true rfl) ?_
        refine r_call (c_rTurned b hs (innL x.1.2.1) hil (nth plan x.1.1)) rfl rfl rfl rfl rfl ?_
        refine mvT rfl ?_
        refine r_extract rfl rfl ?_
        refine r_extract rfl rfl ?_
        refine asS rfl ?_
        refine asI rfl ?_
        refine r_nil ?_
        refine ⟨by kernel_rfl, ?_⟩
        refine i_then ?_
        refine t_seq ?_
        refine t_seq ?_
        refine t_region ?_
        refine mvI rfl ?_
        refine r_bin rfl rfl rfl ?_
        refine r_nil ?_
        refine i_then ?_
        refine t_cond_ndec rfl (fun hc3 => ?_) (fun hc3 => ?_)
        ·
          refine t_seq ?_
          refine t_region ?_
          refine mvI rfl ?_
          refine asX rfl ?_
          refine asX rfl ?_
          refine asI rfl ?_
          refine asI rfl ?_
          refine r_nil ?_
          refine i_then ?_
          refine t_ret ?_
          refine i_then_ret ?_
          refine i_block_ret ?_
          refine i_then_ret ?_
          refine i_then_ret ?_
          refine i_block_ret ?_
          refine i_then_ret ?_
          refine i_rp4 rfl rfl rfl rfl rfl ?_ ?_ ?_ ?_
          all_goals skip
          all_goals first | exact ret_nil_eq (congrArg (fun z : List Int × List Tur × Int × Int => z.1) (x.2.halt hc1 (by omega) hc3)) | exact ret_nil_eq (congrArg (fun z : List Int × List Tur × Int × Int => z.2.1) (x.2.halt hc1 (by omega) hc3)) | exact ret_eq rfl rfl (congrArg (fun z : List Int × List Tur × Int × Int => Ty.int .i64 z.2.2.1) (x.2.halt hc1 (by omega) hc3).symm) | exact ret_eq rfl rfl (congrArg (fun z : List Int × List Tur × Int × Int => Ty.int .i64 z.2.2.2) (x.2.halt hc1 (by omega) hc3).symm)
        ·
          refine t_skip ?_
          refine i_then ?_
          refine t_seq ?_
          obtain ⟨hz1, hz2⟩ := rt_zero x.2.kept hc3
          have hlt := (kept_turn x.2.kept hz1).2
          have hsb := sack_bound hr hlt
          refine t_draw mixed rfl ?_
          refine mvS rfl ?_
          refine mvI rfl ?_
          refine r_index_slN rfl rfl rfl rfl rfl rfl (by omega) ?_
          refine r_field_pp rfl rfl rfl rfl rfl (by decide) ?_
          refine r_load_pp rfl rfl rfl rfl ?_
          refine mvS rfl ?_
          refine mvS rfl ?_
          refine mvI rfl ?_
          refine r_index_slN rfl rfl rfl rfl rfl rfl (by omega) ?_
          refine r_field_pp rfl rfl rfl rfl rfl (by decide) ?_
          refine r_load_pp rfl rfl rfl rfl ?_
          refine r_index_sl rfl rfl rfl rfl rfl rfl hlt.1 (by omega) ?_
          refine r_load_pp rfl rfl rfl rfl ?_
          refine r_build rfl rfl (by exact List.cons_ne_nil _ _) rfl (by repeat (first | exact (Parts.nil : Parts _ _ [] _) | (show Parts _ _ ((_, _) :: _) _; apply Parts.one; (· exact (rfl : _ = Ty.int _ _)); (· exact rfl)))) (by exact (rfl : _ = some [_, _])) ?_
          refine r_buildRowN (E := TurE) (xs := [⟨(nth plan x.1.1).lot, nth (innL x.1.2.1) (nth plan x.1.1).lot.toNat⟩]) rfl rfl rfl rfl rfl (by decide) (by decide) (by repeat (first | exact (Parts.nil : Parts _ _ [] _) | (show Parts _ _ ((_, _) :: _) _; apply Parts.agg; (· exact (rfl : _ = Ty.agg _))))) (by exact rfl) rfl rfl ?_
          refine mvS rfl ?_
          refine r_append rfl rfl (by decide) rfl rfl rfl rfl rfl rfl (by decide) (by (simp <;> omega)) (by (simp <;> omega)) ?_
          refine asR rfl ?_
          refine r_nil ?_
          refine ⟨by kernel_rfl, ?_⟩
          refine i_then ?_
          refine t_seq ?_
          refine t_draw mixed rfl ?_
          refine mvI rfl ?_
          refine r_field_pp rfl rfl rfl rfl rfl (by decide) ?_
          refine r_load_pp rfl rfl rfl rfl ?_
          refine mvS rfl ?_
          refine mvI rfl ?_
          refine r_index_slN rfl rfl rfl rfl rfl rfl (by omega) ?_
          refine r_field_pp rfl rfl rfl rfl rfl (by decide) ?_
          refine r_load_pp rfl rfl rfl rfl ?_
          refine r_index_sl rfl rfl rfl rfl rfl rfl hlt.1 (by omega) ?_
          refine r_field_pp rfl rfl rfl rfl rfl (by decide) ?_
          refine r_load_pp rfl rfl rfl rfl ?_
          refine r_add rfl rfl (by omega) (by omega) ?_
          refine asI rfl ?_
          refine r_nil ?_
          refine ⟨by kernel_rfl, ?_⟩
          refine i_then ?_
          refine t_pub (tg := 53) [(10, Ty.sl TurE ([⟨(nth plan x.1.1).lot, nth (innL x.1.2.1) (nth plan x.1.1).lot.toNat⟩] ++ x.1.2.2.reverse))] (by decide) rfl ⟨pub_row rfl, trivial⟩ ?_
          refine t_region ?_
          refine mvS rfl ?_
          refine asS rfl ?_
          refine r_nil ?_
          refine i_block ?_
          refine i_then ?_
          refine t_region ?_
          refine mvI rfl ?_
          refine r_add rfl rfl (by omega) (by omega) ?_
          refine asI rfl ?_
          refine r_nil ?_
          refine i_round (⟨(x.1.1 + 1, (turnedB x.1.2.1 (nth plan x.1.1)).1, x.1.2.2 ++ [⟨(nth plan x.1.1).lot, (nth x.1.2.1.lots (nth plan x.1.1).lot.toNat).inn⟩]), x.2.next hr (by omega) (rt_zero x.2.kept hc3).1⟩) ?_ (by show plan.length - (x.1.1 + 1) < plan.length - x.1.1; omega)
          (refine Ent.mk' ?_ ?_ <;> (repeat' (first | exact allSub_zero | exact allTags_nil | refine allSub_succ' ?_ (Ty.sub_any _) | refine allSub_succ' ?_ (Ty.sub_refl _) | refine allSub_succ' ?_ ?_)))
          all_goals skip
          all_goals first | exact Ty.sub_sl hz2 | exact Ty.sub_int (sumUp_succ (by omega)).symm | exact Ty.sub_sl (back_step x.2.kept hlt)
      ·
        refine t_exit ?_
        refine i_then_exit ?_
        refine i_then_exit ?_
        refine i_block_exit rfl ?_
        refine i_then ?_
        refine t_seq ?_
        refine t_region ?_
        refine mvS rfl ?_
        refine mvS rfl ?_
        refine mvI rfl ?_
        refine asS rfl ?_
        refine asS rfl ?_
        refine asI rfl ?_
        refine asI rfl ?_
        refine r_nil ?_
        refine i_then ?_
        refine t_ret ?_
        refine i_rp4 rfl rfl rfl rfl rfl ?_ ?_ ?_ ?_
        all_goals skip
        all_goals first | exact ret_eq rfl rfl (congrArg (fun z : List Int × List Tur × Int × Int => Ty.int .i64 z.2.2.1) (afterR_0 hc1 (by omega) (x.2.ix.end (by omega))).symm) | exact ret_eq rfl rfl (congrArg (fun z : List Int × List Tur × Int × Int => Ty.sl I64 z.1) (afterR_0 hc1 (Nat.le_refl _) (x.2.ix.end (by omega))).symm) | exact ret_eq rfl rfl (congrArg (fun z : List Int × List Tur × Int × Int => Ty.sl TurE z.2.1) (afterR_0 hc1 (Nat.le_refl _) (x.2.ix.end (by omega))).symm) | exact ret_eq rfl rfl (congrArg (fun z : List Int × List Tur × Int × Int => Ty.int .i64 z.2.2.2) (afterR_0 hc1 (Nat.le_refl _) (x.2.ix.end (by omega))).symm)
set_option maxRecDepth 100000 in
theorem c_rMade (b : Barn) (hs : b.Small) (p : List Int) (hp : p.length ≤ b.lots.length) : Ctr Try.prog 27 [barnT b, Ty.sl I64 p] (Ty.bool (madeL b p)) := by
  refine fn_intro Try.func27 rfl (by decide) Try.ntmps27 (by exact Nat.le_of_ble_eq_true rfl) fun w0 M0 => ?_
  have hs2 := hs.lots
  refine t_seq ?_
  refine t_region ?_
  refine r_box_agg rfl ?_
  refine asB rfl ?_
  refine r_nil ?_
  refine i_then ?_
  refine t_seq ?_
  refine t_seq ?_
  refine t_region ?_
  refine asI rfl ?_
  refine r_nil ?_
  refine i_then ?_
  refine t_block ?_
  refine t_loop (fun (k : {k : Nat // ∀ j, j < k → wrongI b p j = false}) => live [(1, Ty.sl I64 p), (2, Ty.pp (barnTys b)), (5, Ty.int .i64 (k.1 : Nat))] []) (fun k => p.length - k.1) (⟨0, fun i hi => absurd hi (Nat.not_lt_zero i)⟩) ?_ fun k => ?_
  · (refine Ent.mk' ?_ ?_ <;> (repeat' (first | exact allSub_zero | exact allTags_nil | refine allSub_succ' ?_ (Ty.sub_any _) | refine allSub_succ' ?_ (Ty.sub_refl _))))
  ·
    refine t_seq ?_
    refine t_seq ?_
    refine t_region ?_
    refine mvI rfl ?_
    refine mvS rfl ?_
    refine r_len rfl rfl rfl ?_
    refine r_bin rfl rfl rfl ?_
    refine r_nil ?_
    refine i_then ?_
    refine t_cond_dec rfl (fun hc1 => ?_) (fun hc1 => ?_)
    ·
      refine t_skip ?_
      refine i_then ?_
      refine t_seq ?_
      refine t_block ?_
      refine t_seq ?_
      refine t_draw mixed rfl ?_
      refine r_field_pp rfl rfl rfl rfl rfl (by decide) ?_
      refine r_load_pp rfl rfl rfl rfl ?_
      refine mvI rfl ?_
      refine r_index_slN rfl rfl rfl rfl rfl rfl (by omega) ?_
      refine r_field_pp rfl rfl rfl rfl rfl (by decide) ?_
      refine r_load_pp rfl rfl rfl rfl ?_
      refine r_bin rfl rfl rfl ?_
      refine mvB rfl ?_
      apply r_guard (s := 19) rfl rfl rfl
      · intro hg; apply opT_of; (refine r_field_pp rfl rfl rfl rfl rfl (by decide) ?_); refine r_nil ?_; exact rfl
      · exact rfl
      · exact rfl
      apply r_guard (s := 19) rfl rfl rfl
      · intro hg; apply opT_strip (s := 20) rfl (by (rw [hg]; rfl)); apply opT_of; (refine r_load_pp rfl rfl rfl rfl ?_); refine r_nil ?_; exact rfl
      · exact rfl
      · exact rfl
      apply r_guard (s := 19) rfl rfl rfl
      · intro hg; apply opT_of; (refine mvI rfl ?_); refine r_nil ?_; exact rfl
      · exact rfl
      · exact rfl
      apply r_guard (s := 19) rfl rfl rfl
      · intro hg; apply opT_strip (s := 21) rfl (by (rw [hg]; rfl)); apply opT_strip (s := 22) rfl (by (rw [hg]; rfl)); apply opT_of; (refine r_index_slN rfl rfl rfl rfl rfl rfl (by omega) ?_); refine r_nil ?_; exact rfl
      · exact rfl
      · exact rfl
      apply r_guard (s := 19) rfl rfl rfl
      · intro hg; apply opT_strip (s := 23) rfl (by (rw [hg]; rfl)); apply opT_of; (refine r_field_pp rfl rfl rfl rfl rfl (by decide) ?_); refine r_nil ?_; exact rfl
      · exact rfl
      · exact rfl
      apply r_guard (s := 19) rfl rfl rfl
      · intro hg; apply opT_strip (s := 24) rfl (by (rw [hg]; rfl)); apply opT_of; (refine r_load_pp rfl rfl rfl rfl ?_); refine r_nil ?_; exact rfl
      · exact rfl
      · exact rfl
      apply r_guard (s := 19) rfl rfl rfl
      · intro hg; apply opT_of; (refine mvS rfl ?_); refine r_nil ?_; exact rfl
      · exact rfl
      · exact rfl
      apply r_guard (s := 19) rfl rfl rfl
      · intro hg; apply opT_of; (refine mvI rfl ?_); refine r_nil ?_; exact rfl
      · exact rfl
      · exact rfl
      apply r_guard (s := 19) rfl rfl rfl
      · intro hg; apply opT_strip (s := 26) rfl (by (rw [hg]; rfl)); apply opT_strip (s := 27) rfl (by (rw [hg]; rfl)); apply opT_of; (refine r_index_slN rfl rfl rfl rfl rfl rfl (by omega) ?_); refine r_nil ?_; exact rfl
      · exact rfl
      · exact rfl
      apply r_guard (s := 19) rfl rfl rfl
      · intro hg; apply opT_strip (s := 28) rfl (by (rw [hg]; rfl)); apply opT_of; (refine r_load_pp rfl rfl rfl rfl ?_); refine r_nil ?_; exact rfl
      · exact rfl
      · exact rfl
      apply r_guard (s := 19) rfl rfl rfl
      · intro hg; apply opT_strip (s := 25) rfl (by (rw [hg]; rfl)); apply opT_strip (s := 29) rfl (by (rw [hg]; rfl)); apply opT_of; (refine r_bin rfl rfl rfl ?_); refine r_nil ?_; exact rfl
      · exact rfl
      · exact rfl
      refine r_and rfl rfl ?_
      refine r_nil ?_
      refine ⟨by kernel_rfl, ?_⟩
      refine i_then ?_
      refine t_cond rfl (fun hc2 => ?_) (fun hc2 => ?_)
      ·
        refine t_seq ?_
        refine t_region ?_
        refine asB rfl ?_
        refine r_nil ?_
        refine i_then ?_
        refine t_ret ?_
        refine i_block_ret ?_
        refine i_then_ret ?_
        refine i_then_ret ?_
        refine i_block_ret ?_
        refine i_then_ret ?_
        refine i_rp1 rfl rfl ?_
        all_goals skip
        all_goals exact ret_eq rfl rfl (congrArg Ty.bool (by unfold madeL; rw [rng_at (q := wrongI b p) (k := k.1) (by omega) hc2]; rfl))
      ·
        refine t_skip ?_
        refine i_block ?_
        refine i_then ?_
        refine t_region ?_
        refine mvI rfl ?_
        refine r_add rfl rfl (by omega) (by omega) ?_
        refine asI rfl ?_
        refine r_nil ?_
        refine i_round (⟨k.1 + 1, rng_ext k.2 hc2⟩) ?_ (by show p.length - (k.1 + 1) < p.length - k.1; omega)
        (refine Ent.mk' ?_ ?_ <;> (repeat' (first | exact allSub_zero | exact allTags_nil | refine allSub_succ' ?_ (Ty.sub_any _) | refine allSub_succ' ?_ (Ty.sub_refl _))))
        all_goals skip
    ·
      refine t_exit ?_
      refine i_then_exit ?_
      refine i_then_exit ?_
      refine i_block_exit rfl ?_
      refine i_then ?_
      refine t_seq ?_
      refine t_region ?_
      refine asB rfl ?_
      refine r_nil ?_
      refine i_then ?_
      refine t_ret ?_
      refine i_rp1 rfl rfl ?_
      all_goals skip
      all_goals exact ret_eq rfl rfl (congrArg Ty.bool (by unfold madeL; rw [rng_neg (q := wrongI b p) k.2 (by omega)]; rfl))
set_option maxRecDepth 100000 in
theorem c_plans (l : List Tur) (h : l.length ≤ 400000000) : Ctr Try.prog 26 [Ty.sl TurE l] (Ty.sl TurE l) := by
  refine fn_intro Try.func26 rfl (by decide) Try.ntmps26 (by exact Nat.le_of_ble_eq_true rfl) fun w0 M0 => ?_
  refine t_seq ?_
  refine t_region ?_
  refine asX rfl ?_
  refine r_nil ?_
  refine i_then ?_
  refine t_seq ?_
  refine t_region ?_
  refine asX rfl ?_
  refine r_nil ?_
  refine i_then ?_
  refine t_seq ?_
  refine t_seq ?_
  refine t_region ?_
  refine mvS rfl ?_
  refine r_len rfl rfl rfl ?_
  refine mvI rfl ?_
  refine r_nil ?_
  refine i_then ?_
  refine t_block ?_
  refine t_loop (fun (k : {k : Nat // k ≤ l.length}) => live [(3, Ty.row TurE 65 16 (l.take k.1)), (6, Ty.sl TurE l), (7, Ty.int .i64 l.length), (8, Ty.int .i64 (k.1 : Nat))] []) (fun k => l.length - k.1) (⟨0, by omega⟩) ?_ fun k => ?_
  · (refine Ent.mk' ?_ ?_ <;> (repeat' (first | exact allSub_zero | exact allTags_nil | refine allSub_succ' ?_ (Ty.sub_any _) | refine allSub_succ' ?_ (Ty.sub_refl _) | refine allSub_succ' ?_ Ty.nil_row)))
    all_goals trace_state
  ·
    have hk := k.2
    refine t_seq ?_
    refine t_region ?_
    refine r_bin rfl rfl rfl ?_
    refine r_nil ?_
    refine i_then ?_
    refine t_seq ?_
    refine t_cond_dec rfl (fun hc1 => ?_) (fun hc1 => ?_)
    ·
      refine t_skip ?_
      refine i_then ?_
      refine t_seq ?_
      refine t_block ?_
      refine t_seq ?_
      refine t_region ?_
      refine r_index_slN rfl rfl rfl rfl rfl rfl (by omega) ?_
      refine r_load_ppN rfl rfl rfl (by exact Nat.le_of_ble_eq_true rfl) ?_
      refine r_alloc rfl (by exact List.cons_ne_nil _ _) rfl ?_
      refine r_storeN rfl rfl (by decide) rfl rfl rfl rfl rfl rfl ?_
      refine r_nil ?_
      refine i_then ?_
      refine t_region ?_
      refine mvR rfl ?_
      refine r_load_ptrN rfl rfl (by decide) rfl rfl (by exact Nat.le_of_ble_eq_true rfl) ?_
      refine r_buildSlice (E := TurE) (xs := [nth l k.1]) rfl rfl rfl rfl rfl (by decide) (by decide) (by repeat (first | exact (Parts.nil : Parts _ _ [] _) | (show Parts _ _ ((_, _) :: _) _; apply Parts.agg; (· exact (rfl : _ = Ty.agg _))))) (by exact rfl) rfl ?_
      refine r_append rfl rfl (by decide) rfl rfl rfl rfl rfl rfl (by decide) (by (simp <;> omega)) (by (simp <;> omega)) ?_
      refine asR rfl ?_
      refine r_nil ?_
      refine i_block ?_
      refine i_then ?_
      refine t_region ?_
      refine r_add rfl rfl (by omega) (by omega) ?_
      refine mvI rfl ?_
      refine r_nil ?_
      refine i_round (⟨k.1 + 1, by omega⟩) ?_ (by show l.length - (k.1 + 1) < l.length - k.1; omega)
      (refine Ent.mk' ?_ ?_ <;> (repeat' (first | exact allSub_zero | exact allTags_nil | refine allSub_succ' ?_ (Ty.sub_any _) | refine allSub_succ' ?_ (Ty.sub_refl _) | refine allSub_succ' ?_ ?_)))
      all_goals exact Ty.sub_row (take_nth (by omega)).symm
    ·
      refine t_exit ?_
      refine i_then_exit ?_
      refine i_then_exit ?_
      refine i_block_exit rfl ?_
      refine i_then ?_
      refine t_seq ?_
      refine t_region ?_
      refine mvR rfl ?_
      refine asR rfl ?_
      refine r_nil ?_
      refine i_then ?_
      refine t_ret ?_
      refine i_rp1 rfl rfl ?_
      all_goals skip
      all_goals exact ret_row_eq (by decide) (List.take_of_length_le (by have := k.2; omega))
end Go.Proofs.Ytpnndljmhpepgaa

namespace Go.Proofs.Ytpnndljmhpepgaa
open Go Go.T
variable {b : Barn}
theorem rt_cases {p : List Int} (hp : p.length = b.lots.length) (t : Tur) : (noT b p t = false ∧ rturn b p t = (p.set t.lot.toNat t.aim, 0)) ∨ (noT b p t = true ∧ (rturn b p t).2 ≠ 0) := by
  cases h1 : (offB t.lot 0 (b.lots.length - 1) || offB t.aim 0 (b.sizes.length - 1)) with
  | true =>
    refine .inr ⟨?_, by rw [rturn_1 h1]; decide⟩
    cases hn : noT b p t with
    | true => rfl
    | false =>
      obtain ⟨a1, a2, _, _⟩ := noT_false.1 hn
      rw [Bool.or_eq_true] at h1
      have e1 : offB t.lot 0 (b.lots.length - 1) = false := offB_false.2 (by omega)
      have e2 : offB t.aim 0 (b.sizes.length - 1) = false := offB_false.2 (by omega)
      rw [e1, e2] at h1; rcases h1 with h | h <;> cases h
  | false =>
    have hr := off_rng h1
    by_cases h2 : t.aim ∈ p
    · refine .inr ⟨?_, by rw [rturn_5 h1 h2]; decide⟩
      cases hn : noT b p t with
      | true => rfl
      | false => exact absurd h2 (noT_false.1 hn).2.2.1
    · by_cases h3 : nth b.sizes t.aim.toNat < (nth b.lots t.lot.toNat).sacks
      · refine .inr ⟨?_, by rw [rturn_9 h1 h2 h3]; decide⟩
        cases hn : noT b p t with
        | true => rfl
        | false => have := (noT_false.1 hn).2.2.2; omega
      · exact .inl ⟨noT_false.2 ⟨by omega, hr.2, h2, by omega⟩, rturn_0 h1 h2 h3⟩
theorem lawGo_append : ∀ (l : List Tur) (p : List Int) (l' : List Tur), lawGo b p (l ++ l') = (lawGo b p l).bind fun q => lawGo b q l'
  | [], p, l' => rfl
  | t :: l, p, l' => by
    show (if noT b p t = true then none else lawGo b (p.set t.lot.toNat t.aim) (l ++ l')) = Option.bind (if noT b p t = true then none else lawGo b (p.set t.lot.toNat t.aim) l) _
    by_cases h : noT b p t = true
    · rw [if_pos h, if_pos h]; rfl
    · rw [if_neg h, if_neg h, lawGo_append l]
theorem lawGo_snoc {l : List Tur} {p q : List Int} {t : Tur} (h : lawGo b p l = some q) (hn : noT b q t = false) : lawGo b p (l ++ [t]) = some (q.set t.lot.toNat t.aim) := by
  rw [lawGo_append, h]
  show (if noT b q t = true then none else some (q.set t.lot.toNat t.aim)) = _
  rw [if_neg (by rw [hn]; decide)]
theorem lawGo_inv {l : List Tur} {p r : List Int} {t : Tur} (h : lawGo b p (l ++ [t]) = some r) : ∃ q, lawGo b p l = some q ∧ noT b q t = false ∧ r = q.set t.lot.toNat t.aim := by
  rw [lawGo_append] at h
  cases hq : lawGo b p l with
  | none => rw [hq] at h; cases h
  | some q =>
    rw [hq] at h
    have h : (if noT b q t = true then none else some (q.set t.lot.toNat t.aim)) = some r := h
    cases hn : noT b q t with
    | true => rw [hn, if_pos rfl] at h; cases h
    | false => rw [hn, if_neg (by decide)] at h; injection h with h; exact ⟨q, rfl, hn, h.symm⟩
structure RState where
  all : List (List Int)
  turns : List Int
  sacks : List Int
  deriving Inhabited
structure RS (b : Barn) (x : RState) : Prop where
  lt : x.turns.length = x.all.length
  ls : x.sacks.length = x.all.length
  pos : 0 < x.all.length
  start : nth x.all 0 = innL b
  nodup : x.all.Nodup
  len : ∀ p ∈ x.all, p.length = b.lots.length
  bins : ∀ p ∈ x.all, ∀ k ∈ p, 0 ≤ k ∧ k < 7
  walk : ∀ i, i < x.all.length → (∃ l, lawGo b (innL b) l = some (nth x.all i) ∧ (l.length : Int) = nth x.turns i) ∧ ∃ l, lawGo b (innL b) l = some (nth x.all i) ∧ costL (sackC b) l = nth x.sacks i
  cap : ∀ i, i < x.all.length → (0 ≤ nth x.turns i ∧ nth x.turns i ≤ i) ∧ 0 ≤ nth x.sacks i ∧ nth x.sacks i ≤ 300 * i
theorem nthA_snoc {α : Type} [Inhabited α] {l : List α} {x : α} {j : Nat} (hj : j < l.length + 1) : nth (l ++ [x]) j = if j = l.length then x else nth l j := by
  unfold nth
  by_cases e : j = l.length
  · subst e; rw [if_pos rfl, List.getD_eq_getElem?_getD, List.getElem?_append_right (by omega)]; simp
  · rw [if_neg e, List.getD_eq_getElem?_getD, List.getElem?_append_left (by omega), ← List.getD_eq_getElem?_getD]
theorem rs0 (hr : b.Right) : RS b ⟨[innL b], [0], [0]⟩ := by
  have hz : ∀ i, i < 1 → i = 0 := fun i h => by omega
  refine ⟨rfl, rfl, Nat.zero_lt_one, rfl, by simp, fun p hp => ?_, fun p hp k hk => ?_, fun i hi => ?_, fun i hi => ?_⟩
  · rw [List.mem_singleton.1 hp]; unfold innL; rw [List.length_map]
  · rw [List.mem_singleton.1 hp] at hk
    obtain ⟨l, hl, rfl⟩ := List.mem_map.1 hk
    have h1 := hr.inn l hl
    have h2 := hr.bins
    omega
  · rw [hz i hi]; exact ⟨⟨[], rfl, rfl⟩, [], rfl, rfl⟩
  · rw [hz i hi]; exact ⟨⟨Int.le_refl _, Int.le_refl _⟩, Int.le_refl _, by show (0 : Int) ≤ 300 * 0; decide⟩
variable {x : RState} {i : Nat} {t : Tur}
theorem RS.turn (h : RS b x) (hr : b.Right) (hi : i < x.all.length) (ho : (rturn b (nth x.all i) t).2 = 0) : noT b (nth x.all i) t = false ∧ (rturn b (nth x.all i) t).1 = (nth x.all i).set t.lot.toNat t.aim ∧ (0 ≤ t.lot ∧ t.lot < b.lots.length) ∧ (0 ≤ t.aim ∧ t.aim < b.sizes.length) ∧ 1 ≤ sackC b t ∧ sackC b t ≤ 300 := by
  have hl := h.len _ (nth_mem hi)
  rcases rt_cases hl t with ⟨h1, h2⟩ | ⟨_, h2⟩
  · obtain ⟨a1, a2, _, _⟩ := noT_false.1 h1
    have h3 : 0 ≤ t.lot ∧ t.lot < b.lots.length := by omega
    exact ⟨h1, by rw [h2], h3, a2, sack_bound hr h3⟩
  · exact absurd ho h2
theorem RS.add (h : RS b x) (hr : b.Right) (hi : i < x.all.length) (ho : (rturn b (nth x.all i) t).2 = 0) (hn : (rturn b (nth x.all i) t).1 ∉ x.all) : RS b ⟨x.all ++ [(rturn b (nth x.all i) t).1], x.turns ++ [nth x.turns i + 1], x.sacks ++ [nth x.sacks i + sackC b t]⟩ := by
  obtain ⟨h1, h2, h3, h4, h5⟩ := h.turn hr hi ho
  have hb := hr.bins
  have hp := h.pos
  refine ⟨by simp [h.lt], by simp [h.ls], by simp, ?_, ?_, fun p hp => ?_, fun p hp k hk => ?_, fun j hj => ?_, fun j hj => ?_⟩
  · show nth (x.all ++ [(rturn b (nth x.all i) t).1]) 0 = _
    rw [nthA_snoc (by omega), if_neg (by omega)]; exact h.start
  · rw [List.nodup_append]
    exact ⟨h.nodup, by simp, fun p hp q hq e => hn (by rw [List.mem_singleton.1 hq] at e; rw [← e]; exact hp)⟩
  · rcases List.mem_append.1 hp with hp | hp
    · exact h.len p hp
    · rw [List.mem_singleton.1 hp, h2, List.length_set]; exact h.len _ (nth_mem hi)
  · rcases List.mem_append.1 hp with hp | hp
    · exact h.bins p hp k hk
    · rw [List.mem_singleton.1 hp, h2] at hk
      rcases List.mem_or_eq_of_mem_set hk with hk | hk
      · exact h.bins _ (nth_mem hi) k hk
      · omega
  · have hj : j < x.all.length + 1 := by simpa using hj
    show (∃ l, lawGo b (innL b) l = some (nth (x.all ++ [(rturn b (nth x.all i) t).1]) j) ∧ (l.length : Int) = nth (x.turns ++ [nth x.turns i + 1]) j) ∧ ∃ l, lawGo b (innL b) l = some (nth (x.all ++ [(rturn b (nth x.all i) t).1]) j) ∧ costL (sackC b) l = nth (x.sacks ++ [nth x.sacks i + sackC b t]) j
    rw [nthA_snoc hj, nthA_snoc (by rw [h.lt]; exact hj), nthA_snoc (by rw [h.ls]; exact hj), h.lt, h.ls]
    by_cases e : j = x.all.length
    · rw [if_pos e, if_pos e, if_pos e, h2]
      obtain ⟨⟨l, a1, a2⟩, l', a3, a4⟩ := h.walk i hi
      exact ⟨⟨l ++ [t], lawGo_snoc a1 h1, by rw [List.length_append, List.length_singleton]; omega⟩, l' ++ [t], lawGo_snoc a3 h1, by rw [costL_append, costL_one, a4]⟩
    · rw [if_neg e, if_neg e, if_neg e]; exact h.walk j (by omega)
  · have hj : j < x.all.length + 1 := by simpa using hj
    show (0 ≤ nth (x.turns ++ [nth x.turns i + 1]) j ∧ nth (x.turns ++ [nth x.turns i + 1]) j ≤ j) ∧ 0 ≤ nth (x.sacks ++ [nth x.sacks i + sackC b t]) j ∧ nth (x.sacks ++ [nth x.sacks i + sackC b t]) j ≤ 300 * j
    rw [nthA_snoc (by rw [h.lt]; exact hj), nthA_snoc (by rw [h.ls]; exact hj), h.lt, h.ls]
    by_cases e : j = x.all.length
    · rw [if_pos e, if_pos e]
      have := h.cap i hi
      omega
    · rw [if_neg e, if_neg e]; exact h.cap j (by omega)
theorem RS.low (h : RS b x) (hr : b.Right) (hi : i < x.all.length) (ho : (rturn b (nth x.all i) t).2 = 0) {a : Nat} (_ : a < x.all.length) (e : nth x.all a = (rturn b (nth x.all i) t).1) : RS b ⟨x.all, x.turns.set a (min (nth x.turns i + 1) (nth x.turns a)), x.sacks.set a (min (nth x.sacks i + sackC b t) (nth x.sacks a))⟩ := by
  obtain ⟨h1, h2, h3, h4, h5⟩ := h.turn hr hi ho
  refine ⟨by rw [List.length_set]; exact h.lt, by rw [List.length_set]; exact h.ls, h.pos, h.start, h.nodup, h.len, h.bins, fun j hj => ?_, fun j hj => ?_⟩
  · have hj : j < x.all.length := hj
    show (∃ l, lawGo b (innL b) l = some (nth x.all j) ∧ (l.length : Int) = nth (x.turns.set a _) j) ∧ ∃ l, lawGo b (innL b) l = some (nth x.all j) ∧ costL (sackC b) l = nth (x.sacks.set a _) j
    rw [nthA_set (by rw [h.lt]; exact hj), nthA_set (by rw [h.ls]; exact hj)]
    by_cases c : a = j
    · subst c
      rw [if_pos rfl, if_pos rfl]
      obtain ⟨⟨l, a1, a2⟩, l', a3, a4⟩ := h.walk i hi
      obtain ⟨⟨m, b1, b2⟩, m', b3, b4⟩ := h.walk a hj
      rw [e, h2]
      rw [e, h2] at b1 b3
      constructor
      · rcases Int.le_total (nth x.turns i + 1) (nth x.turns a) with c | c
        · exact ⟨l ++ [t], lawGo_snoc a1 h1, by rw [List.length_append, List.length_singleton]; omega⟩
        · exact ⟨m, b1, by omega⟩
      · rcases Int.le_total (nth x.sacks i + sackC b t) (nth x.sacks a) with c | c
        · exact ⟨l' ++ [t], lawGo_snoc a3 h1, by rw [costL_append, costL_one, a4]; omega⟩
        · exact ⟨m', b3, by omega⟩
    · rw [if_neg c, if_neg c]; exact h.walk j hj
  · have hj : j < x.all.length := hj
    show (0 ≤ nth (x.turns.set a _) j ∧ nth (x.turns.set a _) j ≤ j) ∧ 0 ≤ nth (x.sacks.set a _) j ∧ nth (x.sacks.set a _) j ≤ 300 * j
    rw [nthA_set (by rw [h.lt]; exact hj), nthA_set (by rw [h.ls]; exact hj)]
    have c1 := h.cap j hj
    have c2 := h.cap i hi
    by_cases c : a = j
    · subst c; rw [if_pos rfl, if_pos rfl]; omega
    · rw [if_neg c, if_neg c]; exact c1
theorem RS.few (h : RS b x) (hr : b.Right) : x.all.length ≤ 117649 := by
  have h6 := hr.lots
  have h1 := nodup_sub h.nodup (L := allL b.lots.length) fun p hp => mem_allL (h.len p hp) (h.bins p hp)
  rw [allL_len] at h1
  exact Nat.le_trans h1 (Nat.le_trans (Nat.pow_le_pow_right (by decide) h6) (by decide))
theorem RS.sums (h : RS b x) : 0 ≤ x.turns.sum ∧ 0 ≤ x.sacks.sum := by
  constructor
  · refine sum_nonneg' _ fun y hy => ?_
    obtain ⟨j, hj, rfl⟩ := mem_nth hy
    exact (h.cap j (by rw [← h.lt]; exact hj)).1.1
  · refine sum_nonneg' _ fun y hy => ?_
    obtain ⟨j, hj, rfl⟩ := mem_nth hy
    exact (h.cap j (by rw [← h.ls]; exact hj)).2.1
def muQ (x : RState) : Nat := (117649 - x.all.length) * 40000000 + (x.turns.sum + x.sacks.sum).toNat
theorem sum_set_int : ∀ (l : List Int) (i : Nat) (v : Int), i < l.length → (l.set i v).sum = l.sum - nth l i + v
  | [], i, v, h => by cases h
  | y :: l, 0, v, _ => by
    show (v :: l).sum = (y :: l).sum - y + v
    rw [List.sum_cons, List.sum_cons]; omega
  | y :: l, i + 1, v, h => by
    show (y :: l.set i v).sum = (y :: l).sum - nth l i + v
    rw [List.sum_cons, List.sum_cons, sum_set_int l i v (by simpa using h)]; omega
theorem RS.add_mu (h : RS b x) (hr : b.Right) (hi : i < x.all.length) (ho : (rturn b (nth x.all i) t).2 = 0) (hn : (rturn b (nth x.all i) t).1 ∉ x.all) : muQ ⟨x.all ++ [(rturn b (nth x.all i) t).1], x.turns ++ [nth x.turns i + 1], x.sacks ++ [nth x.sacks i + sackC b t]⟩ < muQ x := by
  have h1 := (h.add hr hi ho hn).few hr
  have h2 := h.sums
  have h3 := h.cap i hi
  have h4 := (h.turn hr hi ho).2.2.2.2
  have h1 : x.all.length + 1 ≤ 117649 := by simpa using h1
  unfold muQ
  simp only [List.length_append, List.length_singleton, List.sum_append, List.sum_cons, List.sum_nil]
  omega
theorem RS.low_mu (h : RS b x) {a : Nat} (ha : a < x.all.length) {n m : Int} (hn : 0 ≤ n) (hm : 0 ≤ m) (hc : n < nth x.turns a ∨ m < nth x.sacks a) : muQ ⟨x.all, x.turns.set a (min n (nth x.turns a)), x.sacks.set a (min m (nth x.sacks a))⟩ < muQ x := by
  have h2 := h.sums
  have h3 := h.cap a ha
  have e1 := sum_set_int x.turns a (min n (nth x.turns a)) (by rw [h.lt]; exact ha)
  have e2 := sum_set_int x.sacks a (min m (nth x.sacks a)) (by rw [h.ls]; exact ha)
  have k1 : 0 ≤ (x.turns.set a (min n (nth x.turns a))).sum := by
    refine sum_nonneg' _ fun y hy => ?_
    rcases List.mem_or_eq_of_mem_set hy with hy | hy
    · obtain ⟨j, hj, rfl⟩ := mem_nth hy
      exact (h.cap j (by rw [← h.lt]; exact hj)).1.1
    · omega
  have k2 : 0 ≤ (x.sacks.set a (min m (nth x.sacks a))).sum := by
    refine sum_nonneg' _ fun y hy => ?_
    rcases List.mem_or_eq_of_mem_set hy with hy | hy
    · obtain ⟨j, hj, rfl⟩ := mem_nth hy
      exact (h.cap j (by rw [← h.ls]; exact hj)).2.1
    · omega
  unfold muQ
  show (117649 - x.all.length) * 40000000 + ((x.turns.set a _).sum + (x.sacks.set a _).sum).toNat < _
  omega
def ClosedAt (b : Barn) (x : RState) (i : Nat) (t : Tur) : Prop := (rturn b (nth x.all i) t).2 = 0 → ∃ a, a < x.all.length ∧ nth x.all a = (rturn b (nth x.all i) t).1 ∧ nth x.turns a ≤ nth x.turns i + 1 ∧ nth x.sacks a ≤ nth x.sacks i + sackC b t
def SeenT (b : Barn) (i lot to j : Nat) (t : Tur) : Prop := (0 ≤ t.lot ∧ t.lot < b.lots.length) ∧ (0 ≤ t.aim ∧ t.aim < b.sizes.length) ∧ (j < i ∨ (j = i ∧ (t.lot < lot ∨ (t.lot = lot ∧ t.aim < to))))
structure PassI (b : Barn) (x0 x : RState) (ch : Bool) (i lot to : Nat) : Prop where
  rs : RS b x
  less : ch = true → muQ x < muQ x0
  same : ch = false → x = x0
  ok : ch = false → ∀ j t, j < x0.all.length → SeenT b i lot to j t → ClosedAt b x0 j t
theorem pass0 (h : RS b x) : PassI b x x false 0 0 0 := ⟨h, (fun h => by cases h), fun _ => rfl, fun _ j t _ ⟨_, _, hs⟩ => by omega⟩
variable {x0 : RState} {ch : Bool} {lot to : Nat}
theorem PassI.skip (h : PassI b x0 x ch i lot to) (hn : ¬ (rturn b (nth x.all i) ⟨lot, to⟩).2 = 0) : PassI b x0 x ch i lot (to + 1) := by
  refine ⟨h.rs, h.less, h.same, fun hc j t hj ⟨s1, s2, s3⟩ => ?_⟩
  by_cases c : j = i ∧ t.lot = lot ∧ t.aim = to
  · obtain ⟨c1, c2, c3⟩ := c
    have et : t = ⟨lot, to⟩ := by cases t; simp only [Tur.mk.injEq] at *; exact ⟨c2, c3⟩
    have ex := h.same hc
    rw [et, c1, ← ex]
    exact fun h0 => absurd h0 hn
  · exact h.ok hc j t hj ⟨s1, s2, by omega⟩
theorem PassI.add (h : PassI b x0 x ch i lot to) (hr : b.Right) (hi : i < x.all.length) (ho : (rturn b (nth x.all i) ⟨lot, to⟩).2 = 0) (hn : (rturn b (nth x.all i) ⟨lot, to⟩).1 ∉ x.all) : PassI b x0 ⟨x.all ++ [(rturn b (nth x.all i) ⟨lot, to⟩).1], x.turns ++ [nth x.turns i + 1], x.sacks ++ [nth x.sacks i + sackC b ⟨lot, to⟩]⟩ true i lot (to + 1) := by
  have h1 := h.rs.add_mu hr hi ho hn
  refine ⟨h.rs.add hr hi ho hn, fun _ => ?_, (fun h => by cases h), fun h => by cases h⟩
  cases hc : ch with
  | true => have := h.less hc; omega
  | false => rw [h.same hc] at h1 ⊢; exact h1
theorem PassI.low (h : PassI b x0 x ch i lot to) (hr : b.Right) (hi : i < x.all.length) (ho : (rturn b (nth x.all i) ⟨lot, to⟩).2 = 0) {a : Nat} (ha : a < x.all.length) (e : nth x.all a = (rturn b (nth x.all i) ⟨lot, to⟩).1) (hc : nth x.turns i + 1 < nth x.turns a ∨ nth x.sacks i + sackC b ⟨lot, to⟩ < nth x.sacks a) : PassI b x0 ⟨x.all, x.turns.set a (min (nth x.turns i + 1) (nth x.turns a)), x.sacks.set a (min (nth x.sacks i + sackC b ⟨lot, to⟩) (nth x.sacks a))⟩ true i lot (to + 1) := by
  have h2 := h.rs.cap i hi
  have h3 := (h.rs.turn hr hi ho).2.2.2.2
  have h1 := h.rs.low_mu ha (n := nth x.turns i + 1) (m := nth x.sacks i + sackC b ⟨lot, to⟩) (by omega) (by omega) hc
  refine ⟨h.rs.low hr hi ho ha e, fun _ => ?_, (fun h => by cases h), fun h => by cases h⟩
  cases hc : ch with
  | true => have := h.less hc; omega
  | false => rw [h.same hc] at h1 ⊢; exact h1
theorem PassI.known (h : PassI b x0 x ch i lot to) {a : Nat} (ha : a < x.all.length) (e : nth x.all a = (rturn b (nth x.all i) ⟨lot, to⟩).1) (h1 : ¬ nth x.turns i + 1 < nth x.turns a) (h2 : ¬ nth x.sacks i + sackC b ⟨lot, to⟩ < nth x.sacks a) : PassI b x0 x ch i lot (to + 1) := by
  refine ⟨h.rs, h.less, h.same, fun hc j t hj ⟨s1, s2, s3⟩ => ?_⟩
  by_cases c : j = i ∧ t.lot = lot ∧ t.aim = to
  · obtain ⟨c1, c2, c3⟩ := c
    have et : t = ⟨lot, to⟩ := by cases t; simp only [Tur.mk.injEq] at *; exact ⟨c2, c3⟩
    have ex := h.same hc
    rw [et, c1, ← ex]
    exact fun _ => ⟨a, ha, e, by omega, by omega⟩
  · exact h.ok hc j t hj ⟨s1, s2, by omega⟩
theorem PassI.lots (h : PassI b x0 x ch i lot to) (hto : b.sizes.length ≤ to) : PassI b x0 x ch i (lot + 1) 0 :=
  ⟨h.rs, h.less, h.same, fun hc j t hj ⟨s1, s2, s3⟩ => h.ok hc j t hj ⟨s1, s2, by omega⟩⟩
theorem PassI.next (h : PassI b x0 x ch i lot to) (hl : b.lots.length ≤ lot) : PassI b x0 x ch (i + 1) 0 0 :=
  ⟨h.rs, h.less, h.same, fun hc j t hj ⟨s1, s2, s3⟩ => h.ok hc j t hj ⟨s1, s2, by omega⟩⟩
structure RDone (b : Barn) (x : RState) : Prop where
  rs : RS b x
  closed : ∀ j t, j < x.all.length → ClosedAt b x j t
theorem PassI.done (h : PassI b x0 x false i 0 0) (hr : b.Right) (hi : x.all.length ≤ i) : RDone b x := by
  have e := h.same rfl
  refine ⟨h.rs, fun j t hj ho => ?_⟩
  obtain ⟨_, _, h3, h4, _⟩ := h.rs.turn hr hj ho
  have := h.ok rfl j t (by rw [← e]; exact hj) ⟨h3, h4, .inl (by omega)⟩
  rw [← e] at this
  exact this ho
theorem RDone.least (h : RDone b x) : ∀ (l : List Tur) (p : List Int), lawGo b (innL b) l = some p → ∃ a, a < x.all.length ∧ nth x.all a = p ∧ nth x.turns a ≤ l.length ∧ nth x.sacks a ≤ costL (sackC b) l := by
  refine snoc_ind (fun p hp => ?_) fun l t ih p hp => ?_
  · injection hp with hp
    obtain ⟨⟨m, a1, a2⟩, m', a3, a4⟩ := h.rs.walk 0 h.rs.pos
    have := h.rs.cap 0 h.rs.pos
    exact ⟨0, h.rs.pos, h.rs.start.trans hp, by rw [List.length_nil]; omega, by rw [costL_nil]; omega⟩
  · obtain ⟨q, h1, h2, rfl⟩ := lawGo_inv hp
    obtain ⟨a, a1, a2, a3, a4⟩ := ih q h1
    have hl := h.rs.len _ (nth_mem a1)
    rw [← a2] at h2 ⊢
    rcases rt_cases hl t with ⟨_, e⟩ | ⟨e, _⟩
    · obtain ⟨c, c1, c2, c3, c4⟩ := h.closed a t a1 (by rw [e])
      refine ⟨c, c1, by rw [c2, e], ?_, ?_⟩
      · rw [List.length_append, List.length_singleton]; omega
      · rw [costL_append, costL_one]; omega
    · rw [h2] at e; cases e
theorem RDone.count (h : RDone b x) (hr : b.Right) : (x.all.length : Int) = placesV b := by
  have h6 := hr.lots
  obtain ⟨L, h1, h2, h3⟩ := reached hr
  have hn : (L.map fun q => q.1.take b.lots.length).Nodup := by
    rw [List.nodup_iff_pairwise_ne, List.pairwise_map]
    refine (List.nodup_iff_pairwise_ne.1 h1).imp_of_mem fun {p q} hp hq hne e => hne ?_
    obtain ⟨l, hl⟩ := (h2 p).1 hp
    obtain ⟨l', hl'⟩ := (h2 q).1 hq
    apply Subtype.ext
    rw [← List.take_append_drop b.lots.length p.1, ← List.take_append_drop b.lots.length q.1, e, go_tail l hl, go_tail l' hl']
  have e1 := nodup_sub hn (L := x.all) fun p hp => by
    obtain ⟨q, hq, rfl⟩ := List.mem_map.1 hp
    obtain ⟨l, hl⟩ := (h2 q).1 hq
    obtain ⟨a, a1, a2, _⟩ := h.least l _ (by rw [law_go h6, hl]; rfl)
    have a2 : nth x.all a = q.1.take b.lots.length := a2
    show q.1.take b.lots.length ∈ x.all
    rw [← a2]; exact nth_mem a1
  have e2 := nodup_sub h.rs.nodup (L := L.map fun q => q.1.take b.lots.length) fun p hp => by
    obtain ⟨j, hj, rfl⟩ := mem_nth hp
    obtain ⟨⟨l, a1, _⟩, _⟩ := h.rs.walk j hj
    rw [law_go h6] at a1
    cases hq : goP b (firstP b) l with
    | none => rw [hq] at a1; cases a1
    | some q =>
      rw [hq] at a1; injection a1 with a1
      exact List.mem_map.2 ⟨q, (h2 q).2 ⟨l, hq⟩, a1⟩
  rw [List.length_map] at e1 e2
  rw [h3]; omega
theorem made_law (hr : b.Right) {p : List Int} (hp : p.length = b.lots.length) : madeL b p = (List.range p.length).all (okI b p) := by
  unfold madeL
  rw [Bool.eq_iff_iff, Bool.not_eq_true', List.any_eq_false, List.all_eq_true]
  have key : ∀ j, j ∈ List.range p.length → (¬ wrongI b p j = true ↔ okI b p j = true) := fun j hj => by
    have hj := List.mem_range.1 hj
    have ha := hr.aim _ (nth_mem (xs := b.lots) (k := j) (by omega))
    unfold wrongI okI
    simp only [Bool.and_eq_true, Bool.not_eq_true', decide_eq_true_eq, decide_eq_false_iff_not, Bool.or_eq_true]
    constructor
    · intro h
      by_cases c : (nth b.lots j).aim = -1
      · exact .inl c
      · exact .inr (Classical.byContradiction fun e => h ⟨by omega, e⟩)
    · rintro (e | e) ⟨h1, h2⟩
      · omega
      · exact h2 e
  exact ⟨fun h j hj => (key j hj).1 (h j hj), fun h j hj => (key j hj).2 (h j hj)⟩
theorem law_len {l : List Tur} : ∀ {p q : List Int}, lawGo b p l = some q → q.length = p.length := by
  induction l with
  | nil => intro p q h; injection h with h; rw [h]
  | cons t l ih =>
    intro p q h
    have h : (if noT b p t = true then none else lawGo b (p.set t.lot.toNat t.aim) l) = some q := h
    by_cases c : noT b p t = true
    · rw [if_pos c] at h; cases h
    · rw [if_neg c] at h; rw [ih h, List.length_set]
theorem inn_len (b : Barn) : (innL b).length = b.lots.length := by unfold innL; rw [List.length_map]
theorem right_law (hr : b.Right) {l : List Tur} {p : List Int} (h : lawGo b (innL b) l = some p) : rightV b l = madeL b p := by
  have hp : p.length = b.lots.length := (law_len h).trans (inn_len b)
  have e : lawV b l = (p, true) := by unfold lawV; rw [h]
  unfold rightV isUp
  rw [e, made_law hr hp]; rfl
theorem right_some {l : List Tur} (h : rightV b l = true) : ∃ p, lawGo b (innL b) l = some p := by
  have h1 := rightV_ok h
  unfold lawV at h1
  cases hp : lawGo b (innL b) l with
  | none => rw [hp] at h1; cases h1
  | some p => exact ⟨p, rfl⟩
structure MIx (b : Barn) (x : RState) (v : List Int) (k : Nat) (n : Int) : Prop where
  le : k ≤ x.all.length
  val : (n = -1 ∧ ∀ j, j < k → madeL b (nth x.all j) = false) ∨ (0 ≤ n ∧ (∃ j, j < k ∧ madeL b (nth x.all j) = true ∧ n = nth v j) ∧ ∀ j, j < k → madeL b (nth x.all j) = true → n ≤ nth v j)
variable {v : List Int} {k : Nat} {n : Int}
theorem mix0 (b : Barn) (x : RState) (v : List Int) : MIx b x v 0 (-1) := ⟨Nat.zero_le _, .inl ⟨rfl, fun j hj => by omega⟩⟩
theorem MIx.yes (h : MIx b x v k n) (hk : k < x.all.length) (hv : 0 ≤ nth v k) (hc : (madeL b (nth x.all k) && (decide (n < 0) || decide (nth v k < n))) = true) : MIx b x v (k + 1) (nth v k) := by
  simp only [Bool.and_eq_true, Bool.or_eq_true, decide_eq_true_eq] at hc
  refine ⟨hk, .inr ⟨hv, ⟨k, by omega, hc.1, rfl⟩, fun j hj hm => ?_⟩⟩
  by_cases e : j = k
  · rw [e]; exact Int.le_refl _
  · rcases h.val with ⟨_, h2⟩ | ⟨h1, _, h3⟩
    · rw [h2 j (by omega)] at hm; cases hm
    · have := h3 j (by omega) hm
      omega
theorem MIx.no (h : MIx b x v k n) (hk : k < x.all.length) (hc : (madeL b (nth x.all k) && (decide (n < 0) || decide (nth v k < n))) = false) : MIx b x v (k + 1) n := by
  refine ⟨hk, ?_⟩
  rcases h.val with ⟨h1, h2⟩ | ⟨h1, ⟨j0, h2, h3, h4⟩, h5⟩
  · refine .inl ⟨h1, fun j hj => ?_⟩
    by_cases e : j = k
    · rw [e]
      cases hm : madeL b (nth x.all k) with
      | false => rfl
      | true => rw [hm, h1] at hc; cases hc
    · exact h2 j (by omega)
  · refine .inr ⟨h1, ⟨j0, by omega, h3, h4⟩, fun j hj hm => ?_⟩
    by_cases e : j = k
    · rw [e] at hm ⊢
      rw [hm, Bool.true_and, Bool.or_eq_false_iff, decide_eq_false_iff_not, decide_eq_false_iff_not] at hc
      omega
    · exact h5 j (by omega) hm
def bestV (e n : Int) : Int := if e = 0 then n else -1
theorem RDone.turns (h : RDone b x) (hr : b.Right) (hm : MIx b x x.turns x.all.length n) : n = bestV (planE b oneC) (costR b oneC) := by
  have hc := cheap hr (one_ok b)
  unfold bestV
  rcases hc.err with e | e
  · rw [if_pos e]
    obtain ⟨c1, c2, c3⟩ := hc.yes e
    rw [cost_one] at c2
    obtain ⟨p, hp⟩ := right_some c1
    obtain ⟨a, a1, a2, a3, _⟩ := h.least _ _ hp
    have hmade : madeL b (nth x.all a) = true := by rw [a2, ← right_law hr hp]; exact c1
    rcases hm.val with ⟨_, m2⟩ | ⟨_, ⟨j, m2, m3, m4⟩, m5⟩
    · rw [m2 a a1] at hmade; cases hmade
    · obtain ⟨⟨l, w1, w2⟩, _⟩ := h.rs.walk j m2
      have hr1 : rightV b l = true := by rw [right_law hr w1]; exact m3
      have k1 := c3 l hr1
      have k2 := m5 a a1 hmade
      rw [cost_one] at k1
      omega
  · rw [if_neg (by rw [e]; decide)]
    rcases hm.val with ⟨m1, _⟩ | ⟨_, ⟨j, m2, m3, _⟩, _⟩
    · exact m1
    · obtain ⟨⟨l, w1, _⟩, _⟩ := h.rs.walk j m2
      have := (hc.no e).2.2 l
      rw [right_law hr w1, m3] at this; cases this
theorem RDone.sacks (h : RDone b x) (hr : b.Right) (hm : MIx b x x.sacks x.all.length n) : n = bestV (planE b oneC) (costR b (sackC b)) := by
  have hc := cheap hr (sack_ok hr)
  have he := cheap_same hc (cheap hr (one_ok b))
  rw [he] at hc
  unfold bestV
  rcases hc.err with e | e
  · rw [if_pos e]
    obtain ⟨c1, c2, c3⟩ := hc.yes e
    obtain ⟨p, hp⟩ := right_some c1
    obtain ⟨a, a1, a2, _, a3⟩ := h.least _ _ hp
    have hmade : madeL b (nth x.all a) = true := by rw [a2, ← right_law hr hp]; exact c1
    rcases hm.val with ⟨_, m2⟩ | ⟨_, ⟨j, m2, m3, m4⟩, m5⟩
    · rw [m2 a a1] at hmade; cases hmade
    · obtain ⟨_, l, w1, w2⟩ := h.rs.walk j m2
      have hr1 : rightV b l = true := by rw [right_law hr w1]; exact m3
      have k1 := c3 l hr1
      have k2 := m5 a a1 hmade
      omega
  · rw [if_neg (by rw [e]; decide)]
    rcases hm.val with ⟨m1, _⟩ | ⟨_, ⟨j, m2, m3, _⟩, _⟩
    · exact m1
    · obtain ⟨⟨l, w1, _⟩, _⟩ := h.rs.walk j m2
      have := (hc.no e).2.2 l
      rw [right_law hr w1, m3] at this; cases this
end Go.Proofs.Ytpnndljmhpepgaa

namespace Go.Proofs.Ytpnndljmhpepgaa
open Go Go.T
def manyUp (s : Nat) : Nat → Int
  | 0 => 1
  | k + 1 => manyUp s k * ((s : Int) - (k : Int))
theorem many_zero {s : Nat} : ∀ k, s < k → manyUp s k = 0
  | 0, h => by omega
  | k + 1, h => by
    show manyUp s k * ((s : Int) - (k : Int)) = 0
    by_cases e : s = k
    · subst e; rw [Int.sub_self, Int.mul_zero]
    · rw [many_zero k (by omega), Int.zero_mul]
def rangeI (s : Nat) : List Int := (List.range s).map fun n : Nat => (n : Int)
theorem mem_rangeI {s : Nat} {x : Int} : x ∈ rangeI s ↔ 0 ≤ x ∧ x < s := by
  unfold rangeI
  rw [List.mem_map]
  constructor
  · rintro ⟨n, hn, rfl⟩; have := List.mem_range.1 hn; omega
  · rintro ⟨h1, h2⟩; exact ⟨x.toNat, List.mem_range.2 (by omega), by omega⟩
theorem rangeI_len (s : Nat) : (rangeI s).length = s := by unfold rangeI; rw [List.length_map, List.length_range]
theorem rangeI_nodup (s : Nat) : (rangeI s).Nodup := by
  unfold rangeI
  rw [List.nodup_iff_pairwise_ne, List.pairwise_map]
  exact (List.nodup_iff_pairwise_ne.1 List.nodup_range).imp fun h e => h (by omega)
def injL (s : Nat) : Nat → List (List Int)
  | 0 => [[]]
  | k + 1 => (injL s k).flatMap fun q => ((rangeI s).filter fun x => decide (x ∉ q)).map fun x => q ++ [x]
theorem inj_mem {s : Nat} : ∀ k (p : List Int), p ∈ injL s k ↔ p.length = k ∧ p.Nodup ∧ ∀ x ∈ p, 0 ≤ x ∧ x < s
  | 0, p => by
    show p ∈ [[]] ↔ _
    rw [List.mem_singleton]
    constructor
    · rintro rfl; exact ⟨rfl, List.nodup_nil, fun _ h => by cases h⟩
    · rintro ⟨h, _⟩; exact List.length_eq_zero_iff.1 h
  | k + 1, p => by
    show p ∈ (injL s k).flatMap _ ↔ _
    rw [List.mem_flatMap]
    constructor
    · rintro ⟨q, hq, hp⟩
      obtain ⟨x, hx, rfl⟩ := List.mem_map.1 hp
      obtain ⟨h1, h2, h3⟩ := (inj_mem k q).1 hq
      rw [List.mem_filter, mem_rangeI, decide_eq_true_eq] at hx
      refine ⟨by rw [List.length_append, List.length_singleton, h1], ?_, fun y hy => ?_⟩
      · rw [List.nodup_append]
        exact ⟨h2, by simp, fun y hy z hz e => hx.2 (by rw [List.mem_singleton.1 hz] at e; rw [← e]; exact hy)⟩
      · rcases List.mem_append.1 hy with hy | hy
        · exact h3 y hy
        · rw [List.mem_singleton.1 hy]; exact hx.1
    · rintro ⟨h1, h2, h3⟩
      have hp : p.dropLast ++ [p.getLast (by rintro rfl; cases h1)] = p := List.dropLast_concat_getLast _
      rw [← hp] at h2 h3
      rw [List.nodup_append] at h2
      refine ⟨p.dropLast, (inj_mem k _).2 ⟨by rw [List.length_dropLast, h1]; rfl, h2.1, fun x hx => h3 x (List.mem_append_left _ hx)⟩, ?_⟩
      rw [List.mem_map]
      refine ⟨p.getLast (by rintro rfl; cases h1), ?_, hp⟩
      rw [List.mem_filter, mem_rangeI, decide_eq_true_eq]
      exact ⟨h3 _ (List.mem_append_right _ (List.mem_singleton.2 rfl)), fun hm => h2.2.2 _ hm _ (List.mem_singleton.2 rfl) rfl⟩
theorem free_len {s k : Nat} {q : List Int} (h : q ∈ injL s k) : ((rangeI s).filter fun x => decide (x ∉ q)).length + k ≤ s := by
  obtain ⟨h1, h2, h3⟩ := (inj_mem k q).1 h
  have e : (((rangeI s).filter fun x => decide (x ∉ q)) ++ q).length ≤ (rangeI s).length := by
    refine nodup_sub ?_ fun x hx => ?_
    · rw [List.nodup_append]
      refine ⟨(rangeI_nodup s).filter _, h2, fun x hx y hy e => ?_⟩
      rw [List.mem_filter, decide_eq_true_eq] at hx
      exact hx.2 (e ▸ hy)
    · rcases List.mem_append.1 hx with hx | hx
      · exact (List.mem_filter.1 hx).1
      · exact mem_rangeI.2 (h3 x hx)
  rw [List.length_append, rangeI_len, h1] at e
  exact e
theorem flatMap_len {α β : Type} {f : α → List β} {d : Nat} : ∀ {l : List α}, (∀ x ∈ l, (f x).length ≤ d) → (l.flatMap f).length ≤ l.length * d
  | [], _ => by simp
  | x :: l, h => by
    rw [List.flatMap_cons, List.length_append, List.length_cons, Nat.succ_mul]
    have h1 := h x List.mem_cons_self
    have h2 := flatMap_len (f := f) (d := d) (l := l) fun y hy => h y (List.mem_cons_of_mem _ hy)
    omega
theorem inj_len {s : Nat} : ∀ k, ((injL s k).length : Int) ≤ manyUp s k
  | 0 => by show ((1 : Nat) : Int) ≤ 1; decide
  | k + 1 => by
    have h1 := inj_len (s := s) k
    show (((injL s k).flatMap _).length : Int) ≤ manyUp s k * ((s : Int) - (k : Int))
    have h2 : ((injL s k).flatMap fun q => ((rangeI s).filter fun x => decide (x ∉ q)).map fun x => q ++ [x]).length ≤ (injL s k).length * (s - k) := flatMap_len fun q hq => by
      rw [List.length_map]
      have := free_len hq
      omega
    by_cases c : s < k
    · rw [many_zero k c, Int.zero_mul]
      rw [many_zero k c] at h1
      have : (injL s k).length = 0 := by omega
      rw [this, Nat.zero_mul] at h2
      omega
    · have e : (((injL s k).length * (s - k) : Nat) : Int) = ((injL s k).length : Int) * ((s : Int) - (k : Int)) := by
        rw [Int.natCast_mul, Int.natCast_sub (by omega)]
      have h3 : ((injL s k).length : Int) * ((s : Int) - (k : Int)) ≤ manyUp s k * ((s : Int) - (k : Int)) := Int.mul_le_mul_of_nonneg_right h1 (by omega)
      omega
def manyV (b : Barn) : Int := manyUp b.sizes.length b.lots.length
variable {b : Barn}
theorem nodup_set {p : List Int} {i : Nat} {a : Int} (h : p.Nodup) (ha : a ∉ p) : (p.set i a).Nodup := by
  rw [List.nodup_iff_pairwise_ne, List.pairwise_iff_getElem] at h ⊢
  intro x y hx hy hxy e
  rw [List.length_set] at hx hy
  rw [List.getElem_set, List.getElem_set] at e
  split at e
  · split at e
    · omega
    · exact ha (e ▸ List.getElem_mem _)
  · split at e
    · exact ha (e ▸ List.getElem_mem _)
    · exact h x y hx hy hxy e
theorem law_inj (hr : b.Right) : ∀ (l : List Tur) (p : List Int), lawGo b (innL b) l = some p → p ∈ injL b.sizes.length b.lots.length := by
  refine snoc_ind (fun p hp => ?_) fun l t ih p hp => ?_
  · injection hp with hp
    rw [← hp, inj_mem]
    refine ⟨inn_len b, inn_nodup hr, fun x hx => ?_⟩
    obtain ⟨y, hy, rfl⟩ := List.mem_map.1 hx
    exact hr.inn y hy
  · obtain ⟨q, h1, h2, rfl⟩ := lawGo_inv hp
    obtain ⟨g1, g2, g3⟩ := (inj_mem _ _).1 (ih q h1)
    obtain ⟨_, a2, a3, _⟩ := noT_false.1 h2
    rw [inj_mem]
    refine ⟨by rw [List.length_set]; exact g1, nodup_set g2 a3, fun x hx => ?_⟩
    rcases List.mem_or_eq_of_mem_set hx with hx | hx
    · exact g3 x hx
    · rw [hx]; exact a2
theorem law_take {l : List Tur} {p : List Int} (h : lawGo b (innL b) l = some p) (k : Nat) : ∃ q, lawGo b (innL b) (l.take k) = some q ∧ lawGo b q (l.drop k) = some p := by
  rw [← List.take_append_drop k l, lawGo_append] at h
  cases hq : lawGo b (innL b) (l.take k) with
  | none => rw [hq] at h; cases h
  | some q => rw [hq] at h; exact ⟨q, rfl, h⟩
theorem law_cost (hr : b.Right) : ∀ (l : List Tur) (p q : List Int), p.length = b.lots.length → lawGo b p l = some q → (l.length : Int) ≤ costL (sackC b) l
  | [], _, _, _, _ => Int.le_refl _
  | t :: l, p, q, hp, h => by
    have h : (if noT b p t = true then none else lawGo b (p.set t.lot.toNat t.aim) l) = some q := h
    by_cases c : noT b p t = true
    · rw [if_pos c] at h; cases h
    · rw [if_neg c] at h
      have h1 := law_cost hr l _ q (by rw [List.length_set]; exact hp) h
      have c : noT b p t = false := by cases e : noT b p t with | false => rfl | true => exact absurd e c
      have h2 := (sack_ok hr) t (by have := (noT_false.1 c).1; omega) (by have := (noT_false.1 c).1; omega)
      show ((t :: l).length : Int) ≤ costL (sackC b) ([t] ++ l)
      rw [costL_append, costL_one, List.length_cons]
      omega
theorem cheap_len (hr : b.Right) {c : Tur → Int} {e : Int} {l : List Tur} {n : Int} (hc : Cheap b c e l n) (he : e = 0) (hpos : ∀ (l : List Tur) (p q : List Int), p.length = b.lots.length → lawGo b p l = some q → (l.length : Int) ≤ costL c l) : ((l.length + 1 : Nat) : Int) ≤ manyV b := by
  obtain ⟨h1, h2, h3⟩ := hc.yes he
  obtain ⟨p, hp⟩ := right_some h1
  have hat : ∀ k, ∃ q, lawGo b (innL b) (l.take k) = some q ∧ lawGo b q (l.drop k) = some p := law_take hp
  let f : Nat → List Int := fun k => (hat k).choose
  have hf : ∀ k, lawGo b (innL b) (l.take k) = some (f k) ∧ lawGo b (f k) (l.drop k) = some p := fun k => (hat k).choose_spec
  have hne : ∀ i j, i < j → j ≤ l.length → f i ≠ f j := fun i j hij hj ee => by
    have g1 : lawGo b (innL b) (l.take i ++ l.drop j) = some p := by
      rw [lawGo_append, (hf i).1]
      show lawGo b (f i) (l.drop j) = some p
      rw [ee]; exact (hf j).2
    have g2 : rightV b (l.take i ++ l.drop j) = true := by rw [right_law hr g1, ← right_law hr hp]; exact h1
    have g3 := h3 _ g2
    have e1 : l = l.take i ++ ((l.drop i).take (j - i) ++ l.drop j) := by
      conv => lhs; rw [← List.take_append_drop i l, ← List.take_append_drop (j - i) (l.drop i), List.drop_drop]
      rw [show i + (j - i) = j by omega]
    obtain ⟨q, g4, _⟩ : ∃ q, lawGo b (f i) ((l.drop i).take (j - i)) = some q ∧ True := by
      have := (hf i).2
      rw [← List.take_append_drop (j - i) (l.drop i), lawGo_append] at this
      cases hq : lawGo b (f i) ((l.drop i).take (j - i)) with
      | none => rw [hq] at this; cases this
      | some q => exact ⟨q, rfl, trivial⟩
    have g5 := hpos _ _ _ ((law_len (hf i).1).trans (inn_len b)) g4
    have e2 : costL c l = costL c (l.take i) + (costL c ((l.drop i).take (j - i)) + costL c (l.drop j)) := by
      conv => lhs; rw [e1, costL_append, costL_append]
    rw [costL_append] at g3
    have e3 : ((l.drop i).take (j - i)).length = j - i := by rw [List.length_take, List.length_drop]; omega
    rw [e3] at g5
    omega
  have hn : ((List.range (l.length + 1)).map f).Nodup := by
    rw [List.nodup_iff_pairwise_ne, List.pairwise_map, List.pairwise_iff_getElem]
    intro i j hi hj hij
    rw [List.length_range] at hi hj
    rw [List.getElem_range, List.getElem_range]
    exact hne i j hij (by omega)
  have e4 := nodup_sub hn (L := injL b.sizes.length b.lots.length) fun q hq => by
    obtain ⟨k, _, rfl⟩ := List.mem_map.1 hq
    exact law_inj hr _ _ (hf k).1
  rw [List.length_map, List.length_range] at e4
  have := inj_len (s := b.sizes.length) b.lots.length
  unfold manyV
  omega
theorem light_len (hr : b.Right) {e : Int} {l : List Tur} {n : Int} (hc : Cheap b (sackC b) e l n) (he : e = 0) : ((l.length + 1 : Nat) : Int) ≤ manyV b := cheap_len hr hc he (law_cost hr)
theorem few_len (hr : b.Right) {e : Int} {l : List Tur} {n : Int} (hc : Cheap b oneC e l n) (he : e = 0) : ((l.length + 1 : Nat) : Int) ≤ manyV b := cheap_len hr hc he fun l _ _ _ _ => by rw [cost_one]; exact Int.le_refl _
theorem after_right (hr : b.Right) {l : List Tur} (h : rightV b l = true) (hl : l.length ≤ 6000) : ∃ p back, afterR b l = (p, back, costL (sackC b) l, 0) ∧ madeL b p = true ∧ p.length = b.lots.length := by
  have h6 := hr.lots
  obtain ⟨p, hp⟩ := right_some h
  have hm : madeL b p = true := by rw [← right_law hr hp]; exact h
  have hpl := (law_len hp).trans (inn_len b)
  rw [law_go h6] at hp
  cases hq : goP b (firstP b) l with
  | none => rw [hq] at hp; cases hp
  | some q =>
    rw [hq] at hp; injection hp with hp
    have hd := done_put h6 l [] hq
    rw [put_first h6] at hd
    refine ⟨p, ([] ++ backL (firstP b) l).reverse, ?_, hm, hpl⟩
    have e1 : innL (putP b q) = p := by
      rw [← hp]
      unfold innL putP
      refine ext_nth (by rw [List.length_map, List.length_map, List.length_range, List.length_take, q.2]; omega) fun i hi => ?_
      simp only [List.length_map, List.length_range] at hi
      rw [nth_take hi, nth_lt (by simpa using hi)]
      simp
    unfold afterR
    rw [if_neg (by omega), hd, if_pos rfl, e1]
end Go.Proofs.Ytpnndljmhpepgaa

namespace Go.T
open Go Go.RowKit
def dExi {α : Type} (S : α → Prop) (T : α → Ty) (w : World) (M : Tags) (v : Value) : Prop := ∃ x, S x ∧ (T x).den w M v
def Ty.exi {α : Type} (S : α → Prop) (T : α → Ty) (h : ∀ x, (T x).deps = [] ∧ (T x).cdeps = []) : Ty :=
  { den := dExi S T, mono := fun le _ _ ⟨x, hx, hd⟩ => ⟨x, hx, (T x).mono le (by rw [(h x).1]; intro _ h; cases h) (by rw [(h x).2]; intro _ h; cases h) hd⟩ }
section
variable {P : Program} {fr : Fr} {A : As} {c : Code} {Q : Exit → Act → World → Prop}
end
section
variable {P : Program} {A : As} {fn : Func} {n : Nat} {w0 : World} {M0 : Tags}
theorem i_rp3x {α : Type} {S : α → Prop} {r1 r2 r3 : α → Ty} {h : ∀ x, (Ty.tup [r1 x, r2 x, r3 x]).deps = [] ∧ (Ty.tup [r1 x, r2 x, r3 x]).cdeps = []} (x : α) (hS : S x) {t1 t2 t3 : Nat} (hr : fn.results = #[.tmp t1, .tmp t2, .tmp t3]) (h1 : Nat.blt t1 n = true) (h2 : Nat.blt t2 n = true) (h3 : Nat.blt t3 n = true) (hs1 : RetSub (A.slots t1) (r1 x)) (hs2 : RetSub (A.slots t2) (r2 x)) (hs3 : RetSub (A.slots t3) (r3 x)) :
    Into ⟨n, w0, M0, [], .plain⟩ A (bodyPost P fn (retPost w0 M0 (Ty.exi S (fun x => Ty.tup [r1 x, r2 x, r3 x]) h)) .ret) := by
  intro a w ⟨M, ok, hsl, _⟩
  exact ⟨ok.nodefers (by simp), .tuple #[a.tmps.getD t1 undef, a.tmps.getD t2 undef, a.tmps.getD t3 undef], by simp [results, hr], _, pubM M, rfl, pubM_wf ok.wf, base_pub (fr := ⟨n, w0, M0, [], .plain⟩) (fun _ h => h) ok.base, x, hS, _, rfl, hs1 _ _ _ ok.wf (hsl t1 (by simpa using h1)), hs2 _ _ _ ok.wf (hsl t2 (by simpa using h2)), hs3 _ _ _ ok.wf (hsl t3 (by simpa using h3)), trivial⟩
end
end Go.T

namespace Go.Proofs.Ytpnndljmhpepgaa
open Go Go.T
theorem fidx_at {α : Type} [Inhabited α] {p : α → Bool} {l : List α} (h : 0 ≤ fidx p l) : (fidx p l).toNat < l.length ∧ p (nth l (fidx p l).toNat) = true := by
  unfold fidx at *
  cases e : l.findIdx? p with
  | none => rw [e] at h; exact absurd h (by decide)
  | some i =>
    obtain ⟨h1, h2, _⟩ := List.findIdx?_eq_some_iff_getElem.1 e
    show (Int.toNat (i : Int)) < _ ∧ p (nth l (Int.toNat (i : Int))) = true
    rw [Int.toNat_natCast, nth_lt h1]; exact ⟨h1, h2⟩
variable {b : Barn}
abbrev Barn.at (b : Barn) (i : Int) : Lot := nth b.lots i.toNat
def Barn.is (b : Barn) (i : Int) : Prop := 0 ≤ i ∧ i < b.lots.length
theorem fol_at {i : Int} (h : 0 ≤ follows b i) : b.is (follows b i) ∧ (b.at (follows b i)).inn = (b.at i).aim := by
  have h1 := fidx_at (p := fun l : Lot => decide (l.inn = (nth b.lots i.toNat).aim)) (l := b.lots) h
  have h2 := follows_range b i
  exact ⟨⟨h, h2.2⟩, of_decide_eq_true h1.2⟩
theorem is_inn (hr : b.Right) {i : Int} (hi : b.is i) : 0 ≤ (b.at i).inn ∧ (b.at i).inn < b.sizes.length := hr.inn _ (nth_mem (by unfold Barn.is at hi; omega))
theorem fol_aim (hr : b.Right) {i : Int} (h : 0 ≤ follows b i) : (b.at i).aim ≠ -1 := by
  obtain ⟨h1, h2⟩ := fol_at h
  have := is_inn hr h1
  omega
structure Ring (b : Barn) (i : Int) (l : List Int) : Prop where
  two : 2 ≤ l.length
  head : nth l 0 = i
  rng : ∀ x ∈ l, i ≤ x ∧ x < b.lots.length
  zero : 0 ≤ i
  fol : ∀ j, j + 1 < l.length → follows b (nth l j) = nth l (j + 1)
  last : follows b (nth l (l.length - 1)) = i
  nodup : l.Nodup
structure Path (b : Barn) (i : Int) (l : List Int) : Prop where
  pos : 1 ≤ l.length
  head : nth l 0 = i
  is : b.is i
  up : ∀ j, 1 ≤ j → j < l.length → i < nth l j ∧ nth l j < b.lots.length
  fol : ∀ j, j + 1 < l.length → follows b (nth l j) = nth l (j + 1)
theorem Path.at_ {i : Int} {l : List Int} (h : Path b i l) {j : Nat} (hj : j < l.length) : i ≤ nth l j ∧ b.is (nth l j) := by
  have h1 := h.is
  cases j with
  | zero => rw [h.head]; exact ⟨Int.le_refl _, h1⟩
  | succ j =>
    have := h.up (j + 1) (by omega) hj
    unfold Barn.is at *; omega
theorem Ring.at_ {i : Int} {l : List Int} (h : Ring b i l) {j : Nat} (hj : j < l.length) : i ≤ nth l j ∧ b.is (nth l j) := by
  have h1 := h.rng _ (nth_mem hj)
  have h2 := h.zero
  exact ⟨h1.1, by unfold Barn.is; omega⟩
theorem is_len {l : List Int} (hn : l.Nodup) (h : ∀ x ∈ l, b.is x) : l.length ≤ b.lots.length := by
  have := nodup_sub hn (L := (List.range b.lots.length).map fun (k : Nat) => (k : Int)) fun x hx => by
    have := h x hx
    unfold Barn.is at this
    exact List.mem_map.2 ⟨x.toNat, List.mem_range.2 (by omega), by omega⟩
  rwa [List.length_map, List.length_range] at this
theorem Ring.len {i : Int} {l : List Int} (h : Ring b i l) : l.length ≤ b.lots.length := is_len h.nodup fun x hx => by
  have h1 := h.rng x hx
  have h2 := h.zero
  unfold Barn.is; omega
theorem Ring.next {i : Int} {l : List Int} (h : Ring b i l) {x : Int} (hx : x ∈ l) : follows b x ∈ l := by
  obtain ⟨j, hj, rfl⟩ := mem_nth hx
  by_cases c : j + 1 < l.length
  · rw [h.fol j c]; exact nth_mem c
  · rw [show j = l.length - 1 by omega, h.last, ← h.head]; exact nth_mem (by have := h.two; omega)
theorem Ring.reach {i : Int} {l : List Int} (h : Ring b i l) {C : Int → Prop} (hC : ∀ x, C x → C (follows b x)) {x : Int} (hx : x ∈ l) (hc : C x) : C i := by
  obtain ⟨j, hj, rfl⟩ := mem_nth hx
  have key : ∀ m j, m = l.length - j → j < l.length → C (nth l j) → C i := by
    intro m
    induction m with
    | zero => intro j hm hj; omega
    | succ m ih =>
      intro j hm hj hc
      have h1 := hC _ hc
      by_cases c : j + 1 < l.length
      · rw [h.fol j c] at h1; exact ih (j + 1) (by omega) c h1
      · rw [show j = l.length - 1 by omega, h.last] at h1; exact h1
  exact key _ j rfl hj hc
theorem Ring.same {i k : Int} {l r : List Int} (h : Ring b i l) (h' : Ring b k r) {x : Int} (hx : x ∈ l) (hx' : x ∈ r) : i = k := by
  have h1 := h.reach (C := fun y => y ∈ r) (fun y hy => h'.next hy) hx hx'
  have h2 := h'.reach (C := fun y => y ∈ l) (fun y hy => h.next hy) hx' hx
  have h3 := h'.rng _ h1
  have h4 := h.rng _ h2
  omega
theorem Ring.lot {i : Int} {l : List Int} (hr : b.Right) (h : Ring b i l) {x : Int} (hx : x ∈ l) : b.is x ∧ b.is (follows b x) ∧ (b.at (follows b x)).inn = (b.at x).aim ∧ (b.at x).aim ≠ -1 ∧ follows b x ≠ x := by
  have hz := h.zero
  have is : ∀ y ∈ l, b.is y := fun y hy => by have := h.rng y hy; unfold Barn.is; omega
  have h1 := is _ (h.next hx)
  refine ⟨is x hx, h1, (fol_at h1.1).2, fol_aim hr h1.1, fun e => ?_⟩
  obtain ⟨j, hj, rfl⟩ := mem_nth hx
  have two := h.two
  by_cases c : j + 1 < l.length
  · rw [h.fol j c] at e
    have := nodup_nth h.nodup c hj e; omega
  · rw [show j = l.length - 1 by omega, h.last, ← h.head] at e
    have := nodup_nth h.nodup (by omega) (by omega) e; omega
def headsL (b : Barn) : List Int := (ringsL b).map fun l => nth l 0
inductive Each {α β : Type} (P : α → β → Prop) : List α → List β → Prop
  | nil : Each P [] []
  | cons {a : α} {c : β} {l : List α} {r : List β} : P a c → Each P l r → Each P (a :: l) (c :: r)
end Go.Proofs.Ytpnndljmhpepgaa

namespace Go.Proofs.Ytpnndljmhpepgaa
open Go Go.T
set_option maxHeartbeats 4000000
theorem many_abs {s : Nat} (h : s ≤ 7) : ∀ k, k ≤ 6 → (manyUp s k).natAbs ≤ 7 ^ k
  | 0, _ => Nat.le_refl _
  | k + 1, hk => by
    have h1 := many_abs h k (by omega)
    show (manyUp s k * ((s : Int) - (k : Int))).natAbs ≤ _
    rw [Int.natAbs_mul, Nat.pow_succ]
    exact Nat.mul_le_mul h1 (by omega)
theorem many_small {s k : Nat} (h : s ≤ 7) (hk : k ≤ 6) : -117649 ≤ manyUp s k ∧ manyUp s k ≤ 117649 := by
  have h1 := many_abs h k hk
  have h2 : 7 ^ k ≤ 7 ^ 6 := Nat.pow_le_pow_right (by decide) hk
  have h3 : 7 ^ 6 = 117649 := by decide
  omega
theorem many_step {s k : Nat} (h : s ≤ 7) (hk : k < 6) : -117649 ≤ manyUp s k * ((s : Int) - (k : Int)) ∧ manyUp s k * ((s : Int) - (k : Int)) ≤ 117649 := many_small h (k := k + 1) hk
def wideV (b : Barn) : Bool := greatV b || (decide (checkB b = 0) && decide (manyV b > 150))
def placeL (l : List (List Int)) (p : List Int) : Int := fidx (fun q => decide (q = p)) l
theorem place_no {l : List (List Int)} {p : List Int} (h : placeL l p < 0) : p ∉ l := fun hm => by
  have h1 : decide (0 ≤ placeL l p) = l.any fun q => decide (q = p) := fidx_ge _ _
  have h2 : (l.any fun q => decide (q = p)) = true := List.any_eq_true.2 ⟨p, hm, decide_eq_true rfl⟩
  rw [h2, decide_eq_true_eq] at h1
  omega
theorem place_at {l : List (List Int)} {p : List Int} (h : ¬ placeL l p < 0) : (0 ≤ placeL l p ∧ (placeL l p).toNat < l.length) ∧ nth l (placeL l p).toNat = p := by
  have h1 := fidx_at (p := fun q => decide (q = p)) (l := l) (show 0 ≤ placeL l p by omega)
  exact ⟨⟨by omega, h1.1⟩, of_decide_eq_true h1.2⟩
theorem PassI.done' {b : Barn} {x0 x : RState} {ch : Bool} {i : Nat} (h : PassI b x0 x ch i 0 0) (hc : ch = false) (hr : b.Right) (hi : x.all.length ≤ i) : RDone b x := by
  subst hc; exact h.done hr hi
theorem mu_fin {m m0 : Nat} {ch : Bool} (h1 : ch = true → m < m0) (h2 : ch = false → m = m0) : 2 * m + (if ch = true then 1 else 0) < 2 * m0 + 1 := by
  cases ch with
  | true => have := h1 rfl; simp; omega
  | false => have := h2 rfl; simp; omega
theorem PassI.mu {b : Barn} {x0 x : RState} {c0 ch : Bool} {i : Nat} (h : PassI b x0 x ch i 0 0) (h0 : c0 = true) : 2 * muQ x + (if ch = true then 1 else 0) < 2 * muQ x0 + (if c0 = true then 1 else 0) := by
  rw [if_pos h0]
  exact mu_fin h.less fun e => congrArg muQ (h.same e)
attribute [local irreducible] rturn madeL manyUp muQ
attribute [local irreducible] dInt dBool dSl dPp dPtr dAgg dTup dClo dAny dEx dStr dGd dCells dVec dVs dRow dOp nth Tri Into TOps Ctr bodyPost Exit.then Exit.inBlock Code.wp Code.wpIn dWhen dPa dPe dAo dArr dMp dPm dMap dCJ CtrG CtrI OpY keepPost iterPost bodyPostM roundQ
attribute [local irreducible] dRowJ dMs dFit
set_option maxRecDepth 100000 in
theorem c_rMany (b : Barn) (hr : b.Right) : Ctr Try.prog 66 [barnT b] (Ty.int .i64 (manyV b)) := by
  refine fn_intro Try.func66 rfl (by decide) Try.ntmps66 (by exact Nat.le_of_ble_eq_true rfl) fun w0 M0 => ?_
  have hs1 := hr.bins
  have hs2 := hr.lots
  refine t_seq ?_
  refine t_region ?_
  refine r_box_agg rfl ?_
  refine asI rfl ?_
  refine r_nil ?_
  refine i_then ?_
  refine t_seq ?_
  refine t_region ?_
  refine asI rfl ?_
  refine r_nil ?_
  refine i_then ?_
  refine t_seq ?_
  refine t_seq ?_
  refine t_region ?_
  refine asI rfl ?_
  refine r_nil ?_
  refine i_then ?_
  refine t_block ?_
  refine t_loop (fun (k : {k : Nat // k ≤ b.lots.length}) => live [(1, Ty.pp (barnTys b)), (3, Ty.int .i64 (manyUp b.sizes.length k.1)), (4, Ty.int .i64 (k.1 : Nat))] []) (fun k => b.lots.length - k.1) (⟨0, by omega⟩) ?_ fun k => ?_
  · (refine Ent.mk' ?_ ?_ <;> (repeat' (first | exact allSub_zero | exact allTags_nil | refine allSub_succ' ?_ (Ty.sub_any _) | refine allSub_succ' ?_ (Ty.sub_refl _) | refine allSub_succ' ?_ ?_)))
    all_goals exact Ty.sub_int (by unfold manyUp; rfl)
  ·
    have hk := k.2
    have hm := many_small hs1.2 (k := k.1) (by omega)
    refine t_seq ?_
    refine t_seq ?_
    refine t_region ?_
    refine mvI rfl ?_
    refine r_field_pp rfl rfl rfl rfl rfl (by decide) ?_
    refine r_load_pp rfl rfl rfl rfl ?_
    refine r_len rfl rfl rfl ?_
    refine r_bin rfl rfl rfl ?_
    refine r_nil ?_
    refine i_then ?_
    refine t_cond_dec rfl (fun hc1 => ?_) (fun hc1 => ?_)
    ·
      refine t_skip ?_
      refine i_then ?_
      refine t_seq ?_
      refine t_block ?_
      have hm2 := many_step hs1.2 (k := k.1) (by omega)
      refine t_region ?_
      refine mvI rfl ?_
      refine r_field_pp rfl rfl rfl rfl rfl (by decide) ?_
      refine r_load_pp rfl rfl rfl rfl ?_
      refine r_len rfl rfl rfl ?_
      refine mvI rfl ?_
      refine r_sub rfl rfl (by omega) (by omega) ?_
      refine r_mul rfl rfl (by omega) (by omega) ?_
      refine asI rfl ?_
      refine r_nil ?_
      refine i_block ?_
      refine i_then ?_
      refine t_region ?_
      refine mvI rfl ?_
      refine r_add rfl rfl (by omega) (by omega) ?_
      refine asI rfl ?_
      refine r_nil ?_
      refine i_round (⟨k.1 + 1, by omega⟩) ?_ (by show b.lots.length - (k.1 + 1) < b.lots.length - k.1; omega)
      (refine Ent.mk' ?_ ?_ <;> (repeat' (first | exact allSub_zero | exact allTags_nil | refine allSub_succ' ?_ (Ty.sub_any _) | refine allSub_succ' ?_ (Ty.sub_refl _) | refine allSub_succ' ?_ ?_)))
      all_goals skip
      all_goals exact Ty.sub_int (by rw [manyUp])
    ·
      refine t_exit ?_
      refine i_then_exit ?_
      refine i_then_exit ?_
      refine i_block_exit rfl ?_
      refine i_then ?_
      refine t_seq ?_
      refine t_region ?_
      refine mvI rfl ?_
      refine asI rfl ?_
      refine r_nil ?_
      refine i_then ?_
      refine t_ret ?_
      refine i_rp1 rfl rfl ?_
      all_goals skip
      all_goals exact ret_eq rfl rfl (congrArg (fun n => Ty.int .i64 (manyUp b.sizes.length n)) (show k.1 = b.lots.length by have := k.2; omega))
set_option maxRecDepth 100000 in
theorem c_rsame (a b : List Int) (h : a.length = b.length) : Ctr Try.prog 118 [Ty.sl I64 a, Ty.sl I64 b] (Ty.bool (decide (a = b))) := by
  refine fn_intro Try.func118 rfl (by decide) Try.ntmps118 (by exact Nat.le_of_ble_eq_true rfl) fun w0 M0 => ?_
  refine t_fact (s := 0) rfl rfl sl_len fun ha => ?_
  refine t_seq ?_
  refine t_region ?_
  refine asB rfl ?_
  refine r_nil ?_
  refine i_then ?_
  refine t_seq ?_
  refine t_seq ?_
  refine t_region ?_
  refine asI rfl ?_
  refine r_nil ?_
  refine i_then ?_
  refine t_block ?_
  refine t_loop (fun (k : {k : Nat // a.take k = b.take k}) => live [(0, Ty.sl I64 a), (1, Ty.sl I64 b), (5, Ty.int .i64 (k.1 : Nat))] []) (fun k => a.length - k.1) (⟨0, by simp⟩) ?_ fun k => ?_
  · (refine Ent.mk' ?_ ?_ <;> (repeat' (first | exact allSub_zero | exact allTags_nil | refine allSub_succ' ?_ (Ty.sub_any _) | refine allSub_succ' ?_ (Ty.sub_refl _))))
  ·
    refine t_seq ?_
    refine t_seq ?_
    refine t_region ?_
    refine mvI rfl ?_
    refine mvS rfl ?_
    refine r_len rfl rfl rfl ?_
    refine r_bin rfl rfl rfl ?_
    refine r_nil ?_
    refine i_then ?_
    refine t_cond_dec rfl (fun hc1 => ?_) (fun hc1 => ?_)
    ·
      refine t_skip ?_
      refine i_then ?_
      refine t_seq ?_
      refine t_block ?_
      refine t_seq ?_
      refine t_draw mixed rfl ?_
      refine mvS rfl ?_
      refine mvI rfl ?_
      refine r_index_slN rfl rfl rfl rfl rfl rfl (by omega) ?_
      refine r_load_pp rfl rfl rfl rfl ?_
      refine mvS rfl ?_
      refine mvI rfl ?_
      refine r_index_slN rfl rfl rfl rfl rfl rfl (by omega) ?_
      refine r_load_pp rfl rfl rfl rfl ?_
      refine r_bin rfl rfl rfl ?_
      refine r_nil ?_
      refine ⟨by kernel_rfl, ?_⟩
      refine i_then ?_
      refine t_cond_ndec rfl (fun hc2 => ?_) (fun hc2 => ?_)
      ·
        refine t_seq ?_
        refine t_region ?_
        refine asB rfl ?_
        refine r_nil ?_
        refine i_then ?_
        refine t_ret ?_
        refine i_block_ret ?_
        refine i_then_ret ?_
        refine i_then_ret ?_
        refine i_block_ret ?_
        refine i_then_ret ?_
        refine i_rp1 rfl rfl ?_
        all_goals skip
        exact ret_eq rfl rfl (congrArg Ty.bool (by rw [eq_comm, decide_eq_false_iff_not]; exact ne_of_nth (k := k.1) hc2))
      ·
        refine t_skip ?_
        refine i_block ?_
        refine i_then ?_
        refine t_region ?_
        refine mvI rfl ?_
        refine r_add rfl rfl (by omega) (by omega) ?_
        refine asI rfl ?_
        refine r_nil ?_
        refine i_round (⟨k.1 + 1, by have e : nth a k.1 = nth b k.1 := hc2; rw [take_nth (by omega), take_nth (by omega), k.2, e]⟩) ?_ (by show a.length - (k.1 + 1) < a.length - k.1; omega)
        (refine Ent.mk' ?_ ?_ <;> (repeat' (first | exact allSub_zero | exact allTags_nil | refine allSub_succ' ?_ (Ty.sub_any _) | refine allSub_succ' ?_ (Ty.sub_refl _))))
        all_goals skip
    ·
      refine t_exit ?_
      refine i_then_exit ?_
      refine i_then_exit ?_
      refine i_block_exit rfl ?_
      refine i_then ?_
      refine t_seq ?_
      refine t_region ?_
      refine asB rfl ?_
      refine r_nil ?_
      refine i_then ?_
      refine t_ret ?_
      refine i_rp1 rfl rfl ?_
      all_goals skip
      exact ret_eq rfl rfl (congrArg Ty.bool (by rw [eq_comm, decide_eq_true_eq]; have := k.2; rwa [List.take_of_length_le (by omega), List.take_of_length_le (by omega)] at this))
set_option maxRecDepth 100000 in
theorem c_rplace (l : List (List Int)) (p : List Int) (h : ∀ q ∈ l, q.length = p.length) : Ctr Try.prog 72 [Ty.sl RowE l, Ty.sl I64 p] (Ty.int .i64 (placeL l p)) := by
  refine fn_intro Try.func72 rfl (by decide) Try.ntmps72 (by exact Nat.le_of_ble_eq_true rfl) fun w0 M0 => ?_
  refine t_fact (s := 0) rfl rfl sl_len fun hl => ?_
  refine t_seq ?_
  refine t_region ?_
  refine asI rfl ?_
  refine r_nil ?_
  refine i_then ?_
  refine t_seq ?_
  refine t_seq ?_
  refine t_region ?_
  refine asI rfl ?_
  refine r_nil ?_
  refine i_then ?_
  refine t_block ?_
  refine t_loop (fun (k : {k : Nat // ∀ q ∈ l.take k, decide (q = p) = false}) => live [(0, Ty.sl RowE l), (1, Ty.sl I64 p), (5, Ty.int .i64 (k.1 : Nat))] []) (fun k => l.length - k.1) (⟨0, by simp⟩) ?_ fun k => ?_
  · (refine Ent.mk' ?_ ?_ <;> (repeat' (first | exact allSub_zero | exact allTags_nil | refine allSub_succ' ?_ (Ty.sub_any _) | refine allSub_succ' ?_ (Ty.sub_refl _))))
  ·
    refine t_seq ?_
    refine t_seq ?_
    refine t_region ?_
    refine mvI rfl ?_
    refine mvS rfl ?_
    refine r_len rfl rfl rfl ?_
    refine r_bin rfl rfl rfl ?_
    refine r_nil ?_
    refine i_then ?_
    refine t_cond_dec rfl (fun hc1 => ?_) (fun hc1 => ?_)
    ·
      refine t_skip ?_
      refine i_then ?_
      refine t_seq ?_
      refine t_block ?_
      refine t_seq ?_
      refine t_region ?_
      refine mvS rfl ?_
      refine mvI rfl ?_
      refine r_index_slN rfl rfl rfl rfl rfl rfl (by omega) ?_
      refine r_load_pp rfl rfl rfl rfl ?_
      refine mvS rfl ?_
      refine r_call (c_rsame (nth l k.1) p (h _ (nth_mem (by omega)))) rfl rfl rfl rfl rfl ?_
      refine r_nil ?_
      refine i_then ?_
      refine t_cond_dec rfl (fun hc2 => ?_) (fun hc2 => ?_)
      ·
        refine t_seq ?_
        refine t_region ?_
        refine mvI rfl ?_
        refine asI rfl ?_
        refine r_nil ?_
        refine i_then ?_
        refine t_ret ?_
        refine i_block_ret ?_
        refine i_then_ret ?_
        refine i_then_ret ?_
        refine i_block_ret ?_
        refine i_then_ret ?_
        refine i_rp1 rfl rfl ?_
        all_goals skip
        exact ret_eq rfl rfl (congrArg (Ty.int .i64) (fidx_found (p := fun q => decide (q = p)) (by omega) k.2 (decide_eq_true (by rw [← nth_lt]; exact hc2))).symm)
      ·
        refine t_skip ?_
        refine i_block ?_
        refine i_then ?_
        refine t_region ?_
        refine mvI rfl ?_
        refine r_add rfl rfl (by omega) (by omega) ?_
        refine asI rfl ?_
        refine r_nil ?_
        refine i_round (⟨k.1 + 1, ext_false k.2 (by omega) (decide_eq_false hc2)⟩) ?_ (by show l.length - (k.1 + 1) < l.length - k.1; omega)
        (refine Ent.mk' ?_ ?_ <;> (repeat' (first | exact allSub_zero | exact allTags_nil | refine allSub_succ' ?_ (Ty.sub_any _) | refine allSub_succ' ?_ (Ty.sub_refl _))))
        all_goals skip
    ·
      refine t_exit ?_
      refine i_then_exit ?_
      refine i_then_exit ?_
      refine i_block_exit rfl ?_
      refine i_then ?_
      refine t_seq ?_
      refine t_region ?_
      refine asI rfl ?_
      refine r_nil ?_
      refine i_then ?_
      refine t_ret ?_
      refine i_rp1 rfl rfl ?_
      all_goals skip
      exact ret_eq rfl rfl (congrArg (Ty.int .i64) (fidx_none (p := fun q => decide (q = p)) (by have := k.2; rwa [List.take_of_length_le (by omega)] at this)).symm)
set_option maxRecDepth 100000 in
theorem c_theirsW (b : Barn) (hs1 : b.lots.length * 24 ≤ 140737488355328) : Ctr Try.prog 16 [barnT b] (barnT b) := by
  refine fn_intro Try.func16 rfl (by decide) Try.ntmps16 (by exact Nat.le_of_ble_eq_true rfl) fun w0 M0 => ?_
  refine t_seq ?_
  refine t_region ?_
  refine r_box_agg rfl ?_
  refine r_alloc rfl (by exact List.cons_ne_nil _ _) rfl ?_
  refine r_nil ?_
  refine i_then ?_
  refine t_seq ?_
  refine t_region ?_
  refine r_field_pp rfl rfl rfl rfl rfl (by decide) ?_
  refine r_load_pp rfl rfl rfl rfl ?_
  refine r_build rfl rfl (by exact List.cons_ne_nil _ _) rfl (by repeat (first | exact (Parts.nil : Parts _ _ [] _) | (show Parts _ _ ((_, _) :: _) _; apply Parts.one; (· exact (rfl : _ = Ty.sl _ _)); (· exact rfl)))) (by exact (rfl : _ = some [_, _])) ?_
  refine r_alloc rfl (by exact List.cons_ne_nil _ _) rfl ?_
  refine r_storeN rfl rfl (by decide) rfl rfl rfl rfl rfl rfl ?_
  refine r_nil ?_
  refine i_then ?_
  refine t_seq ?_
  refine t_seq ?_
  refine t_region ?_
  refine r_field_pp rfl rfl rfl rfl rfl (by decide) ?_
  refine r_load_pp rfl rfl rfl rfl ?_
  refine r_len rfl rfl rfl ?_
  refine mvI rfl ?_
  refine r_nil ?_
  refine i_then ?_
  refine t_block ?_
  refine t_loop (fun (k : {k : Nat // k ≤ b.lots.length}) => live [(2, Ty.ptr 3 0), (3, Ty.ptr 4 0), (10, Ty.sl LotE b.lots), (11, Ty.int .i64 b.lots.length), (12, Ty.int .i64 (k.1 : Nat))] [(3, Cont.cells 31 [Ty.ex (.slice none 0 0), Ty.ex (.slice none 0 0)]), (4, Cont.cells 31 [Ty.sl I64 b.sizes, Ty.row LotE 110 21 (b.lots.take k.1)])]) (fun k => b.lots.length - k.1) (⟨0, by omega⟩) ?_ fun k => ?_
  · (refine Ent.mk' ?_ ?_ <;> (repeat' (first | exact allSub_zero | exact allTags_nil | exact subs_nil | refine allSub_succ' ?_ (Ty.sub_any _) | refine allSub_succ' ?_ (Ty.sub_refl _) | refine allTags_cons rfl (Cont.sub_refl _) ?_ | refine allTags_cons rfl (Cont.sub_subs ?_) ?_ | refine subs_cons ?_ (Ty.sub_refl _) | refine subs_cons ?_ Ty.nil_row)))
    all_goals trace_state
  ·
    have hk := k.2
    refine t_seq ?_
    refine t_region ?_
    refine r_bin rfl rfl rfl ?_
    refine r_nil ?_
    refine i_then ?_
    refine t_seq ?_
    refine t_cond_dec rfl (fun hc1 => ?_) (fun hc1 => ?_)
    ·
      refine t_skip ?_
      refine i_then ?_
      refine t_seq ?_
      refine t_block ?_
      refine t_seq ?_
      refine t_region ?_
      refine r_index_slN rfl rfl rfl rfl rfl rfl (by omega) ?_
      refine r_load_ppN rfl rfl rfl (by exact Nat.le_of_ble_eq_true rfl) ?_
      refine r_alloc rfl (by exact List.cons_ne_nil _ _) rfl ?_
      refine r_storeN rfl rfl (by decide) rfl rfl rfl rfl rfl rfl ?_
      refine r_nil ?_
      refine i_then ?_
      refine t_region ?_
      refine r_field_ptr rfl rfl rfl rfl rfl (by decide) ?_
      refine r_load_ptr rfl rfl (by decide) rfl rfl rfl ?_
      refine r_load_ptrN rfl rfl (by decide) rfl rfl (by exact Nat.le_of_ble_eq_true rfl) ?_
      refine r_buildSlice (E := LotE) (xs := [nth b.lots k.1]) rfl rfl rfl rfl rfl (by decide) (by decide) (by repeat (first | exact (Parts.nil : Parts _ _ [] _) | (show Parts _ _ ((_, _) :: _) _; apply Parts.agg; (· exact (rfl : _ = Ty.agg _))))) (by exact rfl) rfl ?_
      refine r_append rfl rfl (by decide) rfl rfl rfl rfl rfl rfl (by decide) (by (simp <;> omega)) (by (simp <;> omega)) ?_
      refine r_field_ptr rfl rfl rfl rfl rfl (by decide) ?_
      refine r_store1 rfl rfl (by decide) rfl rfl (by exact (rfl : _ = Ty.row _ _ _ _)) rfl (by exact Nat.le_of_ble_eq_true rfl) rfl rfl (by exact rfl) ?_
      refine r_nil ?_
      refine i_block ?_
      refine i_then ?_
      refine t_region ?_
      refine r_add rfl rfl (by omega) (by omega) ?_
      refine mvI rfl ?_
      refine r_nil ?_
      refine i_round (⟨k.1 + 1, by omega⟩) ?_ (by show b.lots.length - (k.1 + 1) < b.lots.length - k.1; omega)
      (refine Ent.mk' ?_ ?_ <;> (repeat' (first | exact allSub_zero | exact allTags_nil | exact subs_nil | refine allSub_succ' ?_ (Ty.sub_any _) | refine allSub_succ' ?_ (Ty.sub_refl _) | refine allTags_cons rfl (Cont.sub_refl _) ?_ | refine allTags_cons rfl (Cont.sub_subs ?_) ?_ | refine subs_cons ?_ (Ty.sub_refl _) | refine subs_cons ?_ ?_)))
      all_goals exact Ty.sub_row (take_nth (by omega)).symm
      all_goals trace_state
    ·
      refine t_exit ?_
      refine i_then_exit ?_
      refine i_then_exit ?_
      refine i_block_exit rfl ?_
      refine i_then ?_
      refine t_seq ?_
      refine t_pubC (tg := 21) [] [(4, Cont.cells 31 [Ty.sl I64 b.sizes, Ty.sl LotE (b.lots.take k.1)])] (by decide) rfl trivial ⟨pubC_cells rfl rfl ⟨pubTy_same rfl, pubTy_row, trivial⟩, trivial⟩ ?_
      refine t_region ?_
      refine r_load_ptrN rfl rfl (by decide) rfl rfl (by exact Nat.le_of_ble_eq_true rfl) ?_
      refine r_storeN rfl rfl (by decide) rfl rfl rfl rfl rfl rfl ?_
      refine r_nil ?_
      refine i_then ?_
      refine t_ret ?_
      refine i_rcell rfl rfl rfl rfl (by decide) rfl rfl rfl ?_
      all_goals exact ret_eq rfl rfl (congrArg (fun l => barnT ⟨b.sizes, l⟩) (show b.lots.take k.1 = b.lots from List.take_of_length_le (by have := k.2; omega)))
end Go.Proofs.Ytpnndljmhpepgaa

namespace Go.T
open Go Go.RowKit
section
variable {P : Program} {fr : Fr} {ops : Array Oper} {A : As} {rest : List Oper} {K : As → List (As × Fx) → Prop} {d : Nat} {t : TypeId} {p : String} {e : Array Edge} {y : Operand}
theorem r_pickF {c : Operand} {b : Bool} (hc : A.op fr c = .bool false) (hy : A.op fr y = .bool b)
    (h : TOps P fr ops rest (A.set d (.bool b)) fun A' l' => K A' ((A, { d := some d, ty := .bool b, rs := opR c ++ opR y }) :: l')) : TOps P fr ops (⟨some d, .pick c (.const (.bool true)) y, t, p, e, none⟩ :: rest) A K :=
  tops_pure (opT_pure rfl rfl fun a w M _ hrd _ => by
    obtain ⟨hdc, hdy⟩ := op2 hrd
    rw [hc] at hdc; rw [hy] at hdy
    have ec : a.eval c = .bool false := hdc
    have ey : a.eval y = .bool b := hdy
    exact ⟨.bool b, by simp only [execOp, ec, ey]; simp [asBool], rfl⟩) h
theorem r_pickT {c : Operand} (hc : A.op fr c = .bool true)
    (h : TOps P fr ops rest (A.set d (.bool true)) fun A' l' => K A' ((A, { d := some d, ty := .bool true, rs := opR c ++ opR y }) :: l')) : TOps P fr ops (⟨some d, .pick c (.const (.bool true)) y, t, p, e, none⟩ :: rest) A K :=
  tops_pure (opT_pure rfl rfl fun a w M _ hrd _ => by
    obtain ⟨hdc, _⟩ := op2 hrd
    rw [hc] at hdc
    have ec : a.eval c = .bool true := hdc
    exact ⟨.bool true, by simp only [execOp, ec]; simp [asBool, Act.eval], rfl⟩) h
theorem r_offU {op : Op} {j s : Nat} {want : Bool} (hs : dstOf ops j = some s) (hn : Nat.blt s fr.n = true) (hc : A.slots s = .ex undef)
    (h : TOps P fr ops rest (A.set d (.ex undef)) fun A' l' => K A' ((A, { d := some d, ty := .ex undef, rs := [s] }) :: l')) : TOps P fr ops (⟨some d, op, t, p, e, some (j, want)⟩ :: rest) A K := by
  refine ⟨{ d := some d, ty := .ex undef, rs := [s] }, ⟨rfl, (by simp), (by simp), (by simp), fun a w M wf hsz hrd htg => ?_⟩, h⟩
  have hv := hrd s List.mem_cons_self (by simpa using hn)
  rw [hc] at hv
  have hy := yielded_undef (ops := ops) hs (by rw [hsz]; simpa using hn) hv
  have hw : Region.wanted ⟨some d, op, t, p, e, some (j, want)⟩ (yielded ops a.tmps) = false := by
    simp only [Region.wanted, hy]
    cases want <;> simp_all
  rw [if_neg (by rw [hw]; simp)]
  exact ⟨M, wf, Le.refl _ _ _ _, rfl, by simp⟩
end
section
variable {P : Program} {fr : Fr} {A : As} {Q : Exit → Act → World → Prop} {code : Code}
theorem t_unownN {α : Type} {E : El α} {T tg s n : Nat} {xs : List α} {c : Option Nat} (hs : Nat.blt s fr.n = true) (h1 : Tag1 tg) (hx : A.slots s = .rc tg n c) (hc : A.tag tg = some (.rcv E T xs c)) (hn : n = xs.length)
    (h : Tri P fr code ⟨fun i => bif Nat.beq i s then .row E T tg xs else A.slots i, A.tags⟩ Q) : Tri P fr code A Q := by
  subst hn; exact t_unownC hs h1 hx hc h
end
end Go.T

namespace Go.T
open Go Go.RowKit
section
variable {P : Program} {fr : Fr} {A : As} {Q : Exit → Act → World → Prop}
theorem t_regionX (n : Nat) {α : Type} {S : α → Prop} {T : α → Ty} {hd : ∀ x, (T x).deps = [] ∧ (T x).cdeps = []} {s : Nat} {id : Nat} {l : List Oper} (hs : Nat.blt s fr.n = true)
    (h : TOps P fr l.toArray (l.take n) A fun A1 _ => A1.slots s = Ty.exi S T hd ∧ ∀ x, S x → TOps P fr l.toArray (l.drop n) (A1.set s (T x)) fun A' _ => Into fr A' (Q .normal)) :
    Tri P fr (.region id l.toArray false) A Q := by
  intro a w ha
  have e : l.take n ++ l.drop n = l := List.take_append_drop n l
  have key : ∀ l1 l2 : List Oper, l1 ++ l2 = l → (TOps P fr (l1 ++ l2).toArray l1 A fun A1 _ => A1.slots s = Ty.exi S T hd ∧ ∀ x, S x → TOps P fr (l1 ++ l2).toArray l2 (A1.set s (T x)) fun A' _ => Into fr A' (Q .normal)) → (Code.region id (l1 ++ l2).toArray false).wpIn fr.kd.fence 0 P Q a w := by
    intro l1 l2 _ h
    refine wpIn_region_lit (tops_app l1 A _ a w h ha fun A1 sl a w ⟨hx, hk⟩ ⟨M, ok, hsl, ht⟩ => ?_)
    have hd := hsl s (by simpa using hs)
    rw [hx] at hd
    obtain ⟨x, hS, hT⟩ := hd
    refine tops_list l2 _ _ _ _ (hk x hS) ⟨M, ok, fun i hi => ?_, ht⟩ fun _ _ _ _ hk hA => hk _ _ hA
    show ((A1.set s (T x)).slots i).den w M _
    simp only [As.set]
    cases hb : Nat.beq i s with
    | false => exact hsl i hi
    | true =>
      have : i = s := Nat.eq_of_beq_eq_true hb
      subst this
      exact hT
  have := key (l.take n) (l.drop n) e (by rw [e]; exact h)
  rwa [e] at this
end
end Go.T

namespace Go.Proofs.Ytpnndljmhpepgaa
open Go Go.T
set_option maxHeartbeats 6000000
theorem wide_g {b : Barn} (h : greatV b = true) : true = wideV b := by unfold wideV; rw [h]; rfl
theorem wide_n {b : Barn} (h : greatV b = false) (h2 : decide (checkR b = 0) = false) : false = wideV b := by
  unfold wideV; rw [check_eq] at h2; rw [h, h2]; rfl
theorem wide_y {b : Barn} (h : greatV b = false) (h2 : decide (checkR b = 0) = true) : decide (150 < manyV b) = wideV b := by
  unfold wideV; rw [check_eq] at h2; rw [h, h2]; rfl
theorem mix_all {b : Barn} {x : RState} {v : List Int} {k : Nat} {n : Int} (h : MIx b x v k n) (hk : x.all.length ≤ k) : MIx b x v x.all.length n := by
  have := h.le
  rwa [show k = x.all.length by omega] at h
theorem nlt {i n : Nat} (h : (i : Int) < (n : Int)) : i < n := by omega
theorem rless_or {n m n' m' : Int} (h : (decide (n < n') || decide (m < m')) = true) : n < n' ∨ m < m' := by
  simpa only [Bool.or_eq_true, decide_eq_true_eq] using h
theorem rless_no {n m n' m' : Int} (h : (decide (n < n') || decide (m < m')) = false) : ¬ n < n' ∧ ¬ m < m' := by
  simpa only [Bool.or_eq_false_iff, decide_eq_false_iff_not] using h
attribute [local irreducible] rturn madeL manyUp muQ placeL greatV checkR checkB
attribute [local irreducible] dInt dBool dSl dPp dPtr dAgg dTup dClo dAny dEx dStr dGd dCells dVec dVs dRow dOp nth Tri Into TOps Ctr bodyPost Exit.then Exit.inBlock Code.wp Code.wpIn dWhen dPa dPe dAo dArr dMp dPm dMap dCJ CtrG CtrI OpY keepPost iterPost bodyPostM roundQ
attribute [local irreducible] dRowJ dMs dFit
set_option maxRecDepth 100000 in
theorem c_wide (b : Barn) (hs1 : b.lots.length * 24 ≤ 140737488355328) : Ctr Try.prog 13 [barnT b] (Ty.bool (wideV b)) := by
  refine fn_intro Try.func13 rfl (by decide) Try.ntmps13 (by exact Nat.le_of_ble_eq_true rfl) fun w0 M0 => ?_
  refine t_seq ?_
  refine t_region ?_
  refine r_box_agg rfl ?_
  refine asB rfl ?_
  refine r_nil ?_
  refine i_then ?_
  refine t_seq ?_
  refine t_region ?_
  refine r_load_ppN rfl rfl rfl (by exact Nat.le_of_ble_eq_true rfl) ?_
  refine r_call (c_theirsW b hs1) rfl rfl rfl rfl rfl ?_
  refine r_alloc rfl (by exact List.cons_ne_nil _ _) rfl ?_
  refine r_storeN rfl rfl (by decide) rfl rfl rfl rfl rfl rfl ?_
  refine r_nil ?_
  refine i_then ?_
  refine t_seq ?_
  refine t_region ?_
  refine r_load_ppN rfl rfl rfl (by exact Nat.le_of_ble_eq_true rfl) ?_
  refine r_call (c_great b) rfl rfl rfl rfl rfl ?_
  refine mvB rfl ?_
  cases hsp : (greatV b)
  ·
    (refine r_on rfl rfl rfl (by apply opT_of; (refine r_load_ptrN rfl rfl (by decide) rfl rfl (by exact Nat.le_of_ble_eq_true rfl) ?_); refine r_nil ?_; exact rfl) ?_)
    (refine r_on rfl rfl rfl (by apply opT_of; (refine r_call (c_rCheck b (small_great hsp)) rfl rfl rfl rfl rfl ?_); refine r_nil ?_; exact rfl) ?_)
    (refine r_on rfl rfl rfl (by apply opT_of; (refine r_bin rfl rfl rfl ?_); refine r_nil ?_; exact rfl) ?_)
    (refine r_on rfl rfl rfl (by apply opT_of; (refine mvB rfl ?_); refine r_nil ?_; exact rfl) ?_)
    cases hsp : (decide (checkR b = 0))
    ·
      refine r_off rfl rfl rfl rfl ?_
      refine r_off rfl rfl rfl rfl ?_
      refine r_off rfl rfl rfl rfl ?_
      (refine r_on rfl rfl rfl (by apply opT_of; (refine r_pick0 rfl ?_); refine r_nil ?_; exact rfl) ?_)
      refine r_pickF rfl rfl ?_
      refine asB rfl ?_
      refine r_nil ?_
      refine i_then ?_
      refine t_ret ?_
      refine i_rp1 rfl rfl ?_
      all_goals skip
      all_goals exact ret_eq rfl rfl (congrArg Ty.bool (wide_n ‹greatV b = false› hsp))
    ·
      (refine r_on rfl rfl rfl (by apply opT_of; (refine r_load_ptrN rfl rfl (by decide) rfl rfl (by exact Nat.le_of_ble_eq_true rfl) ?_); refine r_nil ?_; exact rfl) ?_)
      (refine r_on rfl rfl rfl (by apply opT_of; (refine r_call (c_rMany b (check_right ((check_eq b).symm.trans (of_decide_eq_true hsp)))) rfl rfl rfl rfl rfl ?_); refine r_nil ?_; exact rfl) ?_)
      (refine r_on rfl rfl rfl (by apply opT_of; (refine r_bin rfl rfl rfl ?_); refine r_nil ?_; exact rfl) ?_)
      (refine r_on rfl rfl rfl (by apply opT_of; (refine r_pick1 rfl rfl ?_); refine r_nil ?_; exact rfl) ?_)
      refine r_pickF rfl rfl ?_
      refine asB rfl ?_
      refine r_nil ?_
      refine i_then ?_
      refine t_ret ?_
      refine i_rp1 rfl rfl ?_
      all_goals skip
      all_goals exact ret_eq rfl rfl (congrArg Ty.bool (wide_y ‹greatV b = false› hsp))
  ·
    refine r_off rfl rfl rfl rfl ?_
    refine r_off rfl rfl rfl rfl ?_
    refine r_off rfl rfl rfl rfl ?_
    refine r_off rfl rfl rfl rfl ?_
    cases hsp : (decide (checkR b = 0))
    ·
      refine r_offU rfl rfl rfl ?_
      refine r_offU rfl rfl rfl ?_
      refine r_offU rfl rfl rfl ?_
      refine r_off rfl rfl rfl rfl ?_
      refine r_pickT rfl ?_
      refine asB rfl ?_
      refine r_nil ?_
      refine i_then ?_
      refine t_ret ?_
      refine i_rp1 rfl rfl ?_
      all_goals skip
      all_goals exact ret_eq rfl rfl (congrArg Ty.bool (wide_g ‹greatV b = true›))
    ·
      refine r_offU rfl rfl rfl ?_
      refine r_offU rfl rfl rfl ?_
      refine r_offU rfl rfl rfl ?_
      refine r_off rfl rfl rfl rfl ?_
      refine r_pickT rfl ?_
      refine asB rfl ?_
      refine r_nil ?_
      refine i_then ?_
      refine t_ret ?_
      refine i_rp1 rfl rfl ?_
      all_goals skip
      all_goals exact ret_eq rfl rfl (congrArg Ty.bool (wide_g ‹greatV b = true›))
set_option maxRecDepth 100000 in
theorem c_rReached (b : Barn) (hr : b.Right) : Ctr Try.prog 18 [barnT b] (Ty.exi (RDone b) (fun x => Ty.tup [Ty.sl RowE x.all, Ty.sl I64 x.turns, Ty.sl I64 x.sacks]) (fun _ => ⟨rfl, rfl⟩)) := by
  refine fn_intro Try.func18 rfl (by decide) Try.ntmps18 (by exact Nat.le_of_ble_eq_true rfl) fun w0 M0 => ?_
  have hs := small_right hr
  have h1 := hr.bins
  have h2 := hr.lots
  refine t_seq ?_
  refine t_region ?_
  refine r_box_agg rfl ?_
  refine asX rfl ?_
  refine asX rfl ?_
  refine asX rfl ?_
  refine r_nil ?_
  refine i_then ?_
  refine t_seq ?_
  refine t_region ?_
  refine r_load_ppN rfl rfl rfl (by exact Nat.le_of_ble_eq_true rfl) ?_
  refine r_call (c_rFirst b hs) rfl rfl rfl rfl rfl ?_
  refine r_buildRowN (E := RowE) (xs := [innL b]) rfl rfl rfl rfl rfl (by decide) (by decide) (by repeat (first | exact (Parts.nil : Parts _ _ [] _) | (show Parts _ _ ((_, _) :: _) _; apply Parts.one; (· exact (rfl : _ = Ty.sl _ _)); (· exact rfl)))) (by exact rfl) rfl rfl ?_
  refine r_buildRowN (E := I64) (xs := [0]) rfl rfl rfl rfl rfl (by decide) (by decide) (by repeat (first | exact (Parts.nil : Parts _ _ [] _) | (show Parts _ _ ((_, _) :: _) _; apply Parts.one; (· exact (rfl : _ = Ty.int _ _)); (· exact rfl)))) (by exact rfl) rfl rfl ?_
  refine r_buildRowN (E := I64) (xs := [0]) rfl rfl rfl rfl rfl (by decide) (by decide) (by repeat (first | exact (Parts.nil : Parts _ _ [] _) | (show Parts _ _ ((_, _) :: _) _; apply Parts.one; (· exact (rfl : _ = Ty.int _ _)); (· exact rfl)))) (by exact rfl) rfl rfl ?_
  refine asR rfl ?_
  refine asR rfl ?_
  refine asR rfl ?_
  refine r_nil ?_
  refine i_then ?_
  refine t_seq ?_
  refine t_seq ?_
  refine t_region ?_
  refine asB rfl ?_
  refine r_nil ?_
  refine i_then ?_
  refine t_block ?_
  refine t_loop (fun (x : {x : RState × Bool // RS b x.1 ∧ (x.2 = false → RDone b x.1)}) => live [(1, Ty.pp (barnTys b)), (5, Ty.row RowE 22 20 x.1.1.all), (6, Ty.row I64 3 21 x.1.1.turns), (7, Ty.row I64 3 22 x.1.1.sacks), (8, Ty.bool x.1.2)] []) (fun x => 2 * muQ x.1.1 + (if x.1.2 = true then 1 else 0)) (⟨(⟨[innL b], [0], [0]⟩, true), rs0 hr, fun h => by cases h⟩) ?_ fun x => ?_
  · (refine Ent.mk' ?_ ?_ <;> (repeat' (first | exact allSub_zero | exact allTags_nil | refine allSub_succ' ?_ (Ty.sub_any _) | refine allSub_succ' ?_ (Ty.sub_refl _))))
  ·
    refine t_seq ?_
    refine t_seq ?_
    refine t_region ?_
    refine mvB rfl ?_
    refine r_nil ?_
    refine i_then ?_
    refine t_cond rfl (fun hc1 => ?_) (fun hc1 => ?_)
    ·
      refine t_skip ?_
      refine i_then ?_
      refine t_block ?_
      refine t_seq ?_
      refine t_region ?_
      refine asB rfl ?_
      refine r_nil ?_
      refine i_then ?_
      refine t_seq ?_
      refine t_region ?_
      refine asI rfl ?_
      refine r_nil ?_
      refine i_then ?_
      refine t_block ?_
      refine t_loop (fun (y : {y : RState × Bool × Nat // PassI b x.1.1 y.1 y.2.1 y.2.2 0 0}) => live [(1, Ty.pp (barnTys b)), (5, Ty.row RowE 22 20 y.1.1.all), (6, Ty.row I64 3 21 y.1.1.turns), (7, Ty.row I64 3 22 y.1.1.sacks), (8, Ty.bool y.1.2.1), (9, Ty.int .i64 (y.1.2.2 : Nat))] []) (fun y => 117649 - y.1.2.2) (⟨(x.1.1, false, 0), pass0 x.2.1⟩) ?_ fun y => ?_
      · (refine Ent.mk' ?_ ?_ <;> (repeat' (first | exact allSub_zero | exact allTags_nil | refine allSub_succ' ?_ (Ty.sub_any _) | refine allSub_succ' ?_ (Ty.sub_refl _))))
      ·
        have hfy := y.2.rs.few hr
        refine t_seq ?_
        refine t_seq ?_
        refine t_region ?_
        refine mvI rfl ?_
        refine mvR rfl ?_
        refine r_len_row rfl rfl rfl ?_
        refine r_bin rfl rfl rfl ?_
        refine r_nil ?_
        refine i_then ?_
        refine t_cond_dec rfl (fun hc2 => ?_) (fun hc2 => ?_)
        ·
          refine t_skip ?_
          refine i_then ?_
          refine t_seq ?_
          refine t_block ?_
          refine t_seq ?_
          refine t_region ?_
          refine asI rfl ?_
          refine r_nil ?_
          refine i_then ?_
          refine t_block ?_
          refine t_loop (fun (z : {z : RState × Bool × Nat // PassI b x.1.1 z.1 z.2.1 y.1.2.2 z.2.2 0 ∧ y.1.2.2 < z.1.all.length ∧ z.2.2 ≤ b.lots.length}) => live [(1, Ty.pp (barnTys b)), (5, Ty.row RowE 22 20 z.1.1.all), (6, Ty.row I64 3 21 z.1.1.turns), (7, Ty.row I64 3 22 z.1.1.sacks), (8, Ty.bool z.1.2.1), (9, Ty.int .i64 (y.1.2.2 : Nat)), (10, Ty.int .i64 (z.1.2.2 : Nat))] []) (fun z => b.lots.length - z.1.2.2) (⟨(y.1.1, y.1.2.1, 0), y.2, nlt hc2, Nat.zero_le _⟩) ?_ fun z => ?_
          · (refine Ent.mk' ?_ ?_ <;> (repeat' (first | exact allSub_zero | exact allTags_nil | refine allSub_succ' ?_ (Ty.sub_any _) | refine allSub_succ' ?_ (Ty.sub_refl _))))
          ·
            have hzl := z.2.2.2
            have hfz := z.2.1.rs.few hr
            have hzi := z.2.2.1
            refine t_seq ?_
            refine t_seq ?_
            refine t_region ?_
            refine mvI rfl ?_
            refine r_field_pp rfl rfl rfl rfl rfl (by decide) ?_
            refine r_load_pp rfl rfl rfl rfl ?_
            refine r_len rfl rfl rfl ?_
            refine r_bin rfl rfl rfl ?_
            refine r_nil ?_
            refine i_then ?_
            refine t_cond_dec rfl (fun hc3 => ?_) (fun hc3 => ?_)
            ·
              refine t_skip ?_
              refine i_then ?_
              refine t_seq ?_
              refine t_block ?_
              refine t_seq ?_
              refine t_region ?_
              refine asI rfl ?_
              refine r_nil ?_
              refine i_then ?_
              refine t_block ?_
              refine t_loop (fun (u : {u : RState × Bool × Nat // PassI b x.1.1 u.1 u.2.1 y.1.2.2 z.1.2.2 u.2.2 ∧ y.1.2.2 < u.1.all.length ∧ u.2.2 ≤ b.sizes.length}) => live [(1, Ty.pp (barnTys b)), (5, Ty.row RowE 22 20 u.1.1.all), (6, Ty.row I64 3 21 u.1.1.turns), (7, Ty.row I64 3 22 u.1.1.sacks), (8, Ty.bool u.1.2.1), (9, Ty.int .i64 (y.1.2.2 : Nat)), (10, Ty.int .i64 (z.1.2.2 : Nat)), (11, Ty.int .i64 (u.1.2.2 : Nat))] []) (fun u => b.sizes.length - u.1.2.2) (⟨(z.1.1, z.1.2.1, 0), z.2.1, z.2.2.1, Nat.zero_le _⟩) ?_ fun u => ?_
              · (refine Ent.mk' ?_ ?_ <;> (repeat' (first | exact allSub_zero | exact allTags_nil | refine allSub_succ' ?_ (Ty.sub_any _) | refine allSub_succ' ?_ (Ty.sub_refl _))))
              ·
                have hul := u.2.2.2
                have hui := u.2.2.1
                have hfu := u.2.1.rs.few hr
                have hcap := u.2.1.rs.cap _ hui
                have hcat : (0 ≤ nth u.1.1.turns (y.1.2.2 : Int).toNat ∧ nth u.1.1.turns (y.1.2.2 : Int).toNat ≤ y.1.2.2) ∧ 0 ≤ nth u.1.1.sacks (y.1.2.2 : Int).toNat ∧ nth u.1.1.sacks (y.1.2.2 : Int).toNat ≤ 300 * y.1.2.2 := hcap
                have hlt := u.2.1.rs.lt
                have hls := u.2.1.rs.ls
                refine t_seq ?_
                refine t_seq ?_
                refine t_region ?_
                refine mvI rfl ?_
                refine r_field_pp rfl rfl rfl rfl rfl (by decide) ?_
                refine r_load_pp rfl rfl rfl rfl ?_
                refine r_len rfl rfl rfl ?_
                refine r_bin rfl rfl rfl ?_
                refine r_nil ?_
                refine i_then ?_
                refine t_cond_dec rfl (fun hc4 => ?_) (fun hc4 => ?_)
                ·
                  refine t_skip ?_
                  refine i_then ?_
                  refine t_seq ?_
                  refine t_block ?_
                  refine t_seq ?_
                  refine t_draw mixed rfl ?_
                  refine r_load_ppN rfl rfl rfl (by exact Nat.le_of_ble_eq_true rfl) ?_
                  refine mvR rfl ?_
                  refine mvI rfl ?_
                  refine r_index_rowI rfl rfl rfl rfl rfl rfl (by omega) (by omega) ?_
                  refine r_load_op rfl rfl rfl rfl ?_
                  refine mvI rfl ?_
                  refine mvI rfl ?_
                  refine r_build rfl rfl (by exact List.cons_ne_nil _ _) rfl (by repeat (first | exact (Parts.nil : Parts _ _ [] _) | (show Parts _ _ ((_, _) :: _) _; apply Parts.one; (· exact (rfl : _ = Ty.int _ _)); (· exact rfl)))) (by exact (rfl : _ = some [_, _])) ?_
                  refine r_call (c_rTurned b hs (nth u.1.1.all y.1.2.2) (u.2.1.rs.len _ (nth_mem hui)) ⟨z.1.2.2, u.1.2.2⟩) rfl rfl rfl rfl rfl ?_
                  refine mvT rfl ?_
                  refine r_extract rfl rfl ?_
                  refine r_extract rfl rfl ?_
                  refine asS rfl ?_
                  refine asI rfl ?_
                  refine r_nil ?_
                  refine ⟨by kernel_rfl, ?_⟩
                  refine i_then ?_
                  refine t_seq ?_
                  refine t_seq ?_
                  refine t_region ?_
                  refine mvI rfl ?_
                  refine r_bin rfl rfl rfl ?_
                  refine r_nil ?_
                  refine i_then ?_
                  refine t_cond_ndec rfl (fun hc5 => ?_) (fun hc5 => ?_)
                  ·
                    refine t_exit ?_
                    refine i_then_exit ?_
                    refine i_block_exit rfl ?_
                    refine i_then ?_
                    refine t_region ?_
                    refine mvI rfl ?_
                    refine r_add rfl rfl (by omega) (by omega) ?_
                    refine asI rfl ?_
                    refine r_nil ?_
                    refine i_round (⟨(u.1.1, u.1.2.1, u.1.2.2 + 1), u.2.1.skip hc5, hui, by show u.1.2.2 + 1 ≤ _; omega⟩) ?_ (by show b.sizes.length - (u.1.2.2 + 1) < b.sizes.length - u.1.2.2; omega)
                    (refine Ent.mk' ?_ ?_ <;> (repeat' (first | exact allSub_zero | exact allTags_nil | refine allSub_succ' ?_ (Ty.sub_any _) | refine allSub_succ' ?_ (Ty.sub_refl _))))
                    all_goals skip
                  ·
                    refine t_skip ?_
                    refine i_then ?_
                    refine t_seq ?_
                    have hsb : 1 ≤ (nth b.lots z.1.2.2).sacks ∧ (nth b.lots z.1.2.2).sacks ≤ 300 := sack_bound hr (i := (z.1.2.2 : Int)) ⟨by omega, by omega⟩
                    have hst : 1 ≤ (nth b.lots (z.1.2.2 : Int).toNat).sacks ∧ (nth b.lots (z.1.2.2 : Int).toNat).sacks ≤ 300 := hsb
                    have htl := u.2.1.rs.turn hr hui hc5
                    refine t_draw mixed rfl ?_
                    refine mvR rfl ?_
                    refine mvI rfl ?_
                    refine r_index_rowI rfl rfl rfl rfl rfl rfl (by omega) (by omega) ?_
                    refine r_load_op rfl rfl rfl rfl ?_
                    refine r_add rfl rfl (by omega) (by omega) ?_
                    refine mvR rfl ?_
                    refine mvI rfl ?_
                    refine r_index_rowI rfl rfl rfl rfl rfl rfl (by omega) (by omega) ?_
                    refine r_load_op rfl rfl rfl rfl ?_
                    refine r_field_pp rfl rfl rfl rfl rfl (by decide) ?_
                    refine r_load_pp rfl rfl rfl rfl ?_
                    refine mvI rfl ?_
                    refine r_index_slN rfl rfl rfl rfl rfl rfl (by omega) ?_
                    refine r_field_pp rfl rfl rfl rfl rfl (by decide) ?_
                    refine r_load_pp rfl rfl rfl rfl ?_
                    refine r_add rfl rfl (by omega) (by omega) ?_
                    refine asI rfl ?_
                    refine asI rfl ?_
                    refine r_nil ?_
                    refine ⟨by kernel_rfl, ?_⟩
                    refine i_then ?_
                    refine t_seq ?_
                    refine t_region ?_
                    refine mvR rfl ?_
                    refine mvS rfl ?_
                    refine r_callL [20] (c_rplace u.1.1.all (rturn b (nth u.1.1.all y.1.2.2) ⟨z.1.2.2, u.1.2.2⟩).1 (fun q hq => by rw [u.2.1.rs.len q hq, htl.2.1, List.length_set]; exact (u.2.1.rs.len _ (nth_mem hui)).symm)) rfl (by repeat (first | exact lends_nil | refine lends_cons (lend_pub rfl rfl) ?_ | refine lends_cons (lend_row rfl) ?_)) (by exact plain_int _ _) ?_
                    refine asI rfl ?_
                    refine r_nil ?_
                    refine i_then ?_
                    refine t_seq ?_
                    refine t_seq ?_
                    refine t_region ?_
                    refine mvI rfl ?_
                    refine r_bin rfl rfl rfl ?_
                    refine r_nil ?_
                    refine i_then ?_
                    refine t_cond_dec rfl (fun hc6 => ?_) (fun hc6 => ?_)
                    ·
                      refine t_seq ?_
                      refine t_region ?_
                      refine mvR rfl ?_
                      refine mvS rfl ?_
                      refine r_buildSlice (E := RowE) (xs := [(rturn b (nth u.1.1.all y.1.2.2) ⟨z.1.2.2, u.1.2.2⟩).1]) rfl rfl rfl rfl rfl (by decide) (by decide) (by repeat (first | exact (Parts.nil : Parts _ _ [] _) | (show Parts _ _ ((_, _) :: _) _; apply Parts.one; (· exact (rfl : _ = Ty.sl _ _)); (· exact rfl)))) (by exact rfl) rfl ?_
                      refine r_append rfl rfl (by decide) rfl rfl rfl rfl rfl rfl (by decide) (by (simp <;> omega)) (by (simp <;> omega)) ?_
                      refine mvR rfl ?_
                      refine mvI rfl ?_
                      refine r_buildSlice (E := I64) (xs := [_]) rfl rfl rfl rfl rfl (by decide) (by decide) (by repeat (first | exact (Parts.nil : Parts _ _ [] _) | (show Parts _ _ ((_, _) :: _) _; apply Parts.one; (· exact (rfl : _ = Ty.int _ _)); (· exact rfl)))) (by exact rfl) rfl ?_
                      refine r_append rfl rfl (by decide) rfl rfl rfl rfl rfl rfl (by decide) (by (simp <;> omega)) (by (simp <;> omega)) ?_
                      refine mvR rfl ?_
                      refine mvI rfl ?_
                      refine r_buildSlice (E := I64) (xs := [_]) rfl rfl rfl rfl rfl (by decide) (by decide) (by repeat (first | exact (Parts.nil : Parts _ _ [] _) | (show Parts _ _ ((_, _) :: _) _; apply Parts.one; (· exact (rfl : _ = Ty.int _ _)); (· exact rfl)))) (by exact rfl) rfl ?_
                      refine r_append rfl rfl (by decide) rfl rfl rfl rfl rfl rfl (by decide) (by (simp <;> omega)) (by (simp <;> omega)) ?_
                      refine asR rfl ?_
                      refine asR rfl ?_
                      refine asR rfl ?_
                      refine r_nil ?_
                      refine i_then ?_
                      refine t_seq ?_
                      refine t_region ?_
                      refine asB rfl ?_
                      refine r_nil ?_
                      refine i_then ?_
                      refine t_exit ?_
                      refine i_then_exit ?_
                      refine i_block_exit rfl ?_
                      refine i_then ?_
                      refine t_region ?_
                      refine mvI rfl ?_
                      refine r_add rfl rfl (by omega) (by omega) ?_
                      refine asI rfl ?_
                      refine r_nil ?_
                      refine i_round (⟨(⟨u.1.1.all ++ [(rturn b (nth u.1.1.all y.1.2.2) ⟨z.1.2.2, u.1.2.2⟩).1], u.1.1.turns ++ [nth u.1.1.turns y.1.2.2 + 1], u.1.1.sacks ++ [nth u.1.1.sacks y.1.2.2 + sackC b ⟨z.1.2.2, u.1.2.2⟩]⟩, true, u.1.2.2 + 1), u.2.1.add hr hui hc5 (place_no hc6), by show _ < (u.1.1.all ++ [_]).length; rw [List.length_append]; exact Nat.lt_of_lt_of_le hui (Nat.le_add_right _ _), by show u.1.2.2 + 1 ≤ _; omega⟩) ?_ (by show b.sizes.length - (u.1.2.2 + 1) < b.sizes.length - u.1.2.2; omega)
                      (refine Ent.mk' ?_ ?_ <;> (repeat' (first | exact allSub_zero | exact allTags_nil | refine allSub_succ' ?_ (Ty.sub_any _) | refine allSub_succ' ?_ (Ty.sub_refl _))))
                      all_goals skip
                    ·
                      refine t_skip ?_
                      refine i_then ?_
                      refine t_seq ?_
                      have hpl := place_at hc6
                      have hp2 := hpl.1.2
                      have hp1 := hpl.1.1
                      refine t_region ?_
                      refine mvI rfl ?_
                      refine mvR rfl ?_
                      refine mvI rfl ?_
                      refine r_index_rowI rfl rfl rfl rfl rfl rfl (by omega) (by omega) ?_
                      refine r_load_op rfl rfl rfl rfl ?_
                      refine r_bin rfl rfl rfl ?_
                      refine mvB rfl ?_
                      apply r_guard (s := 96) rfl rfl rfl
                      · intro hg; apply opT_of; (refine mvI rfl ?_); refine r_nil ?_; exact rfl
                      · exact rfl
                      · exact rfl
                      apply r_guard (s := 96) rfl rfl rfl
                      · intro hg; apply opT_of; (refine mvR rfl ?_); refine r_nil ?_; exact rfl
                      · exact rfl
                      · exact rfl
                      apply r_guard (s := 96) rfl rfl rfl
                      · intro hg; apply opT_of; (refine mvI rfl ?_); refine r_nil ?_; exact rfl
                      · exact rfl
                      · exact rfl
                      apply r_guard (s := 96) rfl rfl rfl
                      · intro hg; apply opT_strip (s := 98) rfl (by (rw [hg]; rfl)); apply opT_strip (s := 99) rfl (by (rw [hg]; rfl)); apply opT_of; (refine r_index_rowI rfl rfl rfl rfl rfl rfl (by omega) (by omega) ?_); refine r_nil ?_; exact rfl
                      · exact rfl
                      · exact rfl
                      apply r_guard (s := 96) rfl rfl rfl
                      · intro hg; apply opT_strip (s := 100) rfl (by (rw [hg]; rfl)); apply opT_of; (refine r_load_op rfl rfl rfl rfl ?_); refine r_nil ?_; exact rfl
                      · exact rfl
                      · exact rfl
                      apply r_guard (s := 96) rfl rfl rfl
                      · intro hg; apply opT_strip (s := 97) rfl (by (rw [hg]; rfl)); apply opT_strip (s := 101) rfl (by (rw [hg]; rfl)); apply opT_of; (refine r_bin rfl rfl rfl ?_); refine r_nil ?_; exact rfl
                      · exact rfl
                      · exact rfl
                      refine r_or rfl rfl ?_
                      refine r_nil ?_
                      refine i_then ?_
                      refine t_cond rfl (fun hc7 => ?_) (fun hc7 => ?_)
                      ·
                        refine t_seq ?_
                        refine t_as (s := 16) rfl (Ty.sub_int (show placeL u.1.1.all (rturn b (nth u.1.1.all y.1.2.2) ⟨z.1.2.2, u.1.2.2⟩).1 = ((placeL u.1.1.all (rturn b (nth u.1.1.all y.1.2.2) ⟨z.1.2.2, u.1.2.2⟩).1).toNat : Nat) by omega)) ?_
                        refine t_ownC (s := 6) rfl rfl fun c6 => ?_
                        refine t_ownC (s := 7) rfl rfl fun c7 => ?_
                        refine t_draw mixed rfl ?_
                        refine mvC rfl ?_
                        refine mvI rfl ?_
                        refine mvC rfl ?_
                        refine mvI rfl ?_
                        refine mvI rfl ?_
                        refine mvC rfl ?_
                        refine mvI rfl ?_
                        refine r_index_rc (i := (placeL u.1.1.all (rturn b (nth u.1.1.all y.1.2.2) ⟨z.1.2.2, u.1.2.2⟩).1).toNat) rfl rfl rfl rfl rfl (by omega) ?_
                        refine r_load_rc (E := I64) (o := 0) (tg := 21) rfl rfl (by decide) rfl rfl (by omega) rfl ?_
                        refine r_min rfl rfl ?_
                        refine mvI rfl ?_
                        refine mvC rfl ?_
                        refine mvI rfl ?_
                        refine r_index_rc (i := (placeL u.1.1.all (rturn b (nth u.1.1.all y.1.2.2) ⟨z.1.2.2, u.1.2.2⟩).1).toNat) rfl rfl rfl rfl rfl (by omega) ?_
                        refine r_load_rc (E := I64) (o := 0) (tg := 22) rfl rfl (by decide) rfl rfl (by omega) rfl ?_
                        refine r_min rfl rfl ?_
                        refine r_index_rc (i := (placeL u.1.1.all (rturn b (nth u.1.1.all y.1.2.2) ⟨z.1.2.2, u.1.2.2⟩).1).toNat) rfl rfl rfl rfl rfl (by omega) ?_
                        refine r_store_rc (E := I64) (o := 0) (tg := 21) (z := min (nth u.1.1.turns y.1.2.2 + 1) (nth u.1.1.turns (placeL u.1.1.all (rturn b (nth u.1.1.all y.1.2.2) ⟨z.1.2.2, u.1.2.2⟩).1).toNat)) rfl rfl (by decide) rfl rfl rfl rfl (by omega) (by decide) rfl rfl ?_
                        refine r_index_rc (i := (placeL u.1.1.all (rturn b (nth u.1.1.all y.1.2.2) ⟨z.1.2.2, u.1.2.2⟩).1).toNat) rfl rfl rfl rfl rfl (by omega) ?_
                        refine r_store_rc (E := I64) (o := 0) (tg := 22) (z := min (nth u.1.1.sacks y.1.2.2 + sackC b ⟨z.1.2.2, u.1.2.2⟩) (nth u.1.1.sacks (placeL u.1.1.all (rturn b (nth u.1.1.all y.1.2.2) ⟨z.1.2.2, u.1.2.2⟩).1).toNat)) rfl rfl (by decide) rfl rfl rfl rfl (by omega) (by decide) rfl rfl ?_
                        refine r_nil ?_
                        refine ⟨by kernel_rfl, ?_⟩
                        refine i_then ?_
                        refine t_unownN (s := 6) rfl (by decide) rfl rfl List.length_set.symm ?_
                        refine t_unownN (s := 7) rfl (by decide) rfl rfl List.length_set.symm ?_
                        refine t_region ?_
                        refine asB rfl ?_
                        refine r_nil ?_
                        refine i_block ?_
                        refine i_then ?_
                        refine t_region ?_
                        refine mvI rfl ?_
                        refine r_add rfl rfl (by omega) (by omega) ?_
                        refine asI rfl ?_
                        refine r_nil ?_
                        refine i_round (⟨(⟨u.1.1.all, u.1.1.turns.set (placeL u.1.1.all (rturn b (nth u.1.1.all y.1.2.2) ⟨z.1.2.2, u.1.2.2⟩).1).toNat (min (nth u.1.1.turns y.1.2.2 + 1) (nth u.1.1.turns (placeL u.1.1.all (rturn b (nth u.1.1.all y.1.2.2) ⟨z.1.2.2, u.1.2.2⟩).1).toNat)), u.1.1.sacks.set (placeL u.1.1.all (rturn b (nth u.1.1.all y.1.2.2) ⟨z.1.2.2, u.1.2.2⟩).1).toNat (min (nth u.1.1.sacks y.1.2.2 + sackC b ⟨z.1.2.2, u.1.2.2⟩) (nth u.1.1.sacks (placeL u.1.1.all (rturn b (nth u.1.1.all y.1.2.2) ⟨z.1.2.2, u.1.2.2⟩).1).toNat))⟩, true, u.1.2.2 + 1), u.2.1.low hr hui hc5 hpl.1.2 hpl.2 (rless_or hc7), hui, by show u.1.2.2 + 1 ≤ _; omega⟩) ?_ (by show b.sizes.length - (u.1.2.2 + 1) < b.sizes.length - u.1.2.2; omega)
                        (refine Ent.mk' ?_ ?_ <;> (repeat' (first | exact allSub_zero | exact allTags_nil | refine allSub_succ' ?_ (Ty.sub_any _) | refine allSub_succ' ?_ (Ty.sub_refl _))))
                        all_goals skip
                      ·
                        refine t_skip ?_
                        refine i_block ?_
                        refine i_then ?_
                        refine t_region ?_
                        refine mvI rfl ?_
                        refine r_add rfl rfl (by omega) (by omega) ?_
                        refine asI rfl ?_
                        refine r_nil ?_
                        refine i_round (⟨(u.1.1, u.1.2.1, u.1.2.2 + 1), u.2.1.known hpl.1.2 hpl.2 (rless_no hc7).1 (rless_no hc7).2, hui, by show u.1.2.2 + 1 ≤ _; omega⟩) ?_ (by show b.sizes.length - (u.1.2.2 + 1) < b.sizes.length - u.1.2.2; omega)
                        (refine Ent.mk' ?_ ?_ <;> (repeat' (first | exact allSub_zero | exact allTags_nil | refine allSub_succ' ?_ (Ty.sub_any _) | refine allSub_succ' ?_ (Ty.sub_refl _))))
                        all_goals skip
                ·
                  refine t_exit ?_
                  refine i_then_exit ?_
                  refine i_then_exit ?_
                  refine i_block_exit rfl ?_
                  refine i_block ?_
                  refine i_then ?_
                  refine t_region ?_
                  refine mvI rfl ?_
                  refine r_add rfl rfl (by omega) (by omega) ?_
                  refine asI rfl ?_
                  refine r_nil ?_
                  refine i_round (⟨(u.1.1, u.1.2.1, z.1.2.2 + 1), u.2.1.lots (by omega), u.2.2.1, by show z.1.2.2 + 1 ≤ _; omega⟩) ?_ (by show b.lots.length - (z.1.2.2 + 1) < b.lots.length - z.1.2.2; omega)
                  (refine Ent.mk' ?_ ?_ <;> (repeat' (first | exact allSub_zero | exact allTags_nil | refine allSub_succ' ?_ (Ty.sub_any _) | refine allSub_succ' ?_ (Ty.sub_refl _))))
                  all_goals skip
            ·
              refine t_exit ?_
              refine i_then_exit ?_
              refine i_then_exit ?_
              refine i_block_exit rfl ?_
              refine i_block ?_
              refine i_then ?_
              refine t_region ?_
              refine mvI rfl ?_
              refine r_add rfl rfl (by omega) (by omega) ?_
              refine asI rfl ?_
              refine r_nil ?_
              refine i_round (⟨(z.1.1, z.1.2.1, y.1.2.2 + 1), z.2.1.next (by omega)⟩) ?_ (by show 117649 - (y.1.2.2 + 1) < 117649 - y.1.2.2; omega)
              (refine Ent.mk' ?_ ?_ <;> (repeat' (first | exact allSub_zero | exact allTags_nil | refine allSub_succ' ?_ (Ty.sub_any _) | refine allSub_succ' ?_ (Ty.sub_refl _))))
              all_goals skip
        ·
          refine t_exit ?_
          refine i_then_exit ?_
          refine i_then_exit ?_
          refine i_block_exit rfl ?_
          refine i_block ?_
          refine i_round (⟨(y.1.1, y.1.2.1), y.2.rs, fun h => y.2.done' h hr (by omega)⟩) ?_ (by exact y.2.mu hc1)
          (refine Ent.mk' ?_ ?_ <;> (repeat' (first | exact allSub_zero | exact allTags_nil | refine allSub_succ' ?_ (Ty.sub_any _) | refine allSub_succ' ?_ (Ty.sub_refl _))))
          all_goals skip
    ·
      refine t_exit ?_
      refine i_then_exit ?_
      refine i_then_exit ?_
      refine i_block_exit rfl ?_
      refine i_then ?_
      refine t_seq ?_
      refine t_region ?_
      refine mvR rfl ?_
      refine mvR rfl ?_
      refine mvR rfl ?_
      refine asR rfl ?_
      refine asR rfl ?_
      refine asR rfl ?_
      refine r_nil ?_
      refine i_then ?_
      refine t_ret ?_
      refine i_rp3x (S := RDone b) (r1 := fun x => Ty.sl RowE x.all) (r2 := fun x => Ty.sl I64 x.turns) (r3 := fun x => Ty.sl I64 x.sacks) x.1.1 (x.2.2 hc1) rfl rfl rfl rfl ?_ ?_ ?_
      all_goals exact ret_row (by decide)
set_option maxRecDepth 100000 in
theorem c_rBest (b : Barn) (hr : b.Right) : Ctr Try.prog 19 [barnT b] (Ty.tup [Ty.int .i64 (bestV (planE b oneC) (costR b oneC)), Ty.int .i64 (bestV (planE b oneC) (costR b (sackC b)))]) := by
  refine fn_intro Try.func19 rfl (by decide) Try.ntmps19 (by exact Nat.le_of_ble_eq_true rfl) fun w0 M0 => ?_
  have hs := small_right hr
  refine t_seq ?_
  refine t_region ?_
  refine r_box_agg rfl ?_
  refine asI rfl ?_
  refine asI rfl ?_
  refine r_nil ?_
  refine i_then ?_
  refine t_seq ?_
  refine t_regionX 2 (s := 12) (S := RDone b) (T := fun x => Ty.tup [Ty.sl RowE x.all, Ty.sl I64 x.turns, Ty.sl I64 x.sacks]) (hd := fun _ => ⟨rfl, rfl⟩) rfl ?_
  refine r_load_ppN rfl rfl rfl (by exact Nat.le_of_ble_eq_true rfl) ?_
  refine r_call (c_rReached b hr) rfl rfl rfl rfl rfl ?_
  refine r_nil ?_
  refine ⟨rfl, fun xr hxr => ?_⟩
  refine mvT rfl ?_
  refine r_extract rfl rfl ?_
  refine r_extract rfl rfl ?_
  refine r_extract rfl rfl ?_
  refine asS rfl ?_
  refine asS rfl ?_
  refine asS rfl ?_
  refine r_nil ?_
  refine i_then ?_
  refine t_seq ?_
  have hfx := hxr.rs.few hr
  have hlt := hxr.rs.lt
  have hls := hxr.rs.ls
  refine t_region ?_
  refine asI rfl ?_
  refine asI rfl ?_
  refine r_nil ?_
  refine i_then ?_
  refine t_seq ?_
  refine t_seq ?_
  refine t_region ?_
  refine asI rfl ?_
  refine r_nil ?_
  refine i_then ?_
  refine t_block ?_
  refine t_loop (fun (k : {k : Nat × Int × Int // MIx b xr xr.turns k.1 k.2.1 ∧ MIx b xr xr.sacks k.1 k.2.2}) => live [(1, Ty.pp (barnTys b)), (4, Ty.sl RowE xr.all), (5, Ty.sl I64 xr.turns), (6, Ty.sl I64 xr.sacks), (7, Ty.int .i64 k.1.2.1), (8, Ty.int .i64 k.1.2.2), (9, Ty.int .i64 (k.1.1 : Nat))] []) (fun k => xr.all.length - k.1.1) (⟨(0, -1, -1), mix0 b xr _, mix0 b xr _⟩) ?_ fun k => ?_
  · (refine Ent.mk' ?_ ?_ <;> (repeat' (first | exact allSub_zero | exact allTags_nil | refine allSub_succ' ?_ (Ty.sub_any _) | refine allSub_succ' ?_ (Ty.sub_refl _))))
  ·
    have hkl := k.2.1.le
    refine t_seq ?_
    refine t_seq ?_
    refine t_region ?_
    refine mvI rfl ?_
    refine mvS rfl ?_
    refine r_len rfl rfl rfl ?_
    refine r_bin rfl rfl rfl ?_
    refine r_nil ?_
    refine i_then ?_
    refine t_cond_dec rfl (fun hc1 => ?_) (fun hc1 => ?_)
    ·
      refine t_skip ?_
      refine i_then ?_
      refine t_seq ?_
      refine t_block ?_
      refine t_seq ?_
      refine t_seq ?_
      have hk : k.1.1 < xr.all.length := by omega
      have hcap := hxr.rs.cap _ hk
      have hv1 := hcap.1.1
      have hv2 := hcap.2.1
      have hpl := hxr.rs.len _ (nth_mem hk)
      refine t_draw mixed rfl ?_
      refine r_load_ppN rfl rfl rfl (by exact Nat.le_of_ble_eq_true rfl) ?_
      refine mvS rfl ?_
      refine mvI rfl ?_
      refine r_index_slN rfl rfl rfl rfl rfl rfl (by omega) ?_
      refine r_load_pp rfl rfl rfl rfl ?_
      refine r_call (c_rMade b hs (nth xr.all k.1.1) (Nat.le_of_eq hpl)) rfl rfl rfl rfl rfl ?_
      refine mvB rfl ?_
      apply r_guard (s := 28) rfl rfl rfl
      · intro hg; apply opT_of; (refine mvI rfl ?_); refine r_nil ?_; exact rfl
      · exact rfl
      · exact rfl
      apply r_guard (s := 28) rfl rfl rfl
      · intro hg; apply opT_strip (s := 29) rfl (by (rw [hg]; rfl)); apply opT_of; (refine r_bin rfl rfl rfl ?_); refine r_nil ?_; exact rfl
      · exact rfl
      · exact rfl
      apply r_guard (s := 28) rfl rfl rfl
      · intro hg; apply opT_strip (s := 30) rfl (by (rw [hg]; rfl)); apply opT_of; (refine mvB rfl ?_); refine r_nil ?_; exact rfl
      · exact rfl
      · exact rfl
      apply r_guardG (s := 31) rfl rfl rfl
      · intro hg1 hg2; apply opT_of; (refine mvS rfl ?_); refine r_nil ?_; exact rfl
      · exact rfl
      · exact rfl
      apply r_guardG (s := 31) rfl rfl rfl
      · intro hg1 hg2; apply opT_of; (refine mvI rfl ?_); refine r_nil ?_; exact rfl
      · exact rfl
      · exact rfl
      apply r_guardG (s := 31) rfl rfl rfl
      · intro hg1 hg2; apply opT_strip (s := 32) rfl (by (rw [hg1, hg2]; rfl)); apply opT_strip (s := 33) rfl (by (rw [hg1, hg2]; rfl)); apply opT_of; (refine r_index_slN rfl rfl rfl rfl rfl rfl (by omega) ?_); refine r_nil ?_; exact rfl
      · exact rfl
      · exact rfl
      apply r_guardG (s := 31) rfl rfl rfl
      · intro hg1 hg2; apply opT_strip (s := 34) rfl (by (rw [hg1, hg2]; rfl)); apply opT_of; (refine r_load_pp rfl rfl rfl rfl ?_); refine r_nil ?_; exact rfl
      · exact rfl
      · exact rfl
      apply r_guardG (s := 31) rfl rfl rfl
      · intro hg1 hg2; apply opT_of; (refine mvI rfl ?_); refine r_nil ?_; exact rfl
      · exact rfl
      · exact rfl
      apply r_guardG (s := 31) rfl rfl rfl
      · intro hg1 hg2; apply opT_strip (s := 35) rfl (by (rw [hg1, hg2]; rfl)); apply opT_strip (s := 36) rfl (by (rw [hg1, hg2]; rfl)); apply opT_of; (refine r_bin rfl rfl rfl ?_); refine r_nil ?_; exact rfl
      · exact rfl
      · exact rfl
      apply r_guard (s := 28) rfl rfl rfl
      · intro hg; apply opT_strip (s := 31) rfl (by (rw [hg]; rfl)); apply opT_stripG (s := 37) rfl (by (rw [hg]; rfl)); apply opT_of; (refine r_or rfl rfl ?_); refine r_nil ?_; exact rfl
      · exact rfl
      · exact rfl
      refine r_and rfl rfl ?_
      refine r_nil ?_
      refine ⟨by kernel_rfl, ?_⟩
      refine i_then ?_
      refine t_cond rfl (fun hc2 => ?_) (fun hc2 => ?_)
      ·
        refine t_region ?_
        refine mvS rfl ?_
        refine mvI rfl ?_
        refine r_index_slN rfl rfl rfl rfl rfl rfl (by omega) ?_
        refine r_load_pp rfl rfl rfl rfl ?_
        refine asI rfl ?_
        refine r_nil ?_
        refine i_then ?_
        refine t_seq ?_
        refine t_draw mixed rfl ?_
        refine r_load_ppN rfl rfl rfl (by exact Nat.le_of_ble_eq_true rfl) ?_
        refine mvS rfl ?_
        refine mvI rfl ?_
        refine r_index_slN rfl rfl rfl rfl rfl rfl (by omega) ?_
        refine r_load_pp rfl rfl rfl rfl ?_
        refine r_call (c_rMade b hs (nth xr.all k.1.1) (Nat.le_of_eq hpl)) rfl rfl rfl rfl rfl ?_
        refine mvB rfl ?_
        apply r_guard (s := 50) rfl rfl rfl
        · intro hg; apply opT_of; (refine mvI rfl ?_); refine r_nil ?_; exact rfl
        · exact rfl
        · exact rfl
        apply r_guard (s := 50) rfl rfl rfl
        · intro hg; apply opT_strip (s := 51) rfl (by (rw [hg]; rfl)); apply opT_of; (refine r_bin rfl rfl rfl ?_); refine r_nil ?_; exact rfl
        · exact rfl
        · exact rfl
        apply r_guard (s := 50) rfl rfl rfl
        · intro hg; apply opT_strip (s := 52) rfl (by (rw [hg]; rfl)); apply opT_of; (refine mvB rfl ?_); refine r_nil ?_; exact rfl
        · exact rfl
        · exact rfl
        apply r_guardG (s := 53) rfl rfl rfl
        · intro hg1 hg2; apply opT_of; (refine mvS rfl ?_); refine r_nil ?_; exact rfl
        · exact rfl
        · exact rfl
        apply r_guardG (s := 53) rfl rfl rfl
        · intro hg1 hg2; apply opT_of; (refine mvI rfl ?_); refine r_nil ?_; exact rfl
        · exact rfl
        · exact rfl
        apply r_guardG (s := 53) rfl rfl rfl
        · intro hg1 hg2; apply opT_strip (s := 54) rfl (by (rw [hg1, hg2]; rfl)); apply opT_strip (s := 55) rfl (by (rw [hg1, hg2]; rfl)); apply opT_of; (refine r_index_slN rfl rfl rfl rfl rfl rfl (by omega) ?_); refine r_nil ?_; exact rfl
        · exact rfl
        · exact rfl
        apply r_guardG (s := 53) rfl rfl rfl
        · intro hg1 hg2; apply opT_strip (s := 56) rfl (by (rw [hg1, hg2]; rfl)); apply opT_of; (refine r_load_pp rfl rfl rfl rfl ?_); refine r_nil ?_; exact rfl
        · exact rfl
        · exact rfl
        apply r_guardG (s := 53) rfl rfl rfl
        · intro hg1 hg2; apply opT_of; (refine mvI rfl ?_); refine r_nil ?_; exact rfl
        · exact rfl
        · exact rfl
        apply r_guardG (s := 53) rfl rfl rfl
        · intro hg1 hg2; apply opT_strip (s := 57) rfl (by (rw [hg1, hg2]; rfl)); apply opT_strip (s := 58) rfl (by (rw [hg1, hg2]; rfl)); apply opT_of; (refine r_bin rfl rfl rfl ?_); refine r_nil ?_; exact rfl
        · exact rfl
        · exact rfl
        apply r_guard (s := 50) rfl rfl rfl
        · intro hg; apply opT_strip (s := 53) rfl (by (rw [hg]; rfl)); apply opT_stripG (s := 59) rfl (by (rw [hg]; rfl)); apply opT_of; (refine r_or rfl rfl ?_); refine r_nil ?_; exact rfl
        · exact rfl
        · exact rfl
        refine r_and rfl rfl ?_
        refine r_nil ?_
        refine ⟨by kernel_rfl, ?_⟩
        refine i_then ?_
        refine t_cond rfl (fun hc3 => ?_) (fun hc3 => ?_)
        ·
          refine t_region ?_
          refine mvS rfl ?_
          refine mvI rfl ?_
          refine r_index_slN rfl rfl rfl rfl rfl rfl (by omega) ?_
          refine r_load_pp rfl rfl rfl rfl ?_
          refine asI rfl ?_
          refine r_nil ?_
          refine i_block ?_
          refine i_then ?_
          refine t_region ?_
          refine mvI rfl ?_
          refine r_add rfl rfl (by omega) (by omega) ?_
          refine asI rfl ?_
          refine r_nil ?_
          refine i_round (⟨(k.1.1 + 1, nth xr.turns k.1.1, nth xr.sacks k.1.1), k.2.1.yes hk hv1 hc2, k.2.2.yes hk hv2 hc3⟩) ?_ (by show xr.all.length - (k.1.1 + 1) < xr.all.length - k.1.1; omega)
          (refine Ent.mk' ?_ ?_ <;> (repeat' (first | exact allSub_zero | exact allTags_nil | refine allSub_succ' ?_ (Ty.sub_any _) | refine allSub_succ' ?_ (Ty.sub_refl _))))
          all_goals skip
        ·
          refine t_skip ?_
          refine i_block ?_
          refine i_then ?_
          refine t_region ?_
          refine mvI rfl ?_
          refine r_add rfl rfl (by omega) (by omega) ?_
          refine asI rfl ?_
          refine r_nil ?_
          refine i_round (⟨(k.1.1 + 1, nth xr.turns k.1.1, k.1.2.2), k.2.1.yes hk hv1 hc2, k.2.2.no hk hc3⟩) ?_ (by show xr.all.length - (k.1.1 + 1) < xr.all.length - k.1.1; omega)
          (refine Ent.mk' ?_ ?_ <;> (repeat' (first | exact allSub_zero | exact allTags_nil | refine allSub_succ' ?_ (Ty.sub_any _) | refine allSub_succ' ?_ (Ty.sub_refl _))))
          all_goals skip
      ·
        refine t_skip ?_
        refine i_then ?_
        refine t_seq ?_
        refine t_draw mixed rfl ?_
        refine r_load_ppN rfl rfl rfl (by exact Nat.le_of_ble_eq_true rfl) ?_
        refine mvS rfl ?_
        refine mvI rfl ?_
        refine r_index_slN rfl rfl rfl rfl rfl rfl (by omega) ?_
        refine r_load_pp rfl rfl rfl rfl ?_
        refine r_call (c_rMade b hs (nth xr.all k.1.1) (Nat.le_of_eq hpl)) rfl rfl rfl rfl rfl ?_
        refine mvB rfl ?_
        apply r_guard (s := 50) rfl rfl rfl
        · intro hg; apply opT_of; (refine mvI rfl ?_); refine r_nil ?_; exact rfl
        · exact rfl
        · exact rfl
        apply r_guard (s := 50) rfl rfl rfl
        · intro hg; apply opT_strip (s := 51) rfl (by (rw [hg]; rfl)); apply opT_of; (refine r_bin rfl rfl rfl ?_); refine r_nil ?_; exact rfl
        · exact rfl
        · exact rfl
        apply r_guard (s := 50) rfl rfl rfl
        · intro hg; apply opT_strip (s := 52) rfl (by (rw [hg]; rfl)); apply opT_of; (refine mvB rfl ?_); refine r_nil ?_; exact rfl
        · exact rfl
        · exact rfl
        apply r_guardG (s := 53) rfl rfl rfl
        · intro hg1 hg2; apply opT_of; (refine mvS rfl ?_); refine r_nil ?_; exact rfl
        · exact rfl
        · exact rfl
        apply r_guardG (s := 53) rfl rfl rfl
        · intro hg1 hg2; apply opT_of; (refine mvI rfl ?_); refine r_nil ?_; exact rfl
        · exact rfl
        · exact rfl
        apply r_guardG (s := 53) rfl rfl rfl
        · intro hg1 hg2; apply opT_strip (s := 54) rfl (by (rw [hg1, hg2]; rfl)); apply opT_strip (s := 55) rfl (by (rw [hg1, hg2]; rfl)); apply opT_of; (refine r_index_slN rfl rfl rfl rfl rfl rfl (by omega) ?_); refine r_nil ?_; exact rfl
        · exact rfl
        · exact rfl
        apply r_guardG (s := 53) rfl rfl rfl
        · intro hg1 hg2; apply opT_strip (s := 56) rfl (by (rw [hg1, hg2]; rfl)); apply opT_of; (refine r_load_pp rfl rfl rfl rfl ?_); refine r_nil ?_; exact rfl
        · exact rfl
        · exact rfl
        apply r_guardG (s := 53) rfl rfl rfl
        · intro hg1 hg2; apply opT_of; (refine mvI rfl ?_); refine r_nil ?_; exact rfl
        · exact rfl
        · exact rfl
        apply r_guardG (s := 53) rfl rfl rfl
        · intro hg1 hg2; apply opT_strip (s := 57) rfl (by (rw [hg1, hg2]; rfl)); apply opT_strip (s := 58) rfl (by (rw [hg1, hg2]; rfl)); apply opT_of; (refine r_bin rfl rfl rfl ?_); refine r_nil ?_; exact rfl
        · exact rfl
        · exact rfl
        apply r_guard (s := 50) rfl rfl rfl
        · intro hg; apply opT_strip (s := 53) rfl (by (rw [hg]; rfl)); apply opT_stripG (s := 59) rfl (by (rw [hg]; rfl)); apply opT_of; (refine r_or rfl rfl ?_); refine r_nil ?_; exact rfl
        · exact rfl
        · exact rfl
        refine r_and rfl rfl ?_
        refine r_nil ?_
        refine ⟨by kernel_rfl, ?_⟩
        refine i_then ?_
        refine t_cond rfl (fun hc4 => ?_) (fun hc4 => ?_)
        ·
          refine t_region ?_
          refine mvS rfl ?_
          refine mvI rfl ?_
          refine r_index_slN rfl rfl rfl rfl rfl rfl (by omega) ?_
          refine r_load_pp rfl rfl rfl rfl ?_
          refine asI rfl ?_
          refine r_nil ?_
          refine i_block ?_
          refine i_then ?_
          refine t_region ?_
          refine mvI rfl ?_
          refine r_add rfl rfl (by omega) (by omega) ?_
          refine asI rfl ?_
          refine r_nil ?_
          refine i_round (⟨(k.1.1 + 1, k.1.2.1, nth xr.sacks k.1.1), k.2.1.no hk hc2, k.2.2.yes hk hv2 hc4⟩) ?_ (by show xr.all.length - (k.1.1 + 1) < xr.all.length - k.1.1; omega)
          (refine Ent.mk' ?_ ?_ <;> (repeat' (first | exact allSub_zero | exact allTags_nil | refine allSub_succ' ?_ (Ty.sub_any _) | refine allSub_succ' ?_ (Ty.sub_refl _))))
          all_goals skip
        ·
          refine t_skip ?_
          refine i_block ?_
          refine i_then ?_
          refine t_region ?_
          refine mvI rfl ?_
          refine r_add rfl rfl (by omega) (by omega) ?_
          refine asI rfl ?_
          refine r_nil ?_
          refine i_round (⟨(k.1.1 + 1, k.1.2.1, k.1.2.2), k.2.1.no hk hc2, k.2.2.no hk hc4⟩) ?_ (by show xr.all.length - (k.1.1 + 1) < xr.all.length - k.1.1; omega)
          (refine Ent.mk' ?_ ?_ <;> (repeat' (first | exact allSub_zero | exact allTags_nil | refine allSub_succ' ?_ (Ty.sub_any _) | refine allSub_succ' ?_ (Ty.sub_refl _))))
          all_goals skip
    ·
      refine t_exit ?_
      refine i_then_exit ?_
      refine i_then_exit ?_
      refine i_block_exit rfl ?_
      refine i_then ?_
      refine t_seq ?_
      refine t_region ?_
      refine mvI rfl ?_
      refine mvI rfl ?_
      refine asI rfl ?_
      refine asI rfl ?_
      refine r_nil ?_
      refine i_then ?_
      refine t_ret ?_
      refine i_rp2 rfl rfl rfl ?_ ?_
      all_goals skip
      all_goals first | exact ret_eq rfl rfl (congrArg (Ty.int .i64) (hxr.turns hr (mix_all k.2.1 (by omega)))) | exact ret_eq rfl rfl (congrArg (Ty.int .i64) (hxr.sacks hr (mix_all k.2.2 (by omega))))
end Go.Proofs.Ytpnndljmhpepgaa

namespace Go.Proofs.Ytpnndljmhpepgaa
open Go Go.T
set_option maxHeartbeats 6000000
section
variable {b : Barn}
theorem nowide {b : Barn} (h : wideV b = false) : b.Small ∧ (checkB b = 0 → manyV b ≤ 150) := by
  unfold wideV at h
  rw [Bool.or_eq_false_iff] at h
  refine ⟨small_great h.1, fun h0 => ?_⟩
  have h2 := h.2
  rw [decide_eq_true h0, Bool.true_and, decide_eq_false_iff_not] at h2
  omega
theorem fw_cost0 (hr : b.Right) (h : planE b oneC = 0) : 0 ≤ costR b oneC := by
  obtain ⟨_, h2, _⟩ := (cheap hr (one_ok b)).yes h
  rw [cost_one] at h2; omega
theorem fw_clash (hr : b.Right) (h : bestV (planE b oneC) (costR b oneC) < 0) : 7 = planE b oneC ∧ 0 = costR b oneC ∧ 0 = costR b (sackC b) := by
  have hO := cheap hr (one_ok b)
  have hL := cheap hr (sack_ok hr)
  rcases hO.err with e | e
  · have := fw_cost0 hr e
    unfold bestV at h; rw [if_pos e] at h; omega
  · have e2 := (cheap_same hL hO).trans e
    exact ⟨e.symm, (hO.no e).2.1.symm, (hL.no e2).2.1.symm⟩
theorem fw_good (hr : b.Right) (h : ¬ bestV (planE b oneC) (costR b oneC) < 0) : planE b oneC = 0 ∧ bestV (planE b oneC) (costR b oneC) = costR b oneC ∧ bestV (planE b oneC) (costR b (sackC b)) = costR b (sackC b) := by
  rcases (cheap hr (one_ok b)).err with e | e
  · exact ⟨e, if_pos e, if_pos e⟩
  · exfalso; apply h; unfold bestV; rw [e, if_neg (by decide)]; decide
theorem fw_err (h : ¬ checkB b = 0) (c : Tur → Int) : checkB b = planE b c := (if_neg h).symm
theorem fw_cost (h : ¬ checkB b = 0) (c : Tur → Int) : 0 = costR b c := (if_neg h).symm
theorem fw_places (h : ¬ checkB b = 0) : 0 = placesV b := (if_neg h).symm
theorem fw_ok (h : planE b oneC = 0) : checkB b = 0 := Classical.byContradiction fun hn => by rw [← fw_err hn] at h; exact hn h
theorem fw_same (b : Barn) : planE b (sackC b) = planE b oneC := by
  by_cases h : checkB b = 0
  · have hr := check_right h
    exact cheap_same (cheap hr (sack_ok hr)) (cheap hr (one_ok b))
  · rw [← fw_err h, ← fw_err h]
theorem fw_len (b : Barn) : ((planR b oneC).length : Int) = costR b oneC := by
  by_cases h : checkB b = 0
  · have hr := check_right h
    have hO := cheap hr (one_ok b)
    rcases hO.err with e | e
    · rw [← (hO.yes e).2.1, cost_one]
    · rw [(hO.no e).1, (hO.no e).2.1]; rfl
  · rw [← fw_cost h]; unfold planR; rw [if_neg h]; rfl
theorem fw_short (hm : checkB b = 0 → manyV b ≤ 150) : (planR b (sackC b)).length ≤ 200 ∧ (planR b oneC).length ≤ 200 ∧ (¬ planE b oneC = 0 → planR b (sackC b) = []) := by
  by_cases h : checkB b = 0
  · have hr := check_right h
    have hO := cheap hr (one_ok b)
    have hL := cheap hr (sack_ok hr)
    have h150 := hm h
    rcases hO.err with e | e
    · have e2 := (fw_same b).trans e
      have h1 := light_len hr hL e2
      have h2 := few_len hr hO e
      exact ⟨by omega, by omega, fun hn => absurd e hn⟩
    · have e2 := (fw_same b).trans e
      rw [(hO.no e).1, (hL.no e2).1]
      exact ⟨by decide, by decide, fun _ => rfl⟩
  · unfold planR; rw [if_neg h, if_neg h]; exact ⟨by decide, by decide, fun _ => rfl⟩
theorem fw_cut (hm : checkB b = 0 → manyV b ≤ 150) : (((((((((!decide (planE b oneC = planE b oneC) || !decide (planE b oneC = planE b oneC)) || !decide (planE b oneC = planE b oneC)) || !decide (checkB b = checkB b)) || !decide (costR b oneC = costR b oneC)) || !decide (costR b (sackC b) = costR b (sackC b))) || !decide (placesV b = placesV b)) || !decide (((planR b oneC).length : Int) = costR b oneC)) || decide (((planR b (sackC b)).length : Int) > 200)) || (!decide (planE b oneC = 0) && decide (((planR b (sackC b)).length : Int) > 0))) = false := by
  obtain ⟨h1, _, h3⟩ := fw_short hm
  rw [decide_eq_true (fw_len b), decide_eq_false (show ¬ ((planR b (sackC b)).length : Int) > 200 by omega)]
  by_cases e : planE b oneC = 0
  · rw [decide_eq_true e]; simp
  · rw [h3 e]; simp
end
attribute [local irreducible] planE planR costR placesV checkB checkR madeL afterR sameV wideV bestV
attribute [local irreducible] dInt dBool dSl dPp dPtr dAgg dTup dClo dAny dEx dStr dGd dCells dVec dVs dRow dOp nth Tri Into TOps Ctr bodyPost Exit.then Exit.inBlock Code.wp Code.wpIn dWhen dPa dPe dAo dArr dMp dPm dMap dCJ CtrG CtrI OpY keepPost iterPost bodyPostM roundQ
attribute [local irreducible] dRowJ dMs dFit
set_option maxRecDepth 100000 in
theorem c_TurnFewest (b : Barn) (hb : b.lots.length * 24 ≤ 140737488355328) : Ctr Try.prog 3 [barnT b] (Ty.bool true) := by
  refine fn_intro Try.func3 rfl (by decide) Try.ntmps3 (by exact Nat.le_of_ble_eq_true rfl) fun w0 M0 => ?_
  refine t_seq ?_
  refine t_region ?_
  refine r_box_agg rfl ?_
  refine asB rfl ?_
  refine r_nil ?_
  refine i_then ?_
  refine t_seq ?_
  refine t_seq ?_
  refine t_region ?_
  refine r_load_ppN rfl rfl rfl (by exact Nat.le_of_ble_eq_true rfl) ?_
  refine r_call (c_wide b hb) rfl rfl rfl rfl rfl ?_
  refine r_nil ?_
  refine i_then ?_
  refine t_cond rfl (fun hc1 => ?_) (fun hc1 => ?_)
  ·
    refine t_seq ?_
    refine t_region ?_
    refine r_call (c_awake) rfl rfl rfl rfl rfl ?_
    refine asB rfl ?_
    refine r_nil ?_
    refine i_then ?_
    refine t_ret ?_
    refine i_then_ret ?_
    refine i_rp1 rfl rfl ?_
    all_goals exact ret_refl rfl rfl
    all_goals trace_state
  ·
    refine t_skip ?_
    refine i_then ?_
    refine t_seq ?_
    obtain ⟨hs, hmany⟩ := nowide hc1
    have hsh := fw_short hmany
    refine t_draw mixed rfl ?_
    refine r_load_ppN rfl rfl rfl (by exact Nat.le_of_ble_eq_true rfl) ?_
    refine r_call (c_Own b hs) rfl rfl rfl rfl rfl ?_
    refine r_load_ppN rfl rfl rfl (by exact Nat.le_of_ble_eq_true rfl) ?_
    refine r_call (c_theirs b hs) rfl rfl rfl rfl rfl ?_
    refine r_alloc rfl (by exact List.cons_ne_nil _ _) rfl ?_
    refine r_alloc rfl (by exact List.cons_ne_nil _ _) rfl ?_
    refine r_storeN rfl rfl (by decide) rfl rfl rfl rfl rfl rfl ?_
    refine r_storeN rfl rfl (by decide) rfl rfl rfl rfl rfl rfl ?_
    refine r_nil ?_
    refine ⟨by kernel_rfl, ?_⟩
    refine i_then ?_
    refine t_seq ?_
    refine t_region ?_
    refine r_load_ptrN rfl rfl (by decide) rfl rfl (by exact Nat.le_of_ble_eq_true rfl) ?_
    refine r_call (c_rCheck b hs) rfl rfl rfl rfl rfl ?_
    refine asI rfl ?_
    refine r_nil ?_
    refine i_then ?_
    refine t_seq ?_
    refine t_as (s := 5) rfl (Ty.sub_int (check_eq b)) ?_
    refine t_region ?_
    refine mvI rfl ?_
    refine asI rfl ?_
    refine asI rfl ?_
    refine asI rfl ?_
    refine asI rfl ?_
    refine r_nil ?_
    refine i_then ?_
    refine t_join (J := live [(1, Ty.pp (barnTys b)), (3, Ty.ptr 4 0), (4, Ty.ptr 5 0), (5, Ty.int .i64 (checkB b)), (6, Ty.int .i64 (planE b oneC)), (7, Ty.int .i64 (costR b oneC)), (8, Ty.int .i64 (costR b (sackC b))), (9, Ty.int .i64 (placesV b))] [(4, Cont.cells 25 (barnTys b)), (5, Cont.cells 31 (barnTys b))]) ?_ ?_
    ·
      refine t_seq ?_
      refine t_region ?_
      refine mvI rfl ?_
      refine r_bin rfl rfl rfl ?_
      refine r_nil ?_
      refine i_then ?_
      refine t_cond_dec rfl (fun hc2 => ?_) (fun hc2 => ?_)
      ·
        refine t_seq ?_
        have hr := check_right hc2
        refine t_regionX 2 (s := 44) (S := RDone b) (T := fun x => Ty.tup [Ty.sl RowE x.all, Ty.sl I64 x.turns, Ty.sl I64 x.sacks]) (hd := fun _ => ⟨rfl, rfl⟩) rfl ?_
        refine r_load_ptrN rfl rfl (by decide) rfl rfl (by exact Nat.le_of_ble_eq_true rfl) ?_
        refine r_call (c_rReached b hr) rfl rfl rfl rfl rfl ?_
        refine r_nil ?_
        refine ⟨rfl, fun xr hxr => ?_⟩
        refine mvT rfl ?_
        refine r_extract rfl rfl ?_
        refine r_extract rfl rfl ?_
        refine r_extract rfl rfl ?_
        refine asS rfl ?_
        refine asS rfl ?_
        refine asS rfl ?_
        refine r_nil ?_
        refine i_then ?_
        refine t_seq ?_
        refine t_region ?_
        refine mvS rfl ?_
        refine r_len rfl rfl rfl ?_
        refine asI rfl ?_
        refine r_nil ?_
        refine i_then ?_
        refine t_seq ?_
        refine t_as (s := 9) rfl (Ty.sub_int (hxr.count hr)) ?_
        refine t_region ?_
        refine r_load_ptrN rfl rfl (by decide) rfl rfl (by exact Nat.le_of_ble_eq_true rfl) ?_
        refine r_call (c_rBest b hr) rfl rfl rfl rfl rfl ?_
        refine mvT rfl ?_
        refine r_extract rfl rfl ?_
        refine r_extract rfl rfl ?_
        refine asI rfl ?_
        refine asI rfl ?_
        refine r_nil ?_
        refine i_then ?_
        refine t_seq ?_
        refine t_region ?_
        refine mvI rfl ?_
        refine r_bin rfl rfl rfl ?_
        refine r_nil ?_
        refine i_then ?_
        refine t_cond_dec rfl (fun hc3 => ?_) (fun hc3 => ?_)
        ·
          refine t_region ?_
          refine asI rfl ?_
          refine asI rfl ?_
          refine asI rfl ?_
          refine r_nil ?_
          refine i_join ?_
          (refine Ent.mk' ?_ ?_ <;> (repeat' (first | exact allSub_zero | exact allTags_nil | refine allSub_succ' ?_ (Ty.sub_any _) | refine allSub_succ' ?_ (Ty.sub_refl _) | refine allTags_cons rfl (Cont.sub_refl _) ?_ | refine allSub_succ' ?_ ?_)))
          all_goals first | exact Ty.sub_int (fw_clash hr hc3).1 | exact Ty.sub_int (fw_clash hr hc3).2.1 | exact Ty.sub_int (fw_clash hr hc3).2.2
        ·
          refine t_skip ?_
          refine i_join ?_
          (refine Ent.mk' ?_ ?_ <;> (repeat' (first | exact allSub_zero | exact allTags_nil | refine allSub_succ' ?_ (Ty.sub_any _) | refine allSub_succ' ?_ (Ty.sub_refl _) | refine allTags_cons rfl (Cont.sub_refl _) ?_ | refine allSub_succ' ?_ ?_)))
          all_goals first | exact Ty.sub_int (hc2.trans (fw_good hr hc3).1.symm) | exact Ty.sub_int (fw_good hr hc3).2.1 | exact Ty.sub_int (fw_good hr hc3).2.2
      ·
        refine t_skip ?_
        refine i_join ?_
        (refine Ent.mk' ?_ ?_ <;> (repeat' (first | exact allSub_zero | exact allTags_nil | refine allSub_succ' ?_ (Ty.sub_any _) | refine allSub_succ' ?_ (Ty.sub_refl _) | refine allTags_cons rfl (Cont.sub_refl _) ?_ | refine allSub_succ' ?_ ?_)))
        all_goals first | exact Ty.sub_int (fw_err hc2 _) | exact Ty.sub_int (fw_cost hc2 _) | exact Ty.sub_int (fw_places hc2)
    ·
      refine t_seq ?_
      refine t_region ?_
      refine r_load_ptrN rfl rfl (by decide) rfl rfl (by exact Nat.le_of_ble_eq_true rfl) ?_
      refine r_call (c_Fewest b hs) rfl rfl rfl rfl rfl ?_
      refine mvT rfl ?_
      refine r_extract rfl rfl ?_
      refine r_extract rfl rfl ?_
      refine asI rfl ?_
      refine asI rfl ?_
      refine r_nil ?_
      refine i_then ?_
      refine t_seq ?_
      refine t_region ?_
      refine r_load_ptrN rfl rfl (by decide) rfl rfl (by exact Nat.le_of_ble_eq_true rfl) ?_
      refine r_call (c_Plan b hs) rfl rfl rfl rfl rfl ?_
      refine mvT rfl ?_
      refine r_extract rfl rfl ?_
      refine r_extract rfl rfl ?_
      refine asS rfl ?_
      refine asI rfl ?_
      refine r_nil ?_
      refine i_then ?_
      refine t_seq ?_
      refine t_region ?_
      refine r_load_ptrN rfl rfl (by decide) rfl rfl (by exact Nat.le_of_ble_eq_true rfl) ?_
      refine r_call (c_Lightest b hs) rfl rfl rfl rfl rfl ?_
      refine mvT rfl ?_
      refine r_extract rfl rfl ?_
      refine r_extract rfl rfl ?_
      refine r_extract rfl rfl ?_
      refine asS rfl ?_
      refine asI rfl ?_
      refine asI rfl ?_
      refine r_nil ?_
      refine i_then ?_
      refine t_seq ?_
      refine t_as (s := 19) rfl (Ty.sub_int (fw_same b)) ?_
      refine t_region ?_
      refine r_load_ptrN rfl rfl (by decide) rfl rfl (by exact Nat.le_of_ble_eq_true rfl) ?_
      refine r_call (c_Places b hs) rfl rfl rfl rfl rfl ?_
      refine mvT rfl ?_
      refine r_extract rfl rfl ?_
      refine r_extract rfl rfl ?_
      refine asI rfl ?_
      refine asI rfl ?_
      refine r_nil ?_
      refine i_then ?_
      refine t_seq ?_
      refine t_seq ?_
      refine t_region ?_
      refine mvI rfl ?_
      refine mvI rfl ?_
      refine r_bin rfl rfl rfl ?_
      refine mvB rfl ?_
      apply r_guard (s := 81) rfl rfl rfl
      · intro hg; apply opT_of; (refine mvI rfl ?_); refine r_nil ?_; exact rfl
      · exact rfl
      · exact rfl
      apply r_guard (s := 81) rfl rfl rfl
      · intro hg; apply opT_of; (refine mvI rfl ?_); refine r_nil ?_; exact rfl
      · exact rfl
      · exact rfl
      apply r_guard (s := 81) rfl rfl rfl
      · intro hg; apply opT_strip (s := 82) rfl (by (rw [hg]; rfl)); apply opT_strip (s := 83) rfl (by (rw [hg]; rfl)); apply opT_of; (refine r_bin rfl rfl rfl ?_); refine r_nil ?_; exact rfl
      · exact rfl
      · exact rfl
      refine r_or rfl rfl ?_
      refine mvB rfl ?_
      apply r_guard (s := 86) rfl rfl rfl
      · intro hg; apply opT_of; (refine mvI rfl ?_); refine r_nil ?_; exact rfl
      · exact rfl
      · exact rfl
      apply r_guard (s := 86) rfl rfl rfl
      · intro hg; apply opT_of; (refine mvI rfl ?_); refine r_nil ?_; exact rfl
      · exact rfl
      · exact rfl
      apply r_guard (s := 86) rfl rfl rfl
      · intro hg; apply opT_strip (s := 87) rfl (by (rw [hg]; rfl)); apply opT_strip (s := 88) rfl (by (rw [hg]; rfl)); apply opT_of; (refine r_bin rfl rfl rfl ?_); refine r_nil ?_; exact rfl
      · exact rfl
      · exact rfl
      refine r_or rfl rfl ?_
      refine mvB rfl ?_
      apply r_guard (s := 91) rfl rfl rfl
      · intro hg; apply opT_of; (refine mvI rfl ?_); refine r_nil ?_; exact rfl
      · exact rfl
      · exact rfl
      apply r_guard (s := 91) rfl rfl rfl
      · intro hg; apply opT_of; (refine mvI rfl ?_); refine r_nil ?_; exact rfl
      · exact rfl
      · exact rfl
      apply r_guard (s := 91) rfl rfl rfl
      · intro hg; apply opT_strip (s := 92) rfl (by (rw [hg]; rfl)); apply opT_strip (s := 93) rfl (by (rw [hg]; rfl)); apply opT_of; (refine r_bin rfl rfl rfl ?_); refine r_nil ?_; exact rfl
      · exact rfl
      · exact rfl
      refine r_or rfl rfl ?_
      refine mvB rfl ?_
      apply r_guard (s := 96) rfl rfl rfl
      · intro hg; apply opT_of; (refine mvI rfl ?_); refine r_nil ?_; exact rfl
      · exact rfl
      · exact rfl
      apply r_guard (s := 96) rfl rfl rfl
      · intro hg; apply opT_of; (refine mvI rfl ?_); refine r_nil ?_; exact rfl
      · exact rfl
      · exact rfl
      apply r_guard (s := 96) rfl rfl rfl
      · intro hg; apply opT_strip (s := 97) rfl (by (rw [hg]; rfl)); apply opT_strip (s := 98) rfl (by (rw [hg]; rfl)); apply opT_of; (refine r_bin rfl rfl rfl ?_); refine r_nil ?_; exact rfl
      · exact rfl
      · exact rfl
      refine r_or rfl rfl ?_
      refine mvB rfl ?_
      apply r_guard (s := 101) rfl rfl rfl
      · intro hg; apply opT_of; (refine mvI rfl ?_); refine r_nil ?_; exact rfl
      · exact rfl
      · exact rfl
      apply r_guard (s := 101) rfl rfl rfl
      · intro hg; apply opT_of; (refine mvI rfl ?_); refine r_nil ?_; exact rfl
      · exact rfl
      · exact rfl
      apply r_guard (s := 101) rfl rfl rfl
      · intro hg; apply opT_strip (s := 102) rfl (by (rw [hg]; rfl)); apply opT_strip (s := 103) rfl (by (rw [hg]; rfl)); apply opT_of; (refine r_bin rfl rfl rfl ?_); refine r_nil ?_; exact rfl
      · exact rfl
      · exact rfl
      refine r_or rfl rfl ?_
      refine mvB rfl ?_
      apply r_guard (s := 106) rfl rfl rfl
      · intro hg; apply opT_of; (refine mvI rfl ?_); refine r_nil ?_; exact rfl
      · exact rfl
      · exact rfl
      apply r_guard (s := 106) rfl rfl rfl
      · intro hg; apply opT_of; (refine mvI rfl ?_); refine r_nil ?_; exact rfl
      · exact rfl
      · exact rfl
      apply r_guard (s := 106) rfl rfl rfl
      · intro hg; apply opT_strip (s := 107) rfl (by (rw [hg]; rfl)); apply opT_strip (s := 108) rfl (by (rw [hg]; rfl)); apply opT_of; (refine r_bin rfl rfl rfl ?_); refine r_nil ?_; exact rfl
      · exact rfl
      · exact rfl
      refine r_or rfl rfl ?_
      refine mvB rfl ?_
      apply r_guard (s := 111) rfl rfl rfl
      · intro hg; apply opT_of; (refine mvS rfl ?_); refine r_nil ?_; exact rfl
      · exact rfl
      · exact rfl
      apply r_guard (s := 111) rfl rfl rfl
      · intro hg; apply opT_strip (s := 112) rfl (by (rw [hg]; rfl)); apply opT_of; (refine r_len rfl rfl rfl ?_); refine r_nil ?_; exact rfl
      · exact rfl
      · exact rfl
      apply r_guard (s := 111) rfl rfl rfl
      · intro hg; apply opT_of; (refine mvI rfl ?_); refine r_nil ?_; exact rfl
      · exact rfl
      · exact rfl
      apply r_guard (s := 111) rfl rfl rfl
      · intro hg; apply opT_strip (s := 113) rfl (by (rw [hg]; rfl)); apply opT_strip (s := 114) rfl (by (rw [hg]; rfl)); apply opT_of; (refine r_bin rfl rfl rfl ?_); refine r_nil ?_; exact rfl
      · exact rfl
      · exact rfl
      refine r_or rfl rfl ?_
      refine mvB rfl ?_
      apply r_guard (s := 117) rfl rfl rfl
      · intro hg; apply opT_of; (refine mvS rfl ?_); refine r_nil ?_; exact rfl
      · exact rfl
      · exact rfl
      apply r_guard (s := 117) rfl rfl rfl
      · intro hg; apply opT_strip (s := 118) rfl (by (rw [hg]; rfl)); apply opT_of; (refine r_len rfl rfl rfl ?_); refine r_nil ?_; exact rfl
      · exact rfl
      · exact rfl
      apply r_guard (s := 117) rfl rfl rfl
      · intro hg; apply opT_strip (s := 119) rfl (by (rw [hg]; rfl)); apply opT_of; (refine r_bin rfl rfl rfl ?_); refine r_nil ?_; exact rfl
      · exact rfl
      · exact rfl
      refine r_or rfl rfl ?_
      refine mvB rfl ?_
      apply r_guard (s := 122) rfl rfl rfl
      · intro hg; apply opT_of; (refine mvI rfl ?_); refine r_nil ?_; exact rfl
      · exact rfl
      · exact rfl
      apply r_guard (s := 122) rfl rfl rfl
      · intro hg; apply opT_strip (s := 123) rfl (by (rw [hg]; rfl)); apply opT_of; (refine r_bin rfl rfl rfl ?_); refine r_nil ?_; exact rfl
      · exact rfl
      · exact rfl
      apply r_guard (s := 122) rfl rfl rfl
      · intro hg; apply opT_strip (s := 124) rfl (by (rw [hg]; rfl)); apply opT_of; (refine mvB rfl ?_); refine r_nil ?_; exact rfl
      · exact rfl
      · exact rfl
      apply r_guardG (s := 125) rfl rfl rfl
      · intro hg1 hg2; apply opT_of; (refine mvS rfl ?_); refine r_nil ?_; exact rfl
      · exact rfl
      · exact rfl
      apply r_guardG (s := 125) rfl rfl rfl
      · intro hg1 hg2; apply opT_strip (s := 126) rfl (by (rw [hg1, hg2]; rfl)); apply opT_of; (refine r_len rfl rfl rfl ?_); refine r_nil ?_; exact rfl
      · exact rfl
      · exact rfl
      apply r_guardG (s := 125) rfl rfl rfl
      · intro hg1 hg2; apply opT_strip (s := 127) rfl (by (rw [hg1, hg2]; rfl)); apply opT_of; (refine r_bin rfl rfl rfl ?_); refine r_nil ?_; exact rfl
      · exact rfl
      · exact rfl
      apply r_guard (s := 122) rfl rfl rfl
      · intro hg; apply opT_strip (s := 125) rfl (by (rw [hg]; rfl)); apply opT_stripG (s := 128) rfl (by (rw [hg]; rfl)); apply opT_of; (refine r_and rfl rfl ?_); refine r_nil ?_; exact rfl
      · exact rfl
      · exact rfl
      refine r_or rfl rfl ?_
      refine r_nil ?_
      refine i_then ?_
      refine t_cond_ff rfl (fw_cut hmany) ?_
      refine t_skip ?_
      refine i_then ?_
      refine t_seq ?_
      refine t_seq ?_
      refine t_region ?_
      refine mvI rfl ?_
      refine r_bin rfl rfl rfl ?_
      refine r_nil ?_
      refine i_then ?_
      refine t_cond_ndec rfl (fun hc5 => ?_) (fun hc5 => ?_)
      ·
        refine t_seq ?_
        refine t_region ?_
        refine r_load_ptrN rfl rfl (by decide) rfl rfl (by exact Nat.le_of_ble_eq_true rfl) ?_
        refine r_load_ppN rfl rfl rfl (by exact Nat.le_of_ble_eq_true rfl) ?_
        refine r_call (c_same b b) rfl rfl rfl rfl rfl ?_
        refine mvB rfl ?_
        apply r_guard (s := 136) rfl rfl rfl
        · intro hg; apply opT_of; (refine r_call (c_awake) rfl rfl rfl rfl rfl ?_); refine r_nil ?_; exact rfl
        · exact rfl
        · exact rfl
        refine r_and rfl rfl ?_
        refine asB rfl ?_
        refine r_nil ?_
        refine i_then ?_
        refine t_ret ?_
        refine i_then_ret ?_
        refine i_rp1 rfl rfl ?_
        all_goals skip
        all_goals exact ret_eq rfl rfl (congrArg Ty.bool (by rw [sameV_self]; rfl))
      ·
        refine t_skip ?_
        refine i_then ?_
        refine t_seq ?_
        have hok := fw_ok hc5
        have hr := check_right hok
        have hO := cheap hr (one_ok b)
        have hL := cheap hr (sack_ok hr)
        have hLe := (fw_same b).trans hc5
        obtain ⟨p1, k1, ea1, em1, el1⟩ := after_right hr (hO.yes hc5).1 (by omega)
        obtain ⟨p2, k2, ea2, em2, el2⟩ := after_right hr (hL.yes hLe).1 (by omega)
        rw [(hL.yes hLe).2.1] at ea2
        refine t_draw mixed rfl ?_
        refine r_load_ptrN rfl rfl (by decide) rfl rfl (by exact Nat.le_of_ble_eq_true rfl) ?_
        refine mvS rfl ?_
        refine r_call (c_plans (planR b oneC) (by omega)) rfl rfl rfl rfl rfl ?_
        refine r_call (c_rAfter b hr (planR b oneC)) rfl rfl rfl rfl rfl ?_
        refine mvT rfl ?_
        refine r_extract rfl rfl ?_
        refine r_extract rfl rfl ?_
        refine r_extract rfl rfl ?_
        refine r_extract rfl rfl ?_
        refine asS rfl ?_
        refine asS rfl ?_
        refine asI rfl ?_
        refine asI rfl ?_
        refine r_nil ?_
        refine ⟨by kernel_rfl, ?_⟩
        refine i_then ?_
        refine t_seq ?_
        refine t_draw mixed rfl ?_
        refine r_load_ptrN rfl rfl (by decide) rfl rfl (by exact Nat.le_of_ble_eq_true rfl) ?_
        refine mvS rfl ?_
        refine r_call (c_plans (planR b (sackC b)) (by omega)) rfl rfl rfl rfl rfl ?_
        refine r_call (c_rAfter b hr (planR b (sackC b))) rfl rfl rfl rfl rfl ?_
        refine mvT rfl ?_
        refine r_extract rfl rfl ?_
        refine r_extract rfl rfl ?_
        refine r_extract rfl rfl ?_
        refine r_extract rfl rfl ?_
        refine asS rfl ?_
        refine asS rfl ?_
        refine asI rfl ?_
        refine asI rfl ?_
        refine r_nil ?_
        refine ⟨by kernel_rfl, ?_⟩
        refine i_then ?_
        refine t_seq ?_
        refine t_as (s := 22) rfl (Ty.sub_sl (congrArg (fun z : List Int × List Tur × Int × Int => z.1) ea1)) ?_
        refine t_as (s := 25) rfl (Ty.sub_int (congrArg (fun z : List Int × List Tur × Int × Int => z.2.2.2) ea1)) ?_
        refine t_as (s := 26) rfl (Ty.sub_sl (congrArg (fun z : List Int × List Tur × Int × Int => z.1) ea2)) ?_
        refine t_as (s := 28) rfl (Ty.sub_int (congrArg (fun z : List Int × List Tur × Int × Int => z.2.2.1) ea2)) ?_
        refine t_as (s := 29) rfl (Ty.sub_int (congrArg (fun z : List Int × List Tur × Int × Int => z.2.2.2) ea2)) ?_
        refine t_region ?_
        refine mvI rfl ?_
        refine r_bin rfl rfl rfl ?_
        refine mvB rfl ?_
        apply r_guard (s := 159) rfl rfl rfl
        · intro hg; apply opT_of; (refine mvI rfl ?_); refine r_nil ?_; exact rfl
        · exact rfl
        · exact rfl
        apply r_guard (s := 159) rfl rfl rfl
        · intro hg; apply opT_strip (s := 160) rfl (by exact hg); apply opT_of; (refine r_bin rfl rfl rfl ?_); refine r_nil ?_; exact rfl
        · exact rfl
        · exact rfl
        refine r_and rfl rfl ?_
        refine mvB rfl ?_
        apply r_guard (s := 163) rfl rfl rfl
        · intro hg; apply opT_of; (refine mvI rfl ?_); refine r_nil ?_; exact rfl
        · exact rfl
        · exact rfl
        apply r_guard (s := 163) rfl rfl rfl
        · intro hg; apply opT_of; (refine mvI rfl ?_); refine r_nil ?_; exact rfl
        · exact rfl
        · exact rfl
        apply r_guard (s := 163) rfl rfl rfl
        · intro hg; apply opT_strip (s := 164) rfl (by exact hg); apply opT_strip (s := 165) rfl (by exact hg); apply opT_of; (refine r_bin rfl rfl rfl ?_); refine r_nil ?_; exact rfl
        · exact rfl
        · exact rfl
        refine r_and rfl rfl ?_
        refine mvB rfl ?_
        apply r_guard (s := 168) rfl rfl rfl
        · intro hg; apply opT_of; (refine r_load_ptrN rfl rfl (by decide) rfl rfl (by exact Nat.le_of_ble_eq_true rfl) ?_); refine r_nil ?_; exact rfl
        · exact rfl
        · exact rfl
        apply r_guard (s := 168) rfl rfl rfl
        · intro hg; apply opT_of; (refine mvS rfl ?_); refine r_nil ?_; exact rfl
        · exact rfl
        · exact rfl
        apply r_guard (s := 168) rfl rfl rfl
        · intro hg; apply opT_strip (s := 169) rfl (by (rw [hg]; rfl)); apply opT_strip (s := 170) rfl (by (rw [hg]; rfl)); apply opT_of; (refine r_call (c_rMade b hs p1 (Nat.le_of_eq el1)) rfl rfl rfl rfl rfl ?_); refine r_nil ?_; exact rfl
        · exact rfl
        · exact rfl
        refine r_and rfl rfl ?_
        refine mvB rfl ?_
        apply r_guard (s := 173) rfl rfl rfl
        · intro hg; apply opT_of; (refine r_load_ptrN rfl rfl (by decide) rfl rfl (by exact Nat.le_of_ble_eq_true rfl) ?_); refine r_nil ?_; exact rfl
        · exact rfl
        · exact rfl
        apply r_guard (s := 173) rfl rfl rfl
        · intro hg; apply opT_of; (refine mvS rfl ?_); refine r_nil ?_; exact rfl
        · exact rfl
        · exact rfl
        apply r_guard (s := 173) rfl rfl rfl
        · intro hg; apply opT_strip (s := 174) rfl (by (rw [hg]; rfl)); apply opT_strip (s := 175) rfl (by (rw [hg]; rfl)); apply opT_of; (refine r_call (c_rMade b hs p2 (Nat.le_of_eq el2)) rfl rfl rfl rfl rfl ?_); refine r_nil ?_; exact rfl
        · exact rfl
        · exact rfl
        refine r_and rfl rfl ?_
        refine mvB rfl ?_
        apply r_guard (s := 178) rfl rfl rfl
        · intro hg; apply opT_of; (refine r_load_ptrN rfl rfl (by decide) rfl rfl (by exact Nat.le_of_ble_eq_true rfl) ?_); refine r_nil ?_; exact rfl
        · exact rfl
        · exact rfl
        apply r_guard (s := 178) rfl rfl rfl
        · intro hg; apply opT_of; (refine r_load_ppN rfl rfl rfl (by exact Nat.le_of_ble_eq_true rfl) ?_); refine r_nil ?_; exact rfl
        · exact rfl
        · exact rfl
        apply r_guard (s := 178) rfl rfl rfl
        · intro hg; apply opT_strip (s := 179) rfl (by (rw [hg]; rfl)); apply opT_strip (s := 180) rfl (by (rw [hg]; rfl)); apply opT_of; (refine r_call (c_same b b) rfl rfl rfl rfl rfl ?_); refine r_nil ?_; exact rfl
        · exact rfl
        · exact rfl
        refine r_and rfl rfl ?_
        refine mvB rfl ?_
        apply r_guard (s := 183) rfl rfl rfl
        · intro hg; apply opT_of; (refine r_call (c_awake) rfl rfl rfl rfl rfl ?_); refine r_nil ?_; exact rfl
        · exact rfl
        · exact rfl
        refine r_and rfl rfl ?_
        refine asB rfl ?_
        refine r_nil ?_
        refine i_then ?_
        refine t_ret ?_
        refine i_rp1 rfl rfl ?_
        all_goals skip
        all_goals exact ret_eq rfl rfl (congrArg Ty.bool (by rw [em1, em2, sameV_self]; simp))
end Go.Proofs.Ytpnndljmhpepgaa

namespace Go.T
open Go Go.RowKit Go.ChangeShapes Go.WideShapes Go.ChangeAt
def pubs : Tags := fun _ => none
theorem wf_pubs (w : World) : Wf w pubs := ⟨fun _ _ h => (by cases h), fun _ _ _ _ h => (by cases h)⟩
theorem pubs_zero : ∀ b t, pubs b = some t → t = 0 := fun _ _ h => by cases h
structure Rd {α : Type} (P : Program) (e : TypeId) (E : El α) : Prop where
  size : P.cellsOf e = E.size
  pos : 0 < E.size
  rd : ∀ {H : Type} {enc : TypeId × Value → H} {w : World} {base : Nat} {held : Bool} {n : Nat} {cs : List Value} {y : DataW H × List MemPlace}, DataW.trod enc P w base (fun _ => true) held n e cs = some y → ∃ x, dens w pubs (E.tys x) cs
section
variable {H : Type} {enc : TypeId × Value → H} {P : Program} {w : World} {base : Nat} {held : Bool} {α : Type} {E : El α} {t e : TypeId} {n : Nat} {cs : List Value} {y : DataW H × List MemPlace}
theorem rd_sl (hR : Rd P e E) (ht : P.underlying t = some (.slice e)) (h : DataW.trod enc P w base (fun _ => true) held n t cs = some y) : ∃ v xs, cs = [v] ∧ (Ty.sl E xs).den w pubs v := by
  rcases Go.Deep.open_slice ht h with ⟨rfl, _⟩ | ⟨a, len, cap, m, k, D, Pl, rfl, _, hl, hm, hmm, _, hel⟩
  · exact ⟨_, [], rfl, none, 0, rfl, Nat.le_refl _, Nat.zero_le _, fun h => absurd h (Nat.lt_irrefl _)⟩
  have hlm : len ≤ m := by rw [hmm]; simpa using hl
  have hX : ∀ i : Fin len, ∃ x : α, ∃ cs', w.cells? base (a.add (i.1 * P.cellsOf e)) (P.cellsOf e) = some cs' ∧ dens w pubs (E.tys x) cs' := fun i => by
    obtain ⟨cs', h1, h2⟩ := hel i.1 (Nat.lt_of_lt_of_le i.2 hlm)
    obtain ⟨x, hx⟩ := hR.rd h2
    exact ⟨x, cs', h1, hx⟩
  let X : Fin len → α := fun i => (hX i).choose
  have hXs : ∀ i : Fin len, ∃ cs', w.cells? base (a.add (i.1 * P.cellsOf e)) (P.cellsOf e) = some cs' ∧ dens w pubs (E.tys (X i)) cs' := fun i => (hX i).choose_spec
  have hlen : (List.ofFn X).length = len := by simp
  refine ⟨_, List.ofFn X, rfl, some a, cap, by rw [hlen], by rw [hlen]; exact hl, hm, fun h0 => ?_⟩
  rw [hlen] at h0
  have hcell : ∀ (i : Fin len) (j : Nat) (u : Ty), (E.tys (X i))[j]? = some u → ∃ v, w.cell? (a.add (i.1 * E.size + j)) = some v ∧ u.den w pubs v := fun i j u hu => by
    obtain ⟨cs', h1, h2⟩ := hXs i
    obtain ⟨v, hv, hd⟩ := dens_get h2 j u hu
    obtain ⟨_, g1, g2⟩ := World.cells?_some h1
    have hj : j < P.cellsOf e := by
      rw [hR.size, ← E.len (X i)]
      exact (List.getElem?_eq_some_iff.1 hu).1
    refine ⟨v, ?_, hd⟩
    have := g2 j hj
    rw [Go.Deep.add_add, hv, hR.size] at this
    exact this
  have hsz := hR.pos
  have hfirst : ∃ v, w.cell? (a.add 0) = some v := by
    obtain ⟨u, hu⟩ : ∃ u, (E.tys (X ⟨0, h0⟩))[0]? = some u := ⟨_, List.getElem?_eq_getElem (by rw [E.len]; exact hsz)⟩
    obtain ⟨v, hv, _⟩ := hcell ⟨0, h0⟩ 0 u hu
    exact ⟨v, by simpa using hv⟩
  obtain ⟨b, off, sp⟩ := a
  obtain ⟨v0, hv0⟩ := hfirst
  have hsp : sp = none := by simpa [Addr.add] using World.cell?_spot hv0
  subst hsp
  have hb : b < w.heap.size := by
    obtain ⟨cs', h1, _⟩ := hXs ⟨0, h0⟩
    have := World.cells?_block h1 (by rw [hR.size]; exact hsz)
    simpa [Addr.add] using this
  refine ⟨b, off, rfl, rfl, hb, fun i u hu => ?_⟩
  have hi : i < len * E.size := by
    have := (List.getElem?_eq_some_iff.1 hu).1
    rw [flat_len, hlen] at this; exact this
  have hk : i / E.size < len := Nat.div_lt_of_lt_mul (by rw [Nat.mul_comm]; exact hi)
  have hj : i % E.size < E.size := Nat.mod_lt _ hsz
  have hij : i / E.size * E.size + i % E.size = i := by rw [Nat.mul_comm]; exact Nat.div_add_mod i E.size
  have hu2 := hu
  rw [← hij, flat_get E _ _ _ (by rw [hlen]; exact hk) hj, List.getElem?_ofFn, dif_pos hk] at hu2
  obtain ⟨v, hv, hd⟩ := hcell ⟨i / E.size, hk⟩ (i % E.size) u hu2
  refine ⟨v, ?_, hd⟩
  rw [← Go.WideShapes.add_plain]
  rw [hij] at hv
  exact hv
theorem rd_struct3 {f0 f1 f2 : Field} (hs : P.underlying t = some (.struct #[f0, f1, f2])) (hC : P.cellsOf t = 3) (h0 : f0.offset = 0 ∧ P.cellsOf f0.type = 1) (h1 : f1.offset = 1 ∧ P.cellsOf f1.type = 1) (h2 : f2.offset = 2 ∧ P.cellsOf f2.type = 1) (h : DataW.trod enc P w base (fun _ => true) held n t cs = some y) :
    ∃ c0 c1 c2 y0 y1 y2 m, cs = [c0, c1, c2] ∧ DataW.trod enc P w base (fun _ => true) held m f0.type [c0] = some y0 ∧ DataW.trod enc P w base (fun _ => true) held m f1.type [c1] = some y1 ∧ DataW.trod enc P w base (fun _ => true) held m f2.type [c2] = some y2 := by
  obtain ⟨y0, y1, y2, m, _, hl, g0, g1, g2⟩ := Go.Deep.trod_struct3 hs h
  rw [hC] at hl
  match cs, hl with
  | [c0, c1, c2], _ =>
    rw [h0.1, h0.2] at g0
    rw [h1.1, h1.2] at g1
    rw [h2.1, h2.2] at g2
    exact ⟨c0, c1, c2, y0, y1, y2, m, rfl, g0, g1, g2⟩
theorem rd_int {k : IntKind} {c : Value} (ht : P.underlying t = some (.int k)) (h : DataW.trod enc P w base (fun _ => true) held n t [c] = some y) : ∃ i, c = .int k i := by
  obtain ⟨i, e, _⟩ := DataW.trod_int ht h
  exact ⟨i, by simpa using e⟩
theorem rd_sl1 {c : Value} (hR : Rd P e E) (ht : P.underlying t = some (.slice e)) (h : DataW.trod enc P w base (fun _ => true) held n t [c] = some y) : ∃ xs, (Ty.sl E xs).den w pubs c := by
  obtain ⟨v, xs, e, hd⟩ := rd_sl hR ht h
  exact ⟨xs, by rw [show c = v by simpa using e]; exact hd⟩
end
section
variable {w w' : World} {S K : Nat → Prop} {M' : Tags}
theorem le_block (le : Le S K w pubs w' M') {b : Nat} (hb : b < w.heap.size) : w'.heap[b]? = w.heap[b]? := (le.pub b hb rfl).2
theorem le_same (le : Le S K w pubs w' M') {p : MemPlace} (hp : p.block < w.heap.size) : w.sameAt w' p := by
  cases p with
  | cell b o => exact World.cell?_of_block (w := w) (le_block le hp)
  | map b => exact le_block le hp
theorem le_kept (le : Le S K w pubs w' M') (may : MemPlace → Prop) : w.keptBut w' may := by
  refine ⟨le.os, le.out, fun i hi => ?_⟩
  have e := le_block le hi
  rw [e]
  split
  · rename_i h1 h2
    rw [h1] at h2
    simp only [Option.some.injEq, Obj.cells.injEq] at h2
    obtain ⟨rfl, rfl, rfl⟩ := h2
    exact ⟨rfl, rfl, rfl, fun _ _ => rfl⟩
  · rename_i h1 h2
    rw [h1] at h2
    simp only [Option.some.injEq, Obj.map.injEq] at h2
    exact Or.inr ⟨h2.1.symm, h2.2.symm⟩
  · rfl
theorem le_frozen (le : Le S K w pubs w' M') {a : Addr} (ha : a.block < w.heap.size) : w'.frozen? a = w.frozen? a := by
  unfold World.frozen?
  rw [le_block le ha]
end
section
variable {H : Type} {enc : TypeId × Value → H} {P : Program}
theorem trodAll_stays (hl : laidOutB P = true) {w w' : World} {sp : Nat → Bool} : ∀ {ts : List TypeId} {vs : List Value} {ds : List (DataW H)} {ps : List MemPlace}, (∀ t ∈ ts, P.readableRec t = true ∧ t < P.types.size) →
    DataW.TrodAll enc P w 0 (fun _ => true) true ts vs ds ps → (∀ p ∈ ps, w.sameAt w' p) → (∀ p ∈ ps, sp p.block = true) → DataW.TrodAll enc P w' 0 sp true ts vs ds ps
  | [], [], [], _, _, h, _, _ => h
  | t :: ts, v :: vs, d :: ds, _, ht, ⟨p, q, h1, h2, e⟩, hs, hsp => by
    subst e
    have h0 := ht t List.mem_cons_self
    exact ⟨p, q, Go.WideElems.Trod_stays hl h0.1 h0.2 h1 (fun x hx => hs x (List.mem_append_left _ hx)) (fun x hx => hsp x (List.mem_append_left _ hx)),
      trodAll_stays hl (fun t h => ht t (List.mem_cons_of_mem _ h)) h2 (fun x hx => hs x (List.mem_append_right _ hx)) (fun x hx => hsp x (List.mem_append_right _ hx)), rfl⟩
theorem post_true {f : Func} {s : ChangeSpec} {apart fresh handsOn again : Bool} {W W' : World} {args : Array Value} {ds : List (DataW H)} {before : List MemPlace} {S K : Nat → Prop} {M' : Tags}
    (hl : laidOutB P = true) (hv : s.vars = []) (hrd : ∀ t ∈ f.params.toList, P.readableRec t = true ∧ t < P.types.size) {tb : TypeId} (htb : P.underlying tb = some .bool) (hrt : f.resultTypes = #[tb])
    (hW : DataW.Whole enc P f.params.toList s.vars apart W args.toList ds [] before) (hres : (s.fn H (ds ++ [])).results = [.lit (.bool true)]) (hargs : (s.fn H (ds ++ [])).args = ds) (hvars : (s.fn H (ds ++ [])).vars = [])
    (le : Le S K W pubs W' M') : s.post enc P f apart fresh handsOn again W args (.bool true) W' := by
  have hW0 := hW
  obtain ⟨p, q, hA, hV, hb, hfz, hn⟩ := hW0
  have hlt := DataW.TrodAll.lt hA
  have hq : q = [] := by rw [hv] at hV; exact (trodVars_none hV).2
  subst hq
  have hbp : before = p := by rw [hb]; simp
  have hre : ∀ (b : Nat) (sp : Nat → Bool) (hd : Bool), DataW.TrodAll enc P W' b sp hd f.resultTypes.toList ((Value.bool true).resultList f.resultTypes.size) (s.fn H (ds ++ [])).results [] := fun b sp hd => by
    rw [hrt, hres]; exact trodAll_mk1 (shut_bool htb true)
  have har : ∀ sp : Nat → Bool, (∀ x ∈ p, sp x.block = true) → DataW.TrodAll enc P W' 0 sp true f.params.toList args.toList (s.fn H (ds ++ [])).args p := fun sp hsp => by
    rw [hargs]; exact trodAll_stays hl hrd hA (fun x hx => le_same le (hlt x hx)) hsp
  have hva : ∀ sp : Nat → Bool, DataW.TrodVars enc P W' sp s.vars (s.fn H (ds ++ [])).vars [] := fun sp => by
    rw [hvars, hv]; exact rfl
  have hok : ∀ (j : Nat) (t : TypeId) (r : Value), f.resultTypes[j]? = some t → ((Value.bool true).resultList f.resultTypes.size)[j]? = some r → Value.okWide P W' .any 0 t r := by
    exact ok_one (by rw [hrt]) rfl (okWide_bool_mk htb true)
  refine ⟨ds, [], before, [], p, [], hW, hre _ _ _, har _ (fun x hx => by simpa using hlt x hx), hva _, World.keptBut_mono (fun x hx => hx) (le_kept le _), fun _ => ?_⟩
  refine ⟨hok, _, _, ([] ++ p) ++ [], ⟨[] ++ p, [], trodAll_append (har _ (fun _ _ => rfl)) (hre _ _ _), hva _, rfl, ?_, ?_⟩, ?_⟩
  · intro b off hp
    have hp' : MemPlace.cell b off ∈ p := by simpa using hp
    rw [le_frozen le (hlt _ hp')]
    exact hfz b off (by rw [hbp]; exact hp')
  · intro ha
    have := hn ha
    rw [hbp] at this
    simpa using this
  · intro x hx _
    rw [hbp]
    simpa using hx
end
end Go.T

namespace Go.Proofs.Ytpnndljmhpepgaa
open Go Go.T Go.RowKit Go.ChangeShapes Go.WideShapes Go.ChangeAt
section
variable {H : Type} {enc : TypeId × Value → H} {W : World} {base : Nat} {held : Bool} {v : Value} {d : DataW H} {p : List MemPlace}
end
end Go.Proofs.Ytpnndljmhpepgaa

namespace Go.Proofs.Ytpnndljmhpepgaa
open Go Go.T Go.RowKit Go.ChangeShapes Go.WideShapes Go.ChangeAt
theorem rdI64 : Rd Try.prog 3 I64 := ⟨by kernel_rfl, by decide, fun h => by
  obtain ⟨i, rfl, _⟩ := DataW.trod_int Try.underlying3 h
  exact ⟨i, rfl, trivial⟩⟩
theorem rdLot : Rd Try.prog 57 LotE := ⟨by kernel_rfl, by decide, fun h => by
  obtain ⟨c0, c1, c2, y0, y1, y2, m, rfl, h0, h1, h2⟩ := rd_struct3 Try.underlying57 (by kernel_rfl) ⟨rfl, by kernel_rfl⟩ ⟨rfl, by kernel_rfl⟩ ⟨rfl, by kernel_rfl⟩ h
  obtain ⟨a, rfl⟩ := rd_int Try.underlying3 h0
  obtain ⟨b, rfl⟩ := rd_int Try.underlying3 h1
  obtain ⟨c, rfl⟩ := rd_int Try.underlying3 h2
  exact ⟨⟨a, b, c⟩, rfl, rfl, rfl, trivial⟩⟩
section
variable {H : Type} {enc : TypeId × Value → H} {W : World} {base : Nat} {held : Bool} {v : Value} {d : DataW H} {p : List MemPlace}
set_option maxRecDepth 100000 in
theorem rd_barn (hv : Value.okWide Try.prog W .any base 25 v) (h : DataW.Trod enc Try.prog W 0 (fun _ => true) held 25 v d p) : ∃ b, (barnT b).den W pubs v := by
  obtain ⟨c0, c1, y0, y1, n, rfl, _, _, h0, h1⟩ := Go.Joins.open_agg2 Try.underlying25 (by kernel_rfl) (by kernel_rfl) hv h
  obtain ⟨bs, e0⟩ := rd_sl1 rdI64 Try.underlying22 h0
  obtain ⟨ls, e1⟩ := rd_sl1 rdLot Try.underlying23 h1
  exact ⟨⟨bs, ls⟩, _, rfl, e0, e1, trivial⟩
end
end Go.Proofs.Ytpnndljmhpepgaa

namespace Go.Proofs.Ytpnndljmhpepgaa
open Go Go.T Go.RowKit Go.ChangeShapes Go.WideShapes Go.ChangeAt
section
variable {H : Type} {enc : TypeId × Value → H} {W : World} {base : Nat} {held : Bool} {v : Value} {d : DataW H} {p : List MemPlace}
set_option maxRecDepth 100000 in
theorem barn_len {b : Barn} (hv : Value.okWide Try.prog W .any base 25 v) (h : DataW.Trod enc Try.prog W 0 (fun _ => true) held 25 v d p) (hd : (barnT b).den W pubs v) (hw : ∀ n ∈ d.weights Try.prog 25, n ≤ reachBytes) : b.lots.length * 24 ≤ 140737488355328 := by
  obtain ⟨c0, c1, y0, y1, n, rfl, rfl, _, h0, h1⟩ := Go.Joins.open_agg2 Try.underlying25 (by kernel_rfl) (by kernel_rfl) hv h
  obtain ⟨vs, e, hd⟩ := hd
  injection e with e
  subst e
  have hd1 : (Ty.sl LotE b.lots).den W pubs c1 := hd.2.1
  obtain ⟨a, c, e1, _, _, _⟩ := hd1
  rcases Go.Deep.open_slice Try.underlying23 h1 with ⟨e2, _⟩ | ⟨a', len, cap, m, k, D, Pl, e2, _, _, _, _, hy, _⟩
  · rw [e1] at e2
    have : b.lots.length = 0 := by simp only [List.cons.injEq, Value.slice.injEq] at e2; exact e2.1.2.1
    omega
  · rw [e1] at e2
    have hlen : b.lots.length = len := by simp only [List.cons.injEq, Value.slice.injEq] at e2; exact e2.1.2.1
    have hm : (((List.range len).map D).length + ((List.range (m - len)).map fun j => D (len + j)).length) * Try.prog.bytesOf 57 ∈ (DataW.agg [y0.1, y1.1]).weights Try.prog 25 := by
      rw [hy]
      simp only [DataW.weights, Try.underlying25, Try.underlying23, DataW.weightsEach, List.map_cons, List.map_nil, List.mem_append, List.mem_cons]
      exact .inr (.inl (.inl trivial))
    have hle := hw _ hm
    rw [List.length_map, List.length_range, show Try.prog.bytesOf 57 = 24 by kernel_rfl, Nat.add_mul] at hle
    have : reachBytes = 140737488351232 := rfl
    omega
end
end Go.Proofs.Ytpnndljmhpepgaa
