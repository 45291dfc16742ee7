/- Lemmas: the program and the reference walked, plain laws. -/
import Derived.Test.YtpnndljmhpepgaaZd
namespace Go.Proofs.Ytpnndljmhpepgaa
open Go Go.T
def apartP (b : Barn) (p : Pl) : Prop := ∀ i k, i < b.lots.length → k < b.lots.length → nth p.1 i = nth p.1 k → i = k
theorem goP_cons {b : Barn} {p q : Pl} {t : Tur} {l : List Tur} (h : goP b p (t :: l) = some q) : t ∈ turnsL b p ∧ goP b (moved p t) l = some q := by
  have h : (if t ∈ turnsL b p then goP b (moved p t) l else none) = some q := h
  by_cases hu : t ∈ turnsL b p
  · rw [if_pos hu] at h; exact ⟨hu, h⟩
  · rw [if_neg hu] at h; cases h
theorem goP_cons' {b : Barn} {p : Pl} {t : Tur} {l : List Tur} (h : t ∈ turnsL b p) : goP b p (t :: l) = goP b (moved p t) l := if_pos h
theorem made_at {b : Barn} {q : Pl} (h : madeP b q = true) {i : Nat} (hi : i < b.lots.length) : (nth b.lots i).aim = -1 ∨ (nth b.lots i).aim = nth q.1 i := by
  unfold madeP at h
  have := List.all_eq_true.1 h i (List.mem_range.2 hi)
  simpa using this
theorem filtUp_nodup (p : Nat → Bool) (n : Nat) : (filtUp p n).Nodup := by
  unfold filtUp
  rw [List.nodup_iff_pairwise_ne, List.pairwise_map]
  have h : ((List.range n).filter p).Pairwise fun a c => a ≠ c := List.Pairwise.filter _ (List.nodup_iff_pairwise_ne.1 List.nodup_range)
  exact h.imp fun hne e => hne (by omega)
structure Cheap (b : Barn) (c : Tur → Int) (e : Int) (l : List Tur) (n : Int) : Prop where
  err : e = 0 ∨ e = 7
  yes : e = 0 → rightV b l = true ∧ costL c l = n ∧ ∀ x, rightV b x = true → n ≤ costL c x
  no : e = 7 → l = [] ∧ n = 0 ∧ ∀ x, rightV b x = false
theorem cheap {b : Barn} {c : Tur → Int} (hr : b.Right) (hc : CostOk b c) : Cheap b c (planE b c) (planR b c) (costR b c) := by
  have h0 := right_check hr
  have hp := plan_spec hr hc
  have h6 := hr.lots
  unfold planE planR costR
  rw [if_pos h0, if_pos h0, if_pos h0]
  cases hi : (searchM b c false).is with
  | true =>
    rw [if_pos rfl]
    refine ⟨.inl rfl, fun _ => ?_, fun e => by cases e⟩
    obtain ⟨q, h1, h2, h3, h4⟩ := hp.yes hi
    refine ⟨(right_iff h6).2 ⟨q, h1, h2⟩, h3, fun x hx => ?_⟩
    obtain ⟨q', g1, g2⟩ := (right_iff h6).1 hx
    exact h4 x q' g1 g2
  | false =>
    rw [if_neg (by decide)]
    refine ⟨.inr rfl, (fun e => by cases e), fun _ => ⟨if_neg (by rw [hi]; decide), if_neg (by rw [hi]; decide), fun x => ?_⟩⟩
    rw [Bool.eq_false_iff]; intro hx
    obtain ⟨q', g1, g2⟩ := (right_iff h6).1 hx
    have := hp.no hi x q' g1
    rw [g2] at this; cases this
theorem cost_one (l : List Tur) : costL oneC l = l.length := by
  unfold costL oneC
  induction l with
  | nil => rfl
  | cons t l ih => rw [List.map_cons, List.sum_cons, ih, List.length_cons]; omega
def leastUp (b : Barn) (l : List Int) (k : Nat) : Int := ((l.take k).map fun (i : Int) => (nth b.lots i.toNat).sacks).sum
theorem sack_bound {b : Barn} (hr : b.Right) {i : Int} (hi : 0 ≤ i ∧ i < b.lots.length) : 1 ≤ (nth b.lots i.toNat).sacks ∧ (nth b.lots i.toNat).sacks ≤ 300 := hr.sacks _ (nth_mem (by omega))
end Go.Proofs.Ytpnndljmhpepgaa

namespace Go.Proofs.Ytpnndljmhpepgaa
open Go Go.T
set_option maxHeartbeats 4000000
def walksE (b : Barn) (s : Sk) (most : Int) : Nat → Sk
  | 0 => s
  | k + 1 => walkE b (walksE b s most k) most
theorem sumUp_zero (b : Barn) (l : List Tur) : sumUp b l 0 = 0 := by unfold sumUp; rw [List.take_zero]; rfl
attribute [local irreducible] planR planE costR walkP walkE sumUp leastUp rightV mustL checkB
attribute [local irreducible] dInt dBool dSl dPp dPtr dAgg dTup dClo dAny dEx dStr dGd dCells dVec dVs dRow dOp nth Tri Into TOps Ctr bodyPost Exit.then Exit.inBlock Code.wp Code.wpIn dWhen dPa dPe dAo dArr dMp dPm dMap dCJ CtrG CtrI OpY keepPost iterPost bodyPostM roundQ
end Go.Proofs.Ytpnndljmhpepgaa

namespace Go.Proofs.Ytpnndljmhpepgaa
open Go Go.T
variable {b : Barn} {g : Int}
theorem goR_cons {p q : Pl} {l : List Tur} {rs : List (List Tur)} (h : goR b g p (l :: rs) = some q) : l ∈ allR b p g ∧ goR b g (movedAll p l) rs = some q := by
  have h : (if l ∈ allR b p g then goR b g (movedAll p l) rs else none) = some q := h
  by_cases hu : l ∈ allR b p g
  · rw [if_pos hu] at h; exact ⟨hu, h⟩
  · rw [if_neg hu] at h; cases h
theorem goR_cons' {p : Pl} {l : List Tur} {rs : List (List Tur)} (h : l ∈ allR b p g) : goR b g p (l :: rs) = goR b g (movedAll p l) rs := if_pos h
theorem goR_flat (h6 : b.lots.length ≤ 6) (hg : 0 ≤ g) : ∀ (rs : List (List Tur)) {p q : Pl}, goR b g p rs = some q → goP b p rs.flatten = some q
  | [], p, q, h => h
  | l :: rs, p, q, h => by
    obtain ⟨h1, h2⟩ := goR_cons h
    rw [List.flatten_cons, goP_append, round_go h6 l ((mem_allR hg).1 h1)]
    exact goR_flat h6 hg rs h2
theorem one_round {p : Pl} {t : Tur} (hg : 1 ≤ g) (h : t ∈ turnsL b p) : [t] ∈ allR b p g := by
  rw [mem_allR (by omega)]
  have := mem_turnsL.1 h
  refine ⟨by simpa using hg, fun u hu => ?_, List.pairwise_singleton _ _⟩
  rw [List.mem_singleton.1 hu]
  exact ⟨⟨this.1, this.2.1⟩, ⟨this.2.2.1, this.2.2.2.1⟩, this.2.2.2.2.1, this.2.2.2.2.2⟩
theorem goR_singles (hg : 1 ≤ g) : ∀ (l : List Tur) {p q : Pl}, goP b p l = some q → goR b g p (l.map fun t => [t]) = some q
  | [], p, q, h => h
  | t :: l, p, q, h => by
    obtain ⟨h1, h2⟩ := goP_cons h
    rw [List.map_cons, goR_cons' (one_round hg h1)]
    exact goR_singles hg l h2
theorem goR_rows (hg : 0 ≤ g) : ∀ (rs : List (List Tur)) {p q : Pl}, goR b g p rs = some q → ∀ l ∈ rs, (l.length : Int) ≤ g
  | [], p, q, _, l, hl => by cases hl
  | r :: rs, p, q, h, l, hl => by
    obtain ⟨h1, h2⟩ := goR_cons h
    rcases List.mem_cons.1 hl with rfl | hl
    · exact ((mem_allR hg).1 h1).len
    · exact goR_rows hg rs h2 l hl
theorem flat_le (hg : 0 ≤ g) : ∀ (rs : List (List Tur)), (∀ l ∈ rs, (l.length : Int) ≤ g) → (rs.flatten.length : Int) ≤ rs.length * g
  | [], _ => by simp
  | l :: rs, h => by
    have h1 := h l List.mem_cons_self
    have h2 := flat_le hg rs fun r hr => h r (List.mem_cons_of_mem _ hr)
    rw [List.flatten_cons, List.length_append, List.length_cons]
    have e : (((rs.length + 1 : Nat) : Int)) * g = rs.length * g + g := by rw [Int.natCast_add, Int.add_mul]; simp
    rw [e]; omega
structure Rnds (b : Barn) (g e : Int) (rs : List (List Tur)) : Prop where
  err : e = 0 ∨ e = 7
  yes : e = 0 → ∃ q, goR b g (firstP b) rs = some q ∧ madeP b q = true ∧ ∀ rs' q', goR b g (firstP b) rs' = some q' → madeP b q' = true → rs.length ≤ rs'.length
  no : e = 7 → rs = [] ∧ ∀ rs' q, goR b g (firstP b) rs' = some q → madeP b q = false
section
variable {e e' n : Int} {l : List Tur} {rs rs' : List (List Tur)}
theorem Rnds.same (h : Rnds b g e' rs) (h6 : b.lots.length ≤ 6) (hg : 1 ≤ g) (hc : Cheap b oneC e l n) : e' = e := by
  rcases h.err with rfl | rfl
  · rcases hc.err with rfl | rfl
    · rfl
    · obtain ⟨q, h1, h2, _⟩ := h.yes rfl
      have := (hc.no rfl).2.2 rs.flatten
      rw [(right_iff h6).2 ⟨q, goR_flat h6 (by omega) rs h1, h2⟩] at this; cases this
  · rcases hc.err with rfl | rfl
    · obtain ⟨q, h1, h2⟩ := (right_iff h6).1 (hc.yes rfl).1
      have := (h.no rfl).2 _ q (goR_singles hg l h1)
      rw [h2] at this; cases this
    · rfl
theorem Rnds.right (h : Rnds b g 0 rs) (h6 : b.lots.length ≤ 6) (hg : 1 ≤ g) : rightV b rs.flatten = true := by
  obtain ⟨q, h1, h2, _⟩ := h.yes rfl
  exact (right_iff h6).2 ⟨q, goR_flat h6 (by omega) rs h1, h2⟩
theorem Rnds.few (h : Rnds b g 0 rs) (h6 : b.lots.length ≤ 6) (hg : 1 ≤ g) (hc : Cheap b oneC 0 l n) : n ≤ rs.length * g ∧ (rs.length : Int) ≤ n := by
  obtain ⟨q, h1, h2, h3⟩ := h.yes rfl
  obtain ⟨c1, c2, c3⟩ := hc.yes rfl
  rw [cost_one] at c2
  constructor
  · have h4 := c3 _ (h.right h6 hg)
    rw [cost_one] at h4
    have := flat_le (by omega) rs (goR_rows (by omega) rs h1)
    omega
  · obtain ⟨q', g1, g2⟩ := (right_iff h6).1 c1
    have := h3 _ q' (goR_singles hg l g1) g2
    rw [List.length_map] at this; omega
end
def listsM (m : Nat) : Nat → List (List Int)
  | 0 => [[]]
  | n + 1 => (List.range m).flatMap fun (k : Nat) => (listsM m n).map fun l => (k : Int) :: l
def ordB (l : List Tur) : Bool := (List.range (l.length - 1)).any fun i => decide ((nth l (i + 1)).lot ≤ (nth l i).lot)
def twI (b : Barn) (p : Pl) (l : List Tur) (i : Nat) : Bool := takenP b p (nth l i).aim || (l.take i).any fun u => decide (u.aim = (nth l i).aim)
def twB (b : Barn) (p : Pl) (l : List Tur) : Bool := (List.range l.length).any fun i => twI b p l i
def roundE (b : Barn) (p : Pl) (g : Int) (l : List Tur) : Int :=
  if (!l.all fun t => b.lot t.lot && b.bin t.aim) = true then 1 else if ordB l = true then 4 else if twB b p l = true then 5 else if (!l.all fun t => b.hold t.aim t.lot) = true then 9 else if (l.length : Int) > g then 2 else 0
def worksGo (b : Barn) (g : Int) : Pl → List (List Tur) → Bool × Int
  | p, [] => (madeP b p, 0)
  | p, l :: rs => if roundE b p g l = 0 then worksGo b g (movedAll p l) rs else (false, roundE b p g l)
def worksV (b : Barn) (g : Int) (rs : List (List Tur)) : Bool × Int := if askE b g = 0 then if (rs.length : Int) > 6000 then (false, 2) else worksGo b g (firstP b) rs else (false, askE b g)
structure WIx (b : Barn) (g : Int) (rs : List (List Tur)) (k : Nat) (p : Pl) : Prop where
  same : worksGo b g (firstP b) rs = worksGo b g p (rs.drop k)
  le : k ≤ rs.length
theorem WIx.stop {rs : List (List Tur)} {k : Nat} {p : Pl} (h : WIx b g rs k p) (hk : k < rs.length) (he : ¬ roundE b p g (nth rs k) = 0) : worksGo b g (firstP b) rs = (false, roundE b p g (nth rs k)) := by
  rw [h.same, drop_nth hk]; exact if_neg he
theorem WIx.next {rs : List (List Tur)} {k : Nat} {p : Pl} (h : WIx b g rs k p) (hk : k < rs.length) (he : roundE b p g (nth rs k) = 0) : WIx b g rs (k + 1) (movedAll p (nth rs k)) :=
  ⟨by rw [h.same, drop_nth hk]; exact if_pos he, hk⟩
theorem WIx.end {rs : List (List Tur)} {k : Nat} {p : Pl} (h : WIx b g rs k p) (hk : rs.length ≤ k) : worksGo b g (firstP b) rs = (madeP b p, 0) := by
  rw [h.same, List.drop_of_length_le hk]; rfl
end Go.Proofs.Ytpnndljmhpepgaa

namespace Go.Proofs.Ytpnndljmhpepgaa
open Go Go.T
def putP (b : Barn) (p : Pl) : Barn := ⟨b.sizes, (List.range b.lots.length).map fun i => ⟨(nth b.lots i).sacks, nth p.1 i, (nth b.lots i).aim⟩⟩
variable {b : Barn} {p q : Pl} {t : Tur}
def backL : Pl → List Tur → List Tur
  | _, [] => []
  | p, t :: l => ⟨t.lot, nth p.1 t.lot.toNat⟩ :: backL (moved p t) l
structure VP (b : Barn) (p : Pl) : Prop where
  apart : apartP b p
  named : ∀ i, i < b.lots.length → 0 ≤ nth p.1 i ∧ nth p.1 i < b.sizes.length
  holds : ∀ i, i < b.lots.length → (nth b.lots i).sacks ≤ nth b.sizes (nth p.1 i).toNat
theorem places_of {c : Barn} (hr : c.Right) {L : List Pl} (hn : L.Nodup) (h : ∀ r, r ∈ L ↔ ∃ l, goP c (firstP c) l = some r) : placesV c = (L.length : Nat) := by
  unfold placesV
  rw [if_pos (right_check hr)]
  obtain ⟨hs, _⟩ := search_spec hr (one_ok c) true
  have hw := (hs.whole rfl).2
  have e1 := nodup_sub hs.keys (L := L) fun r hr' => by
    obtain ⟨w, hw'⟩ := mem_mget hr'
    obtain ⟨l, hl, _⟩ := hs.walk r w hw'
    exact (h r).2 ⟨l, hl⟩
  have e2 := nodup_sub hn (L := (searchM c oneC true).ways.map Prod.fst) fun r hr' => by
    obtain ⟨l, hl⟩ := (h r).1 hr'
    obtain ⟨w, hw'⟩ := hw l r hl
    exact mget_some_mem hw'
  rw [List.length_map] at e1 e2
  congr 1
  omega
theorem reached (hr : b.Right) : ∃ L : List Pl, L.Nodup ∧ (∀ r, r ∈ L ↔ ∃ l, goP b (firstP b) l = some r) ∧ placesV b = (L.length : Nat) := by
  obtain ⟨hs, _⟩ := search_spec hr (one_ok b) true
  have hw := (hs.whole rfl).2
  have h : ∀ r, r ∈ (searchM b oneC true).ways.map Prod.fst ↔ ∃ l, goP b (firstP b) l = some r := fun r => by
    constructor
    · intro hr'
      obtain ⟨w, hw'⟩ := mem_mget hr'
      obtain ⟨l, hl, _⟩ := hs.walk r w hw'
      exact ⟨l, hl⟩
    · rintro ⟨l, hl⟩
      obtain ⟨w, hw'⟩ := hw l r hl
      exact mget_some_mem hw'
  exact ⟨_, hs.keys, h, places_of hr hs.keys h⟩
structure Backs (b : Barn) (plan : List Tur) (a : Barn) (back : List Tur) (p : List Int) : Prop where
  done : doneV b plan = (a, back, 0)
  home : doneV a back = (b, plan, 0)
  right : a.Right
  cost : costL (sackC a) back = costL (sackC b) plan
  ok : (lawV a back).2 = true
  at_ : lawV b plan = (p, true)
  sizes : a.sizes = b.sizes
  len : a.lots.length = b.lots.length
  plen : p.length = b.lots.length
  lot : ∀ i, i < b.lots.length → nth a.lots i = ⟨(nth b.lots i).sacks, nth p i, (nth b.lots i).aim⟩
  places : placesV a = placesV b
  one : 1 ≤ placesV b
  makes : makesB b plan = rightV b plan
  few : ∀ e l n e' l' n', Cheap b oneC e l n → Cheap a oneC e' l' n' → e = e' ∧ (e = 0 → n ≤ n' + plan.length ∧ n' ≤ n + plan.length)
end Go.Proofs.Ytpnndljmhpepgaa

namespace Go.Proofs.Ytpnndljmhpepgaa
open Go Go.T
def widerB (b : Barn) (n : Int) : Barn := ⟨b.sizes ++ [n], b.lots⟩
def looserB (b : Barn) (i : Nat) : Barn := ⟨b.sizes, b.lots.set i ⟨(nth b.lots i).sacks, (nth b.lots i).inn, -1⟩⟩
variable {b : Barn} {n : Int} {i : Nat}
theorem nth_left {l : List Int} (h : i < l.length) : nth (l ++ [n]) i = nth l i := by
  unfold nth; rw [List.getD_eq_getElem?_getD, List.getD_eq_getElem?_getD, List.getElem?_append_left h]
theorem wider_len (b : Barn) (n : Int) : (widerB b n).sizes.length = b.sizes.length + 1 := by
  show (b.sizes ++ [n]).length = _; rw [List.length_append]; rfl
theorem wider_right (hr : b.Right) (hl : b.sizes.length ≤ 6) (hn : 0 ≤ n ∧ n ≤ 300) : (widerB b n).Right := by
  have hb := hr.bins
  have e := wider_len b n
  refine ⟨by omega, hr.lots, fun x hx => ?_, hr.sacks, fun l hl' => ?_, fun l hl' => ?_, hr.apart, fun i hi => ?_⟩
  · rcases List.mem_append.1 (show x ∈ b.sizes ++ [n] from hx) with h | h
    · exact hr.size x h
    · rw [List.mem_singleton.1 h]; exact hn
  · have := hr.inn l hl'; omega
  · have := hr.aim l hl'; omega
  · have h1 := hr.holds i hi
    have h2 := hr.inn _ (nth_mem hi)
    have h3 := hr.aim _ (nth_mem hi)
    refine ⟨?_, fun hne => ?_⟩
    · show (nth b.lots i).sacks ≤ nth (b.sizes ++ [n]) (nth b.lots i).inn.toNat
      rw [nth_left (by omega)]; exact h1.1
    · show (nth b.lots i).sacks ≤ nth (b.sizes ++ [n]) (nth b.lots i).aim.toNat
      have hne' : (nth b.lots i).aim ≠ -1 := hne
      rw [nth_left (by omega)]; exact h1.2 hne
theorem wider_turns {p : Pl} {t : Tur} (h : t ∈ turnsL b p) : t ∈ turnsL (widerB b n) p := by
  rw [mem_turnsL] at h ⊢
  obtain ⟨h1, h2, h3, h4, h5, h6⟩ := h
  refine ⟨h1, h2, h3, by rw [wider_len]; omega, h5, ?_⟩
  unfold Barn.hold at h6 ⊢
  show decide (nth (b.sizes ++ [n]) t.aim.toNat ≥ _) = true
  rw [nth_left (by omega)]; exact h6
theorem wider_go : ∀ (l : List Tur) {p q : Pl}, goP b p l = some q → goP (widerB b n) p l = some q
  | [], _, _, h => h
  | t :: l, p, q, h => by
    obtain ⟨h1, h2⟩ := goP_cons h
    rw [goP_cons' (wider_turns h1)]; exact wider_go l h2
theorem wider_rightV (h6 : b.lots.length ≤ 6) {l : List Tur} (h : rightV b l = true) : rightV (widerB b n) l = true := by
  obtain ⟨q, h1, h2⟩ := (right_iff h6).1 h
  exact (right_iff (b := widerB b n) h6).2 ⟨q, wider_go l h1, h2⟩
theorem wider_places (hr : b.Right) (hr' : (widerB b n).Right) : placesV b ≤ placesV (widerB b n) := by
  obtain ⟨L, h1, h2, h3⟩ := reached hr
  obtain ⟨L', g1, g2, g3⟩ := reached hr'
  have := nodup_sub h1 (L := L') fun r hr0 => by
    obtain ⟨l, hl⟩ := (h2 r).1 hr0
    exact (g2 r).2 ⟨l, wider_go l hl⟩
  rw [h3, g3]; omega
theorem looser_len (b : Barn) (i : Nat) : (looserB b i).lots.length = b.lots.length := by
  show (b.lots.set _ _).length = _; rw [List.length_set]
theorem looser_nth {k : Nat} (hk : k < b.lots.length) : nth (looserB b i).lots k = if i = k then ⟨(nth b.lots k).sacks, (nth b.lots k).inn, -1⟩ else nth b.lots k := by
  have hk' : k < (b.lots.set i ⟨(nth b.lots i).sacks, (nth b.lots i).inn, -1⟩).length := by rw [List.length_set]; exact hk
  show nth (b.lots.set i _) k = _
  rw [nth_lt hk', List.getElem_set]
  by_cases e : i = k
  · subst e; rw [if_pos rfl, if_pos rfl]
  · rw [if_neg e, if_neg e, nth_lt hk]
theorem looser_sacks {k : Nat} (hk : k < b.lots.length) : (nth (looserB b i).lots k).sacks = (nth b.lots k).sacks ∧ (nth (looserB b i).lots k).inn = (nth b.lots k).inn ∧ ((nth (looserB b i).lots k).aim = (nth b.lots k).aim ∨ (nth (looserB b i).lots k).aim = -1) := by
  rw [looser_nth hk]
  by_cases e : i = k
  · rw [if_pos e]; exact ⟨rfl, rfl, .inr rfl⟩
  · rw [if_neg e]; exact ⟨rfl, rfl, .inl rfl⟩
theorem looser_mem {l : Lot} (h : l ∈ (looserB b i).lots) : ∃ k, k < b.lots.length ∧ l.sacks = (nth b.lots k).sacks ∧ l.inn = (nth b.lots k).inn ∧ (l.aim = (nth b.lots k).aim ∨ l.aim = -1) := by
  obtain ⟨k, hk, rfl⟩ := mem_nth h
  rw [looser_len] at hk
  exact ⟨k, hk, looser_sacks hk⟩
theorem looser_right (hr : b.Right) (i : Nat) : (looserB b i).Right := by
  have e := looser_len b i
  have hb := hr.bins
  refine ⟨hr.bins, by rw [e]; exact hr.lots, hr.size, fun l hl => ?_, fun l hl => ?_, fun l hl => ?_, fun x k hk hx => ?_, fun k hk => ?_⟩
  · obtain ⟨k, hk, h1, _, _⟩ := looser_mem hl
    rw [h1]; exact hr.sacks _ (nth_mem hk)
  · obtain ⟨k, hk, _, h1, _⟩ := looser_mem hl
    rw [h1]; exact hr.inn _ (nth_mem hk)
  · obtain ⟨k, hk, _, _, h1⟩ := looser_mem hl
    have h2 := hr.aim _ (nth_mem hk)
    show -1 ≤ l.aim ∧ l.aim < (b.sizes.length : Int)
    omega
  · rw [e] at hx
    obtain ⟨_, h2, h3⟩ := looser_sacks (i := i) (k := x) hx
    obtain ⟨_, g2, g3⟩ := looser_sacks (b := b) (i := i) (k := k) (by omega)
    have h4 := hr.apart x k hk hx
    rw [h2, g2]
    refine ⟨h4.1, fun e' => ?_⟩
    rcases h3 with h3 | h3
    · rcases g3 with g3 | g3
      · rw [h3]; exact h4.2 (by rw [← h3, ← g3]; exact e')
      · rw [e']; exact g3
    · exact h3
  · rw [e] at hk
    obtain ⟨h1, h2, h3⟩ := looser_sacks (i := i) (k := k) hk
    have h4 := hr.holds k hk
    rw [h1, h2]
    refine ⟨h4.1, fun hne => ?_⟩
    rcases h3 with h3 | h3
    · rw [h3] at hne ⊢; exact h4.2 hne
    · exact absurd h3 hne
theorem looser_turns {p : Pl} {t : Tur} : t ∈ turnsL (looserB b i) p ↔ t ∈ turnsL b p := by
  rw [mem_turnsL, mem_turnsL, looser_len]
  have h1 : takenP (looserB b i) p t.aim = takenP b p t.aim := by unfold takenP; rw [looser_len]
  rw [h1]
  have h2 : 0 ≤ t.lot → t.lot < b.lots.length → Barn.hold (looserB b i) t.aim t.lot = b.hold t.aim t.lot := fun h0 h => by
    unfold Barn.hold
    rw [(looser_sacks (i := i) (k := t.lot.toNat) (by omega)).1]; rfl
  constructor
  · rintro ⟨a1, a2, a3, a4, a5, a6⟩; exact ⟨a1, a2, a3, a4, a5, (h2 a1 a2).symm.trans a6⟩
  · rintro ⟨a1, a2, a3, a4, a5, a6⟩; exact ⟨a1, a2, a3, a4, a5, (h2 a1 a2).trans a6⟩
theorem looser_go : ∀ (l : List Tur) {p q : Pl}, goP b p l = some q → goP (looserB b i) p l = some q
  | [], _, _, h => h
  | t :: l, p, q, h => by
    obtain ⟨h1, h2⟩ := goP_cons h
    rw [goP_cons' (looser_turns.2 h1)]; exact looser_go l h2
theorem looser_first (b : Barn) (i : Nat) : firstP (looserB b i) = firstP b := by
  apply Subtype.ext
  show List.take 6 (((looserB b i).lots.map fun (l : Lot) => l.inn) ++ _) = List.take 6 ((b.lots.map fun (l : Lot) => l.inn) ++ _)
  congr 2
  apply List.ext_getElem
  · rw [List.length_map, List.length_map, looser_len]
  · intro k h1 h2
    rw [List.length_map] at h2
    rw [List.length_map] at h1
    rw [List.getElem_map, List.getElem_map, ← nth_lt h1, ← nth_lt h2]
    exact (looser_sacks h2).2.1
theorem looser_rightV (h6 : b.lots.length ≤ 6) {l : List Tur} (h : rightV b l = true) : rightV (looserB b i) l = true := by
  obtain ⟨q, h1, h2⟩ := (right_iff h6).1 h
  refine (right_iff (b := looserB b i) (by rw [looser_len]; exact h6)).2 ⟨q, by rw [looser_first]; exact looser_go l h1, ?_⟩
  unfold madeP
  rw [List.all_eq_true, looser_len]
  intro k hk
  have hk := List.mem_range.1 hk
  rcases (looser_sacks (i := i) hk).2.2 with e | e
  · rw [e]
    rcases made_at h2 hk with e | e
    · rw [decide_eq_true e]; rfl
    · rw [decide_eq_true e, Bool.or_true]
  · rw [decide_eq_true e]; rfl
theorem cheap_more {b' : Barn} {c : Tur → Int} {e e' n n' : Int} {l l' : List Tur} (h : ∀ l, rightV b l = true → rightV b' l = true) (hc : Cheap b c e l n) (hc' : Cheap b' c e' l' n') (h0 : e = 0) : e' = 0 ∧ n' ≤ n := by
  obtain ⟨h1, h2, _⟩ := hc.yes h0
  have h3 := h l h1
  rcases hc'.err with e0 | e7
  · exact ⟨e0, by rw [← h2]; exact (hc'.yes e0).2.2 l h3⟩
  · rw [(hc'.no e7).2.2 l] at h3; cases h3
theorem inn_nodup (hr : b.Right) : (innL b).Nodup := by
  rw [List.nodup_iff_pairwise_ne, List.pairwise_iff_getElem]
  intro i k hi hk hik e
  unfold innL at hi hk e
  rw [List.length_map] at hi hk
  rw [List.getElem_map, List.getElem_map, ← nth_lt hi, ← nth_lt hk] at e
  exact (hr.apart k i hik hk).1 e.symm
theorem free_inn {k : Int} : b.free k = true ↔ k ∉ innL b := by
  unfold Barn.free innL
  rw [List.all_eq_true, List.mem_map]
  constructor
  · rintro h ⟨l, hl, e⟩
    have := h l hl
    rw [decide_eq_true e] at this; cases this
  · intro h l hl
    rw [decide_eq_false fun e => h ⟨l, hl, e⟩]; rfl
theorem filtUp_true (n : Nat) : (filtUp (fun _ => true) n).length = n := by
  unfold filtUp; rw [List.length_map, List.filter_eq_self.2 (fun _ _ => rfl), List.length_range]
theorem free_count (hr : b.Right) : (freeL b).length + b.lots.length = b.sizes.length := by
  have hn : (freeL b ++ innL b).Nodup := by
    rw [List.nodup_append]
    refine ⟨filtUp_nodup _ _, inn_nodup hr, fun x hx y hy e => ?_⟩
    obtain ⟨k, _, h1, e'⟩ := filtUp_mem.1 hx
    have h1 : b.free (k : Int) = true := h1
    rw [← e', e] at h1
    exact free_inn.1 h1 hy
  have hl : (innL b).length = b.lots.length := by unfold innL; rw [List.length_map]
  have h1 := nodup_sub hn (L := filtUp (fun _ => true) b.sizes.length) fun x hx => by
    rcases List.mem_append.1 hx with h | h
    · obtain ⟨k, h1, _, h2⟩ := filtUp_mem.1 h
      exact filtUp_mem.2 ⟨k, h1, rfl, h2⟩
    · obtain ⟨l, hl', rfl⟩ := List.mem_map.1 h
      have := hr.inn l hl'
      exact filtUp_mem.2 ⟨l.inn.toNat, by omega, rfl, by omega⟩
  have h2 := nodup_sub (filtUp_nodup (fun _ => true) b.sizes.length) (L := freeL b ++ innL b) fun x hx => by
    obtain ⟨k, h1, _, h2⟩ := filtUp_mem.1 hx
    by_cases e : b.free (k : Int) = true
    · exact List.mem_append.2 (.inl (filtUp_mem.2 ⟨k, h1, e, h2⟩))
    · rw [free_inn] at e
      rw [h2]
      exact List.mem_append.2 (.inr (Classical.not_not.1 e))
  rw [filtUp_true, List.length_append] at h1 h2
  omega
theorem no_free (h6 : b.lots.length ≤ 6) (h : (freeL b).length = 0) {l : List Tur} {q : Pl} (hg : goP b (firstP b) l = some q) : l = [] ∧ q = firstP b := by
  cases l with
  | nil => injection hg with hg; exact ⟨rfl, hg.symm⟩
  | cons t l =>
    obtain ⟨h1, _⟩ := goP_cons hg
    obtain ⟨_, _, h3, h4, h5, _⟩ := mem_turnsL.1 h1
    have hf : b.free t.aim = true := by
      rw [free_inn]
      rw [takenP_not, first_inn h6] at h5; exact h5
    have : t.aim ∈ freeL b := filtUp_mem.2 ⟨t.aim.toNat, by omega, by rw [show ((t.aim.toNat : Nat) : Int) = t.aim by omega]; exact hf, by omega⟩
    rw [List.length_eq_zero_iff.1 h] at this; cases this
theorem no_places (hr : b.Right) (h : (freeL b).length = 0) : placesV b = 1 := by
  refine places_of hr (L := [firstP b]) (by simp) fun r => ?_
  rw [List.mem_singleton]
  constructor
  · rintro rfl; exact ⟨[], rfl⟩
  · rintro ⟨l, hl⟩; exact (no_free hr.lots h hl).2
theorem no_cost (hr : b.Right) (h : (freeL b).length = 0) {c : Tur → Int} {e n : Int} {l : List Tur} (hc : Cheap b c e l n) (h0 : e = 0) : n = 0 := by
  obtain ⟨h1, h2, _⟩ := hc.yes h0
  obtain ⟨q, g1, _⟩ := (right_iff hr.lots).1 h1
  rw [(no_free hr.lots h g1).1] at h2
  rw [← h2]; rfl
theorem no_lots (h : b.lots.length = 0) {e n : Int} {l : List Tur} (hc : Cheap b oneC e l n) : e = 0 ∧ n = 0 := by
  have h1 : rightV b [] = true := by
    refine (right_iff (by omega)).2 ⟨firstP b, rfl, ?_⟩
    unfold madeP; rw [h]; rfl
  rcases hc.err with e0 | e7
  · obtain ⟨h2, h3, h4⟩ := hc.yes e0
    have h5 := h4 [] h1
    rw [cost_one] at h3 h5
    exact ⟨e0, by rw [List.length_nil] at h5; omega⟩
  · rw [(hc.no e7).2.2 []] at h1; cases h1
structure Roomy (b : Barn) (n : Int) : Prop where
  free : ((freeL b).length : Int) = b.sizes.length - b.lots.length
  places : (freeL b).length = 0 → placesV b = 1
  cost : (freeL b).length = 0 → planE b oneC = 0 → costR b oneC = 0
  right : (widerB b n).Right
  more : placesV b ≤ placesV (widerB b n)
  few : planE b oneC = 0 → planE (widerB b n) oneC = 0 ∧ costR (widerB b n) oneC ≤ costR b oneC
  none : b.lots.length = 0 → planE b oneC = 0 ∧ costR b oneC = 0
  loose : ∀ i, planE b oneC = 0 → planE (looserB b i) oneC = 0 ∧ costR (looserB b i) oneC ≤ costR b oneC
theorem roomy (hr : b.Right) (hl : b.sizes.length ≤ 6) (hn : 0 ≤ n ∧ n ≤ 300) : Roomy b n := by
  have hw := wider_right hr hl hn
  have h1 := cheap hr (one_ok b)
  have h2 := cheap hw (one_ok _)
  have hf := free_count hr
  exact ⟨by omega, no_places hr, fun h => no_cost hr h h1, hw, wider_places hr hw, cheap_more (fun _ => wider_rightV hr.lots) h1 h2, fun h => no_lots h h1, fun i => cheap_more (fun _ => looser_rightV hr.lots) h1 (cheap (looser_right hr i) (one_ok _))⟩
end Go.Proofs.Ytpnndljmhpepgaa

namespace Go.T
open Go Go.RowKit
theorem Ty.row_vs {α : Type} {E : El α} {T tg n : Nat} {xs : List α} (hn : xs.length = n) : (Ty.row E T tg xs).Sub (Ty.vs tg n) := fun w M v ⟨cs, h1, h2, h3⟩ => by
  subst hn
  rcases h1.2 with ⟨e, h0⟩ | ⟨g, cap, cur, ex, _, hh, hn1, hcap, _, htk⟩
  · exact .inl ⟨h0, e⟩
  · exact .inr ⟨g, cap, h3 g (by rw [ex]; rfl), ex, hn1, hcap⟩
theorem Cont.sub_cellsL {T : Nat} {l l' : List Ty} (h : SubL l l') : (Cont.cells T l).Sub (Cont.cells T l') := fun _ _ _ ⟨b, cs, h1, h2, h3⟩ => ⟨b, cs, h1, h2, subL_dens h h3⟩
end Go.T

namespace Go.Proofs.Ytpnndljmhpepgaa
open Go Go.T
set_option maxHeartbeats 4000000
def aimedB (b : Barn) (i k : Int) : Barn := ⟨b.sizes, b.lots.set i.toNat ⟨(nth b.lots i.toNat).sacks, (nth b.lots i.toNat).inn, k⟩⟩
def aimV (b : Barn) (i k : Int) : Barn × Int := if knownE b i = 0 then if checkB (aimedB b i k) = 0 then (aimedB b i k, 0) else (noB, checkB (aimedB b i k)) else (noB, knownE b i)
attribute [local irreducible] planE costR placesV checkB freeL
attribute [local irreducible] dInt dBool dSl dPp dPtr dAgg dTup dClo dAny dEx dStr dGd dCells dVec dVs dRow dOp nth Tri Into TOps Ctr bodyPost Exit.then Exit.inBlock Code.wp Code.wpIn dWhen dPa dPe dAo dArr dMp dPm dMap dCJ CtrG CtrI OpY keepPost iterPost bodyPostM roundQ
set_option maxRecDepth 100000 in
theorem k_Clone_lot (l : List Lot) (h : l.length ≤ 1000) : CtrG Try.prog 103 [] [] [Ty.sl LotE l] [] (Ty.row LotE 57 6 l) := by
  refine fnG_intro Try.func103 rfl (by decide) Try.ntmps103 (by exact Nat.le_of_ble_eq_true rfl) fun w0 M0 => ?_
  refine t_seq ?_
  refine t_region ?_
  refine asX rfl ?_
  refine r_nil ?_
  refine i_then ?_
  refine t_seq ?_
  refine t_seq ?_
  refine t_region ?_
  refine mvS rfl ?_
  refine r_eqnil und23 rfl ?_
  refine r_nil ?_
  refine i_then ?_
  refine t_cond_nb rfl (fun hc1 => ?_) (fun hc1 => ?_)
  ·
    refine t_seq ?_
    refine t_region ?_
    refine asX rfl ?_
    refine r_nil ?_
    refine i_then ?_
    refine t_ret ?_
    refine i_then_ret ?_
    refine g_ret1 [6] rfl rfl (by decide) (by repeat (exact rc_nil)) ?_
    all_goals skip
    all_goals (obtain rfl : l = [] := hc1; exact rg_cv cv_nilrow)
  ·
    refine t_skip ?_
    refine i_then ?_
    refine t_seq ?_
    refine t_region ?_
    refine r_buildRow (E := LotE) rfl rfl rfl rfl ?_
    refine mvS rfl ?_
    refine r_append rfl rfl (by decide) rfl rfl rfl rfl rfl rfl (by decide) (by (simp <;> omega)) (by (simp <;> omega)) ?_
    refine asR rfl ?_
    refine r_nil ?_
    refine i_then ?_
    refine t_ret ?_
    refine g_ret1 [6] rfl rfl (by decide) (by repeat (exact rc_nil)) ?_
    all_goals skip
    all_goals exact rg_cv (cv_row (by decide))
end Go.Proofs.Ytpnndljmhpepgaa

namespace Go.Proofs.Ytpnndljmhpepgaa
open Go Go.T
set_option maxHeartbeats 4000000
theorem und4 : Try.prog.underlying 4 = some .bool := Try.underlying4
theorem doneGo_rng : ∀ (l : List Tur) {cur : Barn} {back : List Tur}, (doneGo cur back l).2.2 = 0 → ∀ t ∈ l, 0 ≤ t.lot ∧ t.lot < cur.lots.length
  | [], _, _, _, t, ht => by cases ht
  | u :: l, cur, back, h, t, ht => by
    have h : (if (turnedB cur u).2 = 0 then doneGo (turnedB cur u).1 (back ++ [⟨u.lot, (nth cur.lots u.lot.toNat).inn⟩]) l else (noB, [], (turnedB cur u).2)).2.2 = 0 := h
    by_cases c : (turnedB cur u).2 = 0
    · rw [if_pos c] at h
      obtain ⟨h1, _, _, _, e⟩ := turned_err c
      rcases List.mem_cons.1 ht with rfl | ht
      · exact h1
      · have := doneGo_rng l h t ht
        rw [e] at this
        have e2 : (lotsTo cur u).length = cur.lots.length := by unfold lotsTo; rw [List.length_set]
        rw [← e2]; exact this
    · rw [if_neg c] at h; exact absurd h c
theorem done_rng {b : Barn} {plan : List Tur} (h : (doneV b plan).2.2 = 0) : checkB b = 0 ∧ plan.length ≤ 6000 ∧ ∀ t ∈ plan, 0 ≤ t.lot ∧ t.lot < b.lots.length := by
  by_cases c : checkB b = 0
  · by_cases c2 : (plan.length : Int) > 6000
    · rw [doneV_long c c2] at h; cases h
    · rw [doneV_go c c2 rfl] at h
      exact ⟨c, by omega, doneGo_rng plan h⟩
  · rw [doneV_bad c] at h; exact absurd h c
theorem sumUp_rng {b : Barn} (hr : b.Right) {l : List Tur} (h : ∀ t ∈ l, 0 ≤ t.lot ∧ t.lot < b.lots.length) : ∀ k, k ≤ l.length → 0 ≤ sumUp b l k ∧ sumUp b l k ≤ 300 * k
  | 0, _ => by rw [sumUp_zero]; exact ⟨Int.le_refl _, Int.le_refl _⟩
  | k + 1, hk => by
    have h1 := sumUp_rng hr h k (by omega)
    have h3 := sack_bound hr (h _ (nth_mem (xs := l) (k := k) (by omega)))
    rw [sumUp_succ (by omega)]; omega
def sackV (b : Barn) (plan : List Tur) : Int × Int := if (doneV b plan).2.2 = 0 then (costL (sackC b) plan, 0) else (0, (doneV b plan).2.2)
theorem sackV_1 {b : Barn} {plan : List Tur} (h : ¬ (doneV b plan).2.2 = 0) : sackV b plan = (0, (doneV b plan).2.2) := if_neg h
theorem sackV_2 {b : Barn} {plan : List Tur} (h : (doneV b plan).2.2 = 0) {k : Nat} (hk : plan.length ≤ k) : sackV b plan = (sumUp b plan k, 0) := by
  unfold sackV sumUp; rw [if_pos h, List.take_of_length_le hk]
def sameV (a b : Barn) : Bool := decide (a.sizes = b.sizes) && decide (a.lots = b.lots)
theorem sameV_self (b : Barn) : sameV b b = true := by unfold sameV; simp
section
variable {b a : Barn} {P back : List Tur} {p : List Int}
end
attribute [local irreducible] planE costR placesV checkB doneV costL sackC walkP walkE rightV makesB lawV sumUp sameV
attribute [local irreducible] dInt dBool dSl dPp dPtr dAgg dTup dClo dAny dEx dStr dGd dCells dVec dVs dRow dOp nth Tri Into TOps Ctr bodyPost Exit.then Exit.inBlock Code.wp Code.wpIn dWhen dPa dPe dAo dArr dMp dPm dMap dCJ CtrG CtrI OpY keepPost iterPost bodyPostM roundQ
set_option maxRecDepth 100000 in
theorem c_same (a b : Barn) : Ctr Try.prog 24 [barnT a, barnT b] (Ty.bool (sameV a b)) := by
  refine fn_intro Try.func24 rfl (by decide) Try.ntmps24 (by exact Nat.le_of_ble_eq_true rfl) fun w0 M0 => ?_
  refine t_seq ?_
  refine t_region ?_
  refine r_box_agg rfl ?_
  refine r_box_agg rfl ?_
  refine asB rfl ?_
  refine r_nil ?_
  refine i_then ?_
  refine t_seq ?_
  refine t_region ?_
  refine r_field_pp rfl rfl rfl rfl rfl (by decide) ?_
  refine r_load_pp rfl rfl rfl rfl ?_
  refine r_field_pp rfl rfl rfl rfl rfl (by decide) ?_
  refine r_load_pp rfl rfl rfl rfl ?_
  refine r_call (c_Eq_int a.sizes b.sizes) rfl rfl rfl rfl rfl ?_
  refine mvB rfl ?_
  apply r_guard (s := 10) rfl rfl rfl
  · intro hg; apply opT_of; (refine r_field_pp rfl rfl rfl rfl rfl (by decide) ?_); refine r_nil ?_; exact rfl
  · exact rfl
  · exact rfl
  apply r_guard (s := 10) rfl rfl rfl
  · intro hg; apply opT_strip (s := 11) rfl (by (rw [hg]; rfl)); apply opT_of; (refine r_load_pp rfl rfl rfl rfl ?_); refine r_nil ?_; exact rfl
  · exact rfl
  · exact rfl
  apply r_guard (s := 10) rfl rfl rfl
  · intro hg; apply opT_of; (refine r_field_pp rfl rfl rfl rfl rfl (by decide) ?_); refine r_nil ?_; exact rfl
  · exact rfl
  · exact rfl
  apply r_guard (s := 10) rfl rfl rfl
  · intro hg; apply opT_strip (s := 13) rfl (by (rw [hg]; rfl)); apply opT_of; (refine r_load_pp rfl rfl rfl rfl ?_); refine r_nil ?_; exact rfl
  · exact rfl
  · exact rfl
  apply r_guard (s := 10) rfl rfl rfl
  · intro hg; apply opT_strip (s := 12) rfl (by (rw [hg]; rfl)); apply opT_strip (s := 14) rfl (by (rw [hg]; rfl)); apply opT_of; (refine r_call (c_Eq_lot a.lots b.lots) rfl rfl rfl rfl rfl ?_); refine r_nil ?_; exact rfl
  · exact rfl
  · exact rfl
  refine r_and rfl rfl ?_
  refine asB rfl ?_
  refine r_nil ?_
  refine i_then ?_
  refine t_ret ?_
  refine i_rp1 rfl rfl ?_
  all_goals skip
  all_goals exact ret_eq rfl rfl (congrArg Ty.bool (by unfold sameV; rfl))
set_option maxRecDepth 100000 in
theorem c_Sacks (b : Barn) (hs : b.Small) (plan : List Tur) (hp : plan.length ≤ 1000000) : Ctr Try.prog 33 [barnT b, Ty.sl TurE plan] (Ty.tup [Ty.int .i64 (sackV b plan).1, Ty.int .i64 (sackV b plan).2]) := by
  refine fn_intro Try.func33 rfl (by decide) Try.ntmps33 (by exact Nat.le_of_ble_eq_true rfl) fun w0 M0 => ?_
  refine t_seq ?_
  refine t_region ?_
  refine r_box_agg rfl ?_
  refine asI rfl ?_
  refine asI rfl ?_
  refine r_nil ?_
  refine i_then ?_
  refine t_seq ?_
  refine t_seq ?_
  refine t_region ?_
  refine r_load_ppN rfl rfl rfl (by exact Nat.le_of_ble_eq_true rfl) ?_
  refine mvS rfl ?_
  refine r_call (c_done b hs plan hp) rfl rfl rfl rfl rfl ?_
  refine mvT rfl ?_
  refine r_extract rfl rfl ?_
  refine r_extract rfl rfl ?_
  refine r_extract rfl rfl ?_
  refine r_alloc rfl (by exact List.cons_ne_nil _ _) rfl ?_
  refine r_storeN rfl rfl (by decide) rfl rfl rfl rfl rfl rfl ?_
  refine asS rfl ?_
  refine asI rfl ?_
  refine r_nil ?_
  refine i_then ?_
  refine t_seq ?_
  refine t_region ?_
  refine mvI rfl ?_
  refine r_bin rfl rfl rfl ?_
  refine r_nil ?_
  refine i_then ?_
  refine t_cond_ndec rfl (fun hc1 => ?_) (fun hc1 => ?_)
  ·
    refine t_seq ?_
    refine t_region ?_
    refine mvI rfl ?_
    refine asI rfl ?_
    refine asI rfl ?_
    refine r_nil ?_
    refine i_then ?_
    refine t_ret ?_
    refine i_then_ret ?_
    refine i_rp2 rfl rfl rfl ?_ ?_
    all_goals skip
    all_goals first | exact ret_eq rfl rfl (congrArg (fun z : Int × Int => Ty.int .i64 z.1) (sackV_1 hc1).symm) | exact ret_eq rfl rfl (congrArg (fun z : Int × Int => Ty.int .i64 z.2) (sackV_1 hc1).symm)
  ·
    refine t_skip ?_
    refine i_then ?_
    refine t_seq ?_
    obtain ⟨hd1, hd2, hd3⟩ := done_rng hc1
    have hr := check_right hd1
    refine t_region ?_
    refine asI rfl ?_
    refine r_nil ?_
    refine i_then ?_
    refine t_seq ?_
    refine t_seq ?_
    refine t_region ?_
    refine mvS rfl ?_
    refine r_len rfl rfl rfl ?_
    refine mvI rfl ?_
    refine r_nil ?_
    refine i_then ?_
    refine t_block ?_
    refine t_loop (fun (k : {k : Nat // k ≤ plan.length}) => live [(2, Ty.pp (barnTys b)), (9, Ty.int .i64 (sumUp b plan k.1)), (22, Ty.sl TurE plan), (23, Ty.int .i64 plan.length), (24, Ty.int .i64 (k.1 : Nat))] []) (fun k => plan.length - k.1) (⟨0, by omega⟩) ?_ fun k => ?_
    · (refine Ent.mk' ?_ ?_ <;> (repeat' (first | exact allSub_zero | exact allTags_nil | refine allSub_succ' ?_ (Ty.sub_any _) | refine allSub_succ' ?_ (Ty.sub_refl _) | refine allSub_succ' ?_ ?_)))
      all_goals exact Ty.sub_int (sumUp_zero b _).symm
    ·
      have hk := k.2
      have hsu := sumUp_rng hr hd3 k.1 hk
      refine t_seq ?_
      refine t_region ?_
      refine r_bin rfl rfl rfl ?_
      refine r_nil ?_
      refine i_then ?_
      refine t_seq ?_
      refine t_cond_dec rfl (fun hc2 => ?_) (fun hc2 => ?_)
      ·
        refine t_skip ?_
        refine i_then ?_
        refine t_seq ?_
        refine t_block ?_
        refine t_seq ?_
        refine t_region ?_
        refine r_index_slN rfl rfl rfl rfl rfl rfl (by omega) ?_
        refine r_load_ppN rfl rfl rfl (by exact Nat.le_of_ble_eq_true rfl) ?_
        refine r_alloc rfl (by exact List.cons_ne_nil _ _) rfl ?_
        refine r_storeN rfl rfl (by decide) rfl rfl rfl rfl rfl rfl ?_
        refine r_nil ?_
        refine i_then ?_
        have hlo := hd3 _ (nth_mem (xs := plan) (k := k.1) (by omega))
        have hsb := sack_bound hr hlo
        refine t_region ?_
        refine mvI rfl ?_
        refine r_field_pp rfl rfl rfl rfl rfl (by decide) ?_
        refine r_load_pp rfl rfl rfl rfl ?_
        refine r_field_ptr rfl rfl rfl rfl rfl (by decide) ?_
        refine r_load_ptr rfl rfl (by decide) rfl rfl rfl ?_
        refine r_index_sl rfl rfl rfl rfl rfl rfl hlo.1 (by omega) ?_
        refine r_field_pp rfl rfl rfl rfl rfl (by decide) ?_
        refine r_load_pp rfl rfl rfl rfl ?_
        refine r_add rfl rfl (by omega) (by omega) ?_
        refine asI rfl ?_
        refine r_nil ?_
        refine i_block ?_
        refine i_then ?_
        refine t_region ?_
        refine r_add rfl rfl (by omega) (by omega) ?_
        refine mvI rfl ?_
        refine r_nil ?_
        refine i_round (⟨k.1 + 1, by omega⟩) ?_ (by show plan.length - (k.1 + 1) < plan.length - k.1; omega)
        (refine Ent.mk' ?_ ?_ <;> (repeat' (first | exact allSub_zero | exact allTags_nil | refine allSub_succ' ?_ (Ty.sub_any _) | refine allSub_succ' ?_ (Ty.sub_refl _) | refine allSub_succ' ?_ ?_)))
        all_goals skip
        all_goals exact Ty.sub_int (sumUp_succ (by omega)).symm
      ·
        refine t_exit ?_
        refine i_then_exit ?_
        refine i_then_exit ?_
        refine i_block_exit rfl ?_
        refine i_then ?_
        refine t_seq ?_
        refine t_region ?_
        refine mvI rfl ?_
        refine asI rfl ?_
        refine asI rfl ?_
        refine r_nil ?_
        refine i_then ?_
        refine t_ret ?_
        refine i_rp2 rfl rfl rfl ?_ ?_
        all_goals skip
        all_goals first | exact ret_eq rfl rfl (congrArg (fun z : Int × Int => Ty.int .i64 z.1) (sackV_2 hc1 (by omega)).symm) | exact ret_eq rfl rfl (congrArg (fun z : Int × Int => Ty.int .i64 z.2) (sackV_2 hc1 (Nat.le_refl _)).symm)
section
variable {b a : Barn} {P back : List Tur}
end
end Go.Proofs.Ytpnndljmhpepgaa

namespace Go.Proofs.Ytpnndljmhpepgaa
open Go Go.T
set_option maxHeartbeats 4000000
def rowO (x : Option (List Int)) : List Ty := match x with | none => [Ty.ex (.slice none 0 0)] | some l => [Ty.sl I64 l]
def RowOE : El (Option (List Int)) := El.mk' 1 rowO (fun x => by cases x <;> rfl) (fun x => by cases x <;> exact ⟨rfl, rfl, rfl⟩)
instance : Inhabited (Option (List Int)) := ⟨none⟩
def rowU (l : List (List Int)) (k : Nat) : List (Option (List Int)) := (l.take k).map some ++ List.replicate (l.length - k) none
def greatV (b : Barn) : Bool := decide ((b.sizes.length : Int) > 12) || decide ((b.lots.length : Int) > 10)
theorem small_great {b : Barn} (h : greatV b = false) : b.Small := by
  unfold greatV at h
  simp only [Bool.or_eq_false_iff, decide_eq_false_iff_not] at h
  exact ⟨by omega, by omega⟩
def aimTys (s t : Nat) (b : Barn) : List Ty := [Ty.row I64 3 s b.sizes, Ty.vs t b.lots.length]
attribute [local irreducible] dInt dBool dSl dPp dPtr dAgg dTup dClo dAny dEx dStr dGd dCells dVec dVs dRow dOp nth Tri Into TOps Ctr bodyPost Exit.then Exit.inBlock Code.wp Code.wpIn dWhen dPa dPe dAo dArr dMp dPm dMap dCJ CtrG CtrI OpY keepPost iterPost bodyPostM roundQ
attribute [local irreducible] dRowJ dMs dFit
set_option maxRecDepth 100000 in
theorem c_great (b : Barn) : Ctr Try.prog 28 [barnT b] (Ty.bool (greatV b)) := by
  refine fn_intro Try.func28 rfl (by decide) Try.ntmps28 (by exact Nat.le_of_ble_eq_true rfl) fun w0 M0 => ?_
  refine t_seq ?_
  refine t_region ?_
  refine r_box_agg rfl ?_
  refine asB rfl ?_
  refine r_nil ?_
  refine i_then ?_
  refine t_seq ?_
  refine t_region ?_
  refine r_field_pp rfl rfl rfl rfl rfl (by decide) ?_
  refine r_load_pp rfl rfl rfl rfl ?_
  refine r_len rfl rfl rfl ?_
  refine r_bin rfl rfl rfl ?_
  refine mvB rfl ?_
  apply r_guard (s := 7) rfl rfl rfl
  · intro hg; apply opT_of; (refine r_field_pp rfl rfl rfl rfl rfl (by decide) ?_); refine r_nil ?_; exact rfl
  · exact rfl
  · exact rfl
  apply r_guard (s := 7) rfl rfl rfl
  · intro hg; apply opT_strip (s := 8) rfl (by (rw [hg]; rfl)); apply opT_of; (refine r_load_pp rfl rfl rfl rfl ?_); refine r_nil ?_; exact rfl
  · exact rfl
  · exact rfl
  apply r_guard (s := 7) rfl rfl rfl
  · intro hg; apply opT_strip (s := 9) rfl (by (rw [hg]; rfl)); apply opT_of; (refine r_len rfl rfl rfl ?_); refine r_nil ?_; exact rfl
  · exact rfl
  · exact rfl
  apply r_guard (s := 7) rfl rfl rfl
  · intro hg; apply opT_strip (s := 10) rfl (by (rw [hg]; rfl)); apply opT_of; (refine r_bin rfl rfl rfl ?_); refine r_nil ?_; exact rfl
  · exact rfl
  · exact rfl
  refine r_or rfl rfl ?_
  refine asB rfl ?_
  refine r_nil ?_
  refine i_then ?_
  refine t_ret ?_
  refine i_rp1 rfl rfl ?_
  all_goals exact ret_refl rfl rfl
  all_goals trace_state
set_option maxRecDepth 100000 in
theorem c_theirs (b : Barn) (hs : b.Small) : Ctr Try.prog 16 [barnT b] (barnT b) := by
  refine fn_intro Try.func16 rfl (by decide) Try.ntmps16 (by exact Nat.le_of_ble_eq_true rfl) fun w0 M0 => ?_
  have hs1 := hs.lots
  refine t_seq ?_
  refine t_region ?_
  refine r_box_agg rfl ?_
  refine r_alloc rfl (by exact List.cons_ne_nil _ _) rfl ?_
  refine r_nil ?_
  refine i_then ?_
  refine t_seq ?_
  refine t_region ?_
  refine r_field_pp rfl rfl rfl rfl rfl (by decide) ?_
  refine r_load_pp rfl rfl rfl rfl ?_
  refine r_build rfl rfl (by exact List.cons_ne_nil _ _) rfl (by repeat (first | exact (Parts.nil : Parts _ _ [] _) | (show Parts _ _ ((_, _) :: _) _; apply Parts.one; (· exact (rfl : _ = Ty.sl _ _)); (· exact rfl)))) (by exact (rfl : _ = some [_, _])) ?_
  refine r_alloc rfl (by exact List.cons_ne_nil _ _) rfl ?_
  refine r_storeN rfl rfl (by decide) rfl rfl rfl rfl rfl rfl ?_
  refine r_nil ?_
  refine i_then ?_
  refine t_seq ?_
  refine t_seq ?_
  refine t_region ?_
  refine r_field_pp rfl rfl rfl rfl rfl (by decide) ?_
  refine r_load_pp rfl rfl rfl rfl ?_
  refine r_len rfl rfl rfl ?_
  refine mvI rfl ?_
  refine r_nil ?_
  refine i_then ?_
  refine t_block ?_
  refine t_loop (fun (k : {k : Nat // k ≤ b.lots.length}) => live [(2, Ty.ptr 3 0), (3, Ty.ptr 4 0), (10, Ty.sl LotE b.lots), (11, Ty.int .i64 b.lots.length), (12, Ty.int .i64 (k.1 : Nat))] [(3, Cont.cells 31 [Ty.ex (.slice none 0 0), Ty.ex (.slice none 0 0)]), (4, Cont.cells 31 [Ty.sl I64 b.sizes, Ty.row LotE 110 21 (b.lots.take k.1)])]) (fun k => b.lots.length - k.1) (⟨0, by omega⟩) ?_ fun k => ?_
  · (refine Ent.mk' ?_ ?_ <;> (repeat' (first | exact allSub_zero | exact allTags_nil | exact subs_nil | refine allSub_succ' ?_ (Ty.sub_any _) | refine allSub_succ' ?_ (Ty.sub_refl _) | refine allTags_cons rfl (Cont.sub_refl _) ?_ | refine allTags_cons rfl (Cont.sub_subs ?_) ?_ | refine subs_cons ?_ (Ty.sub_refl _) | refine subs_cons ?_ Ty.nil_row)))
    all_goals trace_state
  ·
    have hk := k.2
    refine t_seq ?_
    refine t_region ?_
    refine r_bin rfl rfl rfl ?_
    refine r_nil ?_
    refine i_then ?_
    refine t_seq ?_
    refine t_cond_dec rfl (fun hc1 => ?_) (fun hc1 => ?_)
    ·
      refine t_skip ?_
      refine i_then ?_
      refine t_seq ?_
      refine t_block ?_
      refine t_seq ?_
      refine t_region ?_
      refine r_index_slN rfl rfl rfl rfl rfl rfl (by omega) ?_
      refine r_load_ppN rfl rfl rfl (by exact Nat.le_of_ble_eq_true rfl) ?_
      refine r_alloc rfl (by exact List.cons_ne_nil _ _) rfl ?_
      refine r_storeN rfl rfl (by decide) rfl rfl rfl rfl rfl rfl ?_
      refine r_nil ?_
      refine i_then ?_
      refine t_region ?_
      refine r_field_ptr rfl rfl rfl rfl rfl (by decide) ?_
      refine r_load_ptr rfl rfl (by decide) rfl rfl rfl ?_
      refine r_load_ptrN rfl rfl (by decide) rfl rfl (by exact Nat.le_of_ble_eq_true rfl) ?_
      refine r_buildSlice (E := LotE) (xs := [nth b.lots k.1]) rfl rfl rfl rfl rfl (by decide) (by decide) (by repeat (first | exact (Parts.nil : Parts _ _ [] _) | (show Parts _ _ ((_, _) :: _) _; apply Parts.agg; (· exact (rfl : _ = Ty.agg _))))) (by exact rfl) rfl ?_
      refine r_append rfl rfl (by decide) rfl rfl rfl rfl rfl rfl (by decide) (by (simp <;> omega)) (by (simp <;> omega)) ?_
      refine r_field_ptr rfl rfl rfl rfl rfl (by decide) ?_
      refine r_store1 rfl rfl (by decide) rfl rfl (by exact (rfl : _ = Ty.row _ _ _ _)) rfl (by exact Nat.le_of_ble_eq_true rfl) rfl rfl (by exact rfl) ?_
      refine r_nil ?_
      refine i_block ?_
      refine i_then ?_
      refine t_region ?_
      refine r_add rfl rfl (by omega) (by omega) ?_
      refine mvI rfl ?_
      refine r_nil ?_
      refine i_round (⟨k.1 + 1, by omega⟩) ?_ (by show b.lots.length - (k.1 + 1) < b.lots.length - k.1; omega)
      (refine Ent.mk' ?_ ?_ <;> (repeat' (first | exact allSub_zero | exact allTags_nil | exact subs_nil | refine allSub_succ' ?_ (Ty.sub_any _) | refine allSub_succ' ?_ (Ty.sub_refl _) | refine allTags_cons rfl (Cont.sub_refl _) ?_ | refine allTags_cons rfl (Cont.sub_subs ?_) ?_ | refine subs_cons ?_ (Ty.sub_refl _) | refine subs_cons ?_ ?_)))
      all_goals exact Ty.sub_row (take_nth (by omega)).symm
      all_goals trace_state
    ·
      refine t_exit ?_
      refine i_then_exit ?_
      refine i_then_exit ?_
      refine i_block_exit rfl ?_
      refine i_then ?_
      refine t_seq ?_
      refine t_pubC (tg := 21) [] [(4, Cont.cells 31 [Ty.sl I64 b.sizes, Ty.sl LotE (b.lots.take k.1)])] (by decide) rfl trivial ⟨pubC_cells rfl rfl ⟨pubTy_same rfl, pubTy_row, trivial⟩, trivial⟩ ?_
      refine t_region ?_
      refine r_load_ptrN rfl rfl (by decide) rfl rfl (by exact Nat.le_of_ble_eq_true rfl) ?_
      refine r_storeN rfl rfl (by decide) rfl rfl rfl rfl rfl rfl ?_
      refine r_nil ?_
      refine i_then ?_
      refine t_ret ?_
      refine i_rcell rfl rfl rfl rfl (by decide) rfl rfl rfl ?_
      all_goals exact ret_eq rfl rfl (congrArg (fun l => barnT ⟨b.sizes, l⟩) (show b.lots.take k.1 = b.lots from List.take_of_length_le (by have := k.2; omega)))
set_option maxRecDepth 100000 in
theorem k_Clone_int (l : List Int) (h : l.length ≤ 1000) : CtrG Try.prog 102 [] [] [Ty.sl I64 l] [] (Ty.row I64 3 6 l) := by
  refine fnG_intro Try.func102 rfl (by decide) Try.ntmps102 (by exact Nat.le_of_ble_eq_true rfl) fun w0 M0 => ?_
  refine t_seq ?_
  refine t_region ?_
  refine asX rfl ?_
  refine r_nil ?_
  refine i_then ?_
  refine t_seq ?_
  refine t_seq ?_
  refine t_region ?_
  refine mvS rfl ?_
  refine r_eqnil und22 rfl ?_
  refine r_nil ?_
  refine i_then ?_
  refine t_cond_nb rfl (fun hc1 => ?_) (fun hc1 => ?_)
  ·
    refine t_seq ?_
    refine t_region ?_
    refine asX rfl ?_
    refine r_nil ?_
    refine i_then ?_
    refine t_ret ?_
    refine i_then_ret ?_
    refine g_ret1 [6] rfl rfl (by decide) (by repeat (exact rc_nil)) ?_
    all_goals skip
    all_goals (obtain rfl : l = [] := hc1; exact rg_cv cv_nilrow)
  ·
    refine t_skip ?_
    refine i_then ?_
    refine t_seq ?_
    refine t_region ?_
    refine r_buildRow (E := I64) rfl rfl rfl rfl ?_
    refine mvS rfl ?_
    refine r_append rfl rfl (by decide) rfl rfl rfl rfl rfl rfl (by decide) (by (simp <;> omega)) (by (simp <;> omega)) ?_
    refine asR rfl ?_
    refine r_nil ?_
    refine i_then ?_
    refine t_ret ?_
    refine g_ret1 [6] rfl rfl (by decide) (by repeat (exact rc_nil)) ?_
    all_goals skip
    all_goals exact rg_cv (cv_row (by decide))
set_option maxRecDepth 100000 in
theorem k_Dup_lot (l : List Lot) (h : l.length ≤ 1000) : CtrG Try.prog 69 [] [] [Ty.sl LotE l] [] (Ty.row LotE 57 6 l) := by
  refine fnG_intro Try.func69 rfl (by decide) Try.ntmps69 (by exact Nat.le_of_ble_eq_true rfl) fun w0 M0 => ?_
  refine t_seq ?_
  refine t_region ?_
  refine asX rfl ?_
  refine r_nil ?_
  refine i_then ?_
  refine t_seq ?_
  refine t_region ?_
  refine mvS rfl ?_
  refine r_len rfl rfl rfl ?_
  refine r_make0 (E := LotE) rfl rfl rfl rfl rfl rfl rfl (by decide) rfl (by omega) (by (dsimp only; omega)) (by omega) ?_
  refine mvS rfl ?_
  refine r_append rfl rfl (by decide) rfl rfl rfl rfl rfl rfl (by decide) (by (simp <;> omega)) (by (simp <;> omega)) ?_
  refine asR rfl ?_
  refine r_nil ?_
  refine i_then ?_
  refine t_ret ?_
  refine g_ret1 [6] rfl rfl (by decide) (by repeat (exact rc_nil)) ?_
  all_goals skip
  all_goals exact rg_cv (cv_row (by decide))
set_option maxRecDepth 100000 in
theorem c_Own (b : Barn) (hs : b.Small) : Ctr Try.prog 15 [barnT b] (barnT b) := by
  refine fn_intro Try.func15 rfl (by decide) Try.ntmps15 (by exact Nat.le_of_ble_eq_true rfl) fun w0 M0 => ?_
  refine t_seq ?_
  refine t_region ?_
  refine r_box_agg rfl ?_
  refine r_alloc rfl (by exact List.cons_ne_nil _ _) rfl ?_
  refine r_nil ?_
  refine i_then ?_
  refine t_seq ?_
  refine t_draw mixed rfl ?_
  refine r_field_pp rfl rfl rfl rfl rfl (by decide) ?_
  refine r_load_pp rfl rfl rfl rfl ?_
  refine r_call (c_Dup_int b.sizes (by have := hs.sizes; omega)) rfl rfl rfl rfl rfl ?_
  refine r_field_pp rfl rfl rfl rfl rfl (by decide) ?_
  refine r_load_pp rfl rfl rfl rfl ?_
  refine r_call (c_Dup_lot b.lots (by have := hs.lots; omega)) rfl rfl rfl rfl rfl ?_
  refine r_build rfl rfl (by exact List.cons_ne_nil _ _) rfl (by repeat (first | exact (Parts.nil : Parts _ _ [] _) | (show Parts _ _ ((_, _) :: _) _; apply Parts.one; (· exact (rfl : _ = Ty.sl _ _)); (· exact rfl)))) (by exact (rfl : _ = some [_, _])) ?_
  refine r_storeN rfl rfl (by decide) rfl rfl rfl rfl rfl rfl ?_
  refine r_nil ?_
  refine ⟨by kernel_rfl, ?_⟩
  refine i_then ?_
  refine t_ret ?_
  refine i_rcell rfl rfl rfl rfl (by decide) rfl rfl rfl ?_
  all_goals exact ret_eq rfl rfl rfl
set_option maxRecDepth 100000 in
theorem k_OwnL (b : Barn) (hs : b.Small) : CtrG Try.prog 15 [] [] [barnT b] [] (Ty.agg [Ty.sl I64 b.sizes, Ty.row LotE 57 9 b.lots]) := by
  refine fnG_intro Try.func15 rfl (by decide) Try.ntmps15 (by exact Nat.le_of_ble_eq_true rfl) fun w0 M0 => ?_
  refine t_seq ?_
  refine t_region ?_
  refine r_box_agg rfl ?_
  refine r_alloc rfl (by exact List.cons_ne_nil _ _) rfl ?_
  refine r_nil ?_
  refine i_then ?_
  refine t_seq ?_
  refine t_draw mixed rfl ?_
  refine r_field_pp rfl rfl rfl rfl rfl (by decide) ?_
  refine r_load_pp rfl rfl rfl rfl ?_
  refine r_call (c_Dup_int b.sizes (by have := hs.sizes; omega)) rfl rfl rfl rfl rfl ?_
  refine r_field_pp rfl rfl rfl rfl rfl (by decide) ?_
  refine r_load_pp rfl rfl rfl rfl ?_
  refine r_callG [(9, 6)] [9] [] (k_Dup_lot b.lots (by have := hs.lots; omega)) rfl rfl (by repeat (first | exact cv_nil | refine cv_cons ?_ ?_ | exact cv_pub rfl rfl)) pre_nil post_nil (cv_row (by exact List.mem_cons_self)) ?_
  refine r_build rfl rfl (by exact List.cons_ne_nil _ _) rfl (by repeat (first | exact (Parts.nil : Parts _ _ [] _) | (show Parts _ _ ((_, _) :: _) _; apply Parts.one; (· first | exact (rfl : _ = Ty.sl _ _) | exact (rfl : _ = Ty.row _ _ _ _)); (· exact rfl)))) (by exact (rfl : _ = some [_, _])) ?_
  refine r_storeN rfl rfl (by decide) rfl rfl rfl rfl rfl rfl ?_
  refine r_nil ?_
  refine ⟨by kernel_rfl, ?_⟩
  refine i_then ?_
  refine t_ret ?_
  refine g_rcell [9] rfl rfl rfl rfl (by decide) rfl rfl rfl (by decide) (by repeat (exact rc_nil)) ?_
  all_goals skip
  all_goals exact rg_cv (cv_agg (cv_cons (cv_cons cv_nil (cv_row (by decide))) (cv_pub rfl rfl)))
end Go.Proofs.Ytpnndljmhpepgaa

namespace Go.T
open Go Go.RowKit
end Go.T

namespace Go.T
open Go Go.RowKit
section
variable {P : Program} {fr : Fr} {A : As} {c : Code} {Q : Exit → Act → World → Prop}
theorem t_ownCell {α : Type} {E : El α} {T Tc tg c0 : Nat} {l : List Ty} {xs : List α} (i : Nat) (hc : A.tag c0 = some (.cells Tc l)) (hi : l[i]? = some (.row E T tg xs))
    (h : Tri P fr c ⟨A.slots, (tg, .vec E T xs) :: A.tags⟩ Q) : Tri P fr c A Q := fun a w ⟨M, ok, hsl, ht⟩ => by
  refine h a w ⟨M, ok, hsl, fun x hx => ?_⟩
  rcases List.mem_cons.1 hx with rfl | hx
  · obtain ⟨b, cs, hb, hh, hd⟩ := ht _ (tag_mem hc)
    obtain ⟨v, _, ⟨ds, h1, h2, h3⟩⟩ := dens_get hd i _ hi
    rcases h1.2 with ⟨e, h0⟩ | ⟨g, cap, cur, ex, _, hh, hn1, hcap, _, htk⟩
    · exact .inl (List.length_eq_zero_iff.1 h0)
    · have hg : M g = some tg := h3 g (by rw [ex]; rfl)
      exact .inr ⟨g, cur, hg, hh, by rw [flat_len, htk]; exact h2⟩
  · exact ht x hx
end
end Go.T

namespace Go.T
open Go Go.RowKit
section
variable {P : Program} {A : As} {fn : Func} {n : Nat} {w0 : World} {M0 : Tags}
theorem i_rp4 {t1 t2 t3 t4 : Nat} {r1 r2 r3 r4 : Ty} (hr : fn.results = #[.tmp t1, .tmp t2, .tmp t3, .tmp t4]) (h1 : Nat.blt t1 n = true) (h2 : Nat.blt t2 n = true) (h3 : Nat.blt t3 n = true) (h4 : Nat.blt t4 n = true) (hs1 : RetSub (A.slots t1) r1) (hs2 : RetSub (A.slots t2) r2) (hs3 : RetSub (A.slots t3) r3) (hs4 : RetSub (A.slots t4) r4) :
    Into ⟨n, w0, M0, [], .plain⟩ A (bodyPost P fn (retPost w0 M0 (Ty.tup [r1, r2, r3, r4])) .ret) := by
  intro a w ⟨M, ok, hsl, _⟩
  exact ⟨ok.nodefers (by simp), .tuple #[a.tmps.getD t1 undef, a.tmps.getD t2 undef, a.tmps.getD t3 undef, a.tmps.getD t4 undef], by simp [results, hr], _, pubM M, rfl, pubM_wf ok.wf, base_pub (fr := ⟨n, w0, M0, [], .plain⟩) (fun _ h => h) ok.base, _, rfl, hs1 _ _ _ ok.wf (hsl t1 (by simpa using h1)), hs2 _ _ _ ok.wf (hsl t2 (by simpa using h2)), hs3 _ _ _ ok.wf (hsl t3 (by simpa using h3)), hs4 _ _ _ ok.wf (hsl t4 (by simpa using h4)), trivial⟩
end
end Go.T

namespace Go.T
open Go Go.RowKit
def dExi {α : Type} (S : α → Prop) (T : α → Ty) (w : World) (M : Tags) (v : Value) : Prop := ∃ x, S x ∧ (T x).den w M v
def Ty.exi {α : Type} (S : α → Prop) (T : α → Ty) (h : ∀ x, (T x).deps = [] ∧ (T x).cdeps = []) : Ty :=
  { den := dExi S T, mono := fun le _ _ ⟨x, hx, hd⟩ => ⟨x, hx, (T x).mono le (by rw [(h x).1]; intro _ h; cases h) (by rw [(h x).2]; intro _ h; cases h) hd⟩ }
section
variable {P : Program} {fr : Fr} {A : As} {c : Code} {Q : Exit → Act → World → Prop}
end
section
variable {P : Program} {A : As} {fn : Func} {n : Nat} {w0 : World} {M0 : Tags}
end
end Go.T

namespace Go.T
open Go Go.RowKit
section
variable {P : Program} {fr : Fr} {ops : Array Oper} {A : As} {rest : List Oper} {K : As → List (As × Fx) → Prop} {d : Nat} {t : TypeId} {p : String} {e : Array Edge} {y : Operand}
end
section
variable {P : Program} {fr : Fr} {A : As} {Q : Exit → Act → World → Prop} {code : Code}
end
end Go.T

namespace Go.T
open Go Go.RowKit
section
variable {P : Program} {fr : Fr} {A : As} {Q : Exit → Act → World → Prop}
end
end Go.T

namespace Go.T
open Go Go.RowKit
section
variable {P : Program} {fr : Fr} {ops : Array Oper} {A : As} {rest : List Oper} {K : As → List (As × Fx) → Prop} {d : Nat} {t ty' : TypeId} {p : String} {e : Array Edge} [T : Tab P]
theorem r_copyVL (L : List Nat) {α : Type} {E : El α} {zs ys : List α} {x y : Operand} {tg n el st st' Tb : Nat} {ti te : TI} (hx : A.op fr x = .vs tg n) {s : Ty} (hy : A.op fr y = s) (hl : LendC A L s (.sl E ys)) (hEp : ∀ x, ∀ t ∈ E.tys x, t.Plain) (hc : A.tag tg = some (.vec E Tb zs)) (h1 : Tag1 tg) (hT : T.tab[st]? = some ti) (hk : ti.k = .slice el) (hE : T.tab[el]? = some te) (hs : te.size = E.size) (hn : zs.length = n) (hle : ys.length ≤ n)
    (h : TOps P fr ops rest (A.after { d := some d, ty := .int .i64 (ys.length : Nat), S := [tg], sets := [(tg, .vec E Tb (ys ++ zs.drop ys.length))], rs := opR x ++ opR y, rt := tg :: L }) fun A' l'' => K A' ((A, { d := some d, ty := .int .i64 (ys.length : Nat), S := [tg], sets := [(tg, .vec E Tb (ys ++ zs.drop ys.length))], rs := opR x ++ opR y, rt := tg :: L }) :: l'')) :
    TOps P fr ops (⟨some d, .call ⟨.builtin .copy, #[x, y], #[st, st']⟩, t, p, e, none⟩ :: rest) A K := by
  refine ⟨_, opT_mem rfl rfl (by simp) (by simpa using h1.1) (by simp) fun a w M wf hr ht => ?_, h⟩
  obtain ⟨hdx, hdy⟩ := op2 hr
  rw [hx] at hdx; rw [hy] at hdy
  have hdy := hl w M _ wf (fun x hx hxL => ht x hx (List.mem_cons_of_mem _ hxL)) hdy
  have htg1 : ∀ x ∈ A.tags, x.1 ∈ [tg] → x.2.den w M x.1 := fun x hx h => ht x hx (by rw [List.mem_singleton.1 h]; exact List.mem_cons_self)
  obtain ⟨_, D, _, hD, hkd, _⟩ := tab_info hT
  rw [hk] at hkd
  cases D <;> simp only [TK.of, reduceCtorEq, TK.slice.injEq] at hkd
  subst hkd
  rename_i el
  have hsz := fun w => run_sizeOf' (P := P) hE w
  obtain ⟨ad, c, ey, hc1, hc2, hp⟩ := hdy
  have hmin : Nat.min ys.length n = ys.length := Nat.min_eq_left hle
  by_cases hys : ys = []
  · subst hys
    have hl : ∀ (q : Addr), (loadCells q 0).run P w = .ok #[] w := fun q => by simpa using run_loadCells_list (P := P) w q [] (by simp)
    have hrun : (Builtin.copy_ #[st, st'] t #[a.eval x, a.eval y]).run P w = .ok (goInt 0) w := by
      rw [ey]
      rcases hdx with ⟨_, ex⟩ | ⟨b, c', _, ex, _⟩ <;> rw [ex] <;> cases ad <;> simp [Builtin.copy_, run_underlying hD, Builtin.lenOf, Builtin.firstCells, hsz, storeCells, hl]
    refine ⟨goInt 0, w, by simp [execOp, resolve, invoke, builtin, hrun], M, wf, (Le.refl _ _ w M), rfl, ?_⟩
    intro z' hz'
    simp only [List.mem_singleton] at hz'
    subst hz'
    have hv : (Cont.vec E Tb zs).den w M tg := vec_den hc w M htg1
    simpa using hv
  · have hpos : 0 < ys.length := List.length_pos_iff.2 hys
    obtain ⟨b', off, rfl, hp'⟩ := hp hpos
    obtain ⟨news, hn1, hn2, hn3⟩ := pub_cells hp' _ (Nat.le_refl _)
    rw [List.take_length] at hn2
    have hn2 : dens w M (ys.flatMap E.tys) news := plain_dens (fun t ht => by obtain ⟨x, _, hx⟩ := List.mem_flatMap.1 ht; exact hEp x t hx) hn2
    rw [flat_len] at hn1
    rcases hdx with ⟨h0, _⟩ | ⟨b, c', hb, ex, _⟩
    · omega
    rcases vec_den hc w M htg1 with rfl | ⟨b2, cs, hb2, hh, hd⟩
    · simp at hn; omega
    obtain ⟨u, rfl⟩ : ∃ u, tg = u + 1 := ⟨tg - 1, by omega⟩
    have := wf.inj b b2 u (by omega) hb hb2
    subst this
    have hlen := dens_len hd
    have hm : ys.length * E.size ≤ zs.length * E.size := Nat.mul_le_mul_right _ (by omega)
    have hoff : ys.length * E.size ≤ cs.size := by
      rw [flat_len, List.length_take] at hlen
      simp at hlen; omega
    have hst := run_storeCells_at (P := P) b 0 Tb news 0 cs w hh (by omega) (dens_ones hn2 (flat_ones E ys))
    rw [setRow_set _ hh] at hst
    obtain ⟨h1', h2', h3'⟩ := store_le (cs' := (cs.toList.take (0 + 0) ++ news ++ cs.toList.drop (0 + 0 + news.length)).toArray) (Tb := Tb) wf hb _ rfl
    have hld : (loadCells ⟨b', off, none⟩ (ys.length * E.size)).run P w = .ok news.toArray w := by
      rw [← hn1]
      exact run_loadCells_list (P := P) w _ news (fun j v hj => by rw [Addr.add_lit]; exact hn3 j v hj)
    have hrun : (Builtin.copy_ #[st, st'] t #[a.eval x, a.eval y]).run P w = .ok (goInt ys.length) { w with heap := w.heap.setIfInBounds b (.cells (cs.toList.take (0 + 0) ++ news ++ cs.toList.drop (0 + 0 + news.length)).toArray Tb (0, 0)) } := by
      rw [ex, ey]
      simp only [Builtin.copy_, Builtin.lenOf, Builtin.firstCells]
      simp [run_underlying hD, hsz, hs, hmin, hld]
      simp at hst
      rw [hst]
      simp
    refine ⟨goInt ys.length, _, by simp [execOp, resolve, invoke, builtin, hrun], M, h1', h2', rfl, ?_⟩
    intro z' hz'
    simp only [List.mem_singleton] at hz'
    subst hz'
    refine .inr ⟨b, _, hb, h3', ?_⟩
    have hq := vec_put (xs := zs) (ys := ys) (vs := news) (i := 0) hd hn2 (by omega)
    rw [List.take_zero, List.nil_append, Nat.zero_add, Nat.zero_mul] at hq
    exact dens_mono h2' (by intro _ _ h; cases h) (by rw [E.flat_cdeps]; intro _ h; cases h) (by simpa using hq)
end
section
open Go.RowKit
variable {P : Program} {A : As} {fn : Func} {n : Nat} {w0 : World} {M0 : Tags} {F : List Nat} {post : List (Nat × Cont)} [T : Tab P]
theorem g_rcell3 (L : List Nat) {tm ty tg Tb t2 t3 : Nat} {l : List Ty} {ti : TI} {r1 r2 r3 : Ty} (hr : fn.results = #[.cell tm ty, .tmp t2, .tmp t3]) (ht : Nat.blt tm n = true) (ht2 : Nat.blt t2 n = true) (ht3 : Nat.blt t3 n = true) (hx : A.slots tm = .ptr tg 0) (hc : A.tag tg = some (.cells Tb l)) (h1 : Tag1 tg) (hT : T.tab[ty]? = some ti) (ha : ti.k.agg = true) (hl : l.length = ti.size)
    (hL : ∀ t ∈ F, t ∈ L) (hp : RetCs A L post) (hs : RetG L (.agg l) r1) (hs2 : RetG L (A.slots t2) r2) (hs3 : RetG L (A.slots t3) r3) :
    Into ⟨n, w0, M0, F, .plain⟩ A (bodyPost P fn (keepPost F post w0 M0 (Ty.tup [r1, r2, r3])) .ret) := by
  intro a w ⟨M, ok, hsl, htg⟩
  have hd := hsl tm (by simpa using ht)
  rw [hx] at hd
  obtain ⟨b, hb, e⟩ := hd
  obtain ⟨b', cs, hb', hh, hds⟩ := htg _ (tag_mem hc)
  obtain ⟨u, rfl⟩ : ∃ u, tg = u + 1 := ⟨tg - 1, by omega⟩
  have := ok.wf.inj b b' u (by omega) hb hb'
  subst this
  have hlen := dens_len hds
  have hload := run_loadN (P := P) hT ha (w := w) (b := b) (off := 0) (cs := cs.toList) (by rw [hlen, hl]) (fun j v hj => by simpa [World.cell?, hh] using hj)
  have hload' : (loadVar ty ⟨b, 0, none⟩).run P w = .ok (.agg cs) w := by simpa [Instr.loadAt, Instr.sureAddr] using hload
  refine ⟨ok.nodefers (by simp), .tuple #[.agg cs, a.tmps.getD t2 undef, a.tmps.getD t3 undef], ?_, _, pubG L M, rfl, pubG_wf ok.wf, base_pubG hL ok.base, ⟨_, rfl, hs _ _ _ ok.wf ⟨cs, rfl, hds⟩, hs2 _ _ _ ok.wf (hsl t2 (by simpa using ht2)), hs3 _ _ _ ok.wf (hsl t3 (by simpa using ht3)), trivial⟩, rc_get ok.wf htg hp⟩
  have e' : a.tmps.getD tm undef = .pointer (some ⟨b, 0, none⟩) := e
  have e'' : a.tmps[tm]?.getD undef = .pointer (some ⟨b, 0, none⟩) := by rw [← Array.getD_eq_getD_getElem?]; exact e'
  simp [results, hr, e'', asAddr, hload']
end
def reGood (tg tg' : Nat) (ρ : List (Nat × Nat)) : Bool := ρ.all fun x => (Nat.beq x.1 tg && Nat.beq x.2 tg') || (Nat.beq x.1 x.2 && !Nat.beq x.1 tg && !Nat.beq x.1 tg')
theorem re_reM {tg tg' : Nat} {ρ : List (Nat × Nat)} (h : reGood tg tg' ρ = true) (M : Tags) : Re ρ M (reM M tg tg') := by
  refine ⟨fun b hm => by simp [reM, hm], fun x hx b hb => ?_⟩
  have := List.all_eq_true.1 h x hx
  simp only [Bool.or_eq_true, Bool.and_eq_true, Bool.not_eq_true', Nat.beq_eq] at this
  rcases this with ⟨e1, e2⟩ | ⟨⟨e1, e2⟩, e3⟩
  · rw [reM, hb, e1, if_pos rfl, e2]
  · have n2 : x.1 ≠ tg := fun e => by rw [e] at e2; simp at e2
    have n3 : x.1 ≠ tg' := fun e => by rw [e] at e3; simp at e3
    rw [reM, hb, if_neg (by simpa using n2), if_neg (by simpa using n3), e1]
section
variable {P : Program} {fr : Fr} {A : As}
def AllCv (A : As) (ρ : List (Nat × Nat)) : List (Nat × Ty) → Prop
  | [] => True
  | x :: l => Conv ρ (A.slots x.1) x.2 ∧ AllCv A ρ l
def As.reC (A : As) (tg tg' : Nat) (l : List (Nat × Ty)) (lc : List (Nat × Cont)) : As := ⟨setL l (killSlots [] [tg, tg'] A.slots), lc ++ killTags [] [tg, tg'] A.tags⟩
theorem reC_holds {tg tg' : Nat} {ρ : List (Nat × Nat)} {l : List (Nat × Ty)} {lc : List (Nat × Cont)} (h1 : Tag1 tg) (h1' : 1 ≤ tg') (hp : fr.pass.contains tg = false) (hp' : fr.pass.contains tg' = false) (hρ : reGood tg tg' ρ = true) (hl : AllCv A ρ l) (hlc : PreCs A ρ lc) {a : Act} {w : World} (h : A.holds fr a w) : (A.reC tg tg' l lc).holds fr a w := by
  obtain ⟨M, ok, hsl, ht⟩ := h
  have le : Le (· ∈ ([] : List Nat)) (· ∈ [tg, tg']) w M w (reM M tg tg') := reM_le
  have wf' : Wf w (reM M tg tg') := reM_wf h1 ok.wf
  have hre := re_reM hρ M
  refine ⟨reM M tg tg', ⟨wf', Fr.base_step ok.base (by intro _ h; cases h) (fun t ht => by simp only [List.mem_cons, List.not_mem_nil, or_false] at ht; rcases ht with rfl | rfl; exact ⟨h1.1, by simpa using hp⟩; exact ⟨h1', by simpa using hp'⟩) le, ok.size, ok.defers.step (by intro _ h; cases h) (fun t ht => by simp only [List.mem_cons, List.not_mem_nil, or_false] at ht; rcases ht with rfl | rfl; exact h1.1; exact h1') le⟩, fun i hi => ?_, fun x hx => ?_⟩
  · have base : (killSlots [] [tg, tg'] A.slots i).den w (reM M tg tg') (a.tmps.getD i undef) := by
      rcases killSlots_spec [] [tg, tg'] A.slots i with ⟨e, hdj⟩ | ⟨_, e⟩
      · rw [e]; exact (A.slots i).mono le (safe_spec hdj).1 (safe_spec hdj).2 (hsl i hi)
      · rw [e]; trivial
    show (setL l (killSlots [] [tg, tg'] A.slots) i).den _ _ _
    induction l with
    | nil => exact base
    | cons x l ih =>
      obtain ⟨d, t⟩ := x
      unfold setL
      cases hb : Nat.beq i d with
      | false => simp only [cond_false]; exact ih hl.2
      | true =>
        have : i = d := Nat.eq_of_beq_eq_true hb
        subst this
        simp only [cond_true]
        exact hl.1 w M _ _ ok.wf wf' hre (hsl i hi)
  · rcases List.mem_append.1 hx with hx | hx
    · exact pre_get ok.wf wf' hre (fun y hy _ => ht y hy) hlc x hx
    · exact killTags_den le hx fun y hy _ => ht y hy
theorem i_retagC {R : Act → World → Prop} (tg tg' : Nat) (ρ : List (Nat × Nat)) (l : List (Nat × Ty)) (lc : List (Nat × Cont)) (h1 : Tag1 tg) (h1' : 1 ≤ tg') (hp : fr.pass.contains tg = false) (hp' : fr.pass.contains tg' = false) (hρ : reGood tg tg' ρ = true) (hl : AllCv A ρ l) (hlc : PreCs A ρ lc) (h : Into fr (A.reC tg tg' l lc) R) : Into fr A R := fun a w ha => h a w (reC_holds h1 h1' hp hp' hρ hl hlc ha)
end
end Go.T

namespace Go.Proofs.Ytpnndljmhpepgaa
open Go Go.T
set_option maxHeartbeats 1000000
def ownTys (s t : Nat) (b : Barn) : List Ty := [Ty.vs s b.sizes.length, Ty.vs t b.lots.length]
theorem plain_LotE (x : Lot) : ∀ t ∈ LotE.tys x, t.Plain := plain_cons (plain_int _ _) (plain_cons (plain_int _ _) (plain_cons (plain_int _ _) plain_nil))
theorem lend_own {A : As} {L : List Nat} {s t : Nat} {b : Barn} (h1 : A.tag s = some (.vec I64 3 b.sizes)) (h2 : A.tag t = some (.vec LotE 57 b.lots)) (hs : Tag1 s) (ht : Tag1 t) (hL1 : L.contains s = true) (hL2 : L.contains t = true) : LendC A L (Ty.agg (ownTys s t b)) (barnT b) :=
  lendc_agg (lendcs_cons (lendc_vs h1 rfl hs hL1) (lendcs_cons (lendc_vs h2 rfl ht hL2) lendcs_nil))
theorem own_nob {L : List Nat} {s t : Nat} {x : Barn} (h : x = noB) : RetG L (Ty.agg [Ty.ex (.slice none 0 0), Ty.ex (.slice none 0 0)]) (Ty.agg (ownTys s t x)) := by
  subst h; exact rg_cv (cv_agg (cv_cons (cv_cons cv_nil cv_nilvs) cv_nilvs))
theorem own_turned {x b : Barn} {t : Tur} (h : x = ⟨b.sizes, lotsTo b t⟩) : RetG [1000, 1001, 41] (Ty.agg [Ty.vs 1000 b.sizes.length, Ty.vs 41 b.lots.length]) (Ty.agg (ownTys 1000 41 x)) := by
  subst h
  have e : (lotsTo b t).length = b.lots.length := by unfold lotsTo; exact List.length_set
  show RetG _ _ (Ty.agg [Ty.vs 1000 b.sizes.length, Ty.vs 41 (lotsTo b t).length])
  rw [e]
  exact rg_cv (cv_agg (cv_cons (cv_cons cv_nil (cv_vs (by decide))) (cv_vs (by decide))))
theorem own_eq {x b : Barn} (h : x = b) : RetG [50, 51] (Ty.agg (ownTys 50 51 b)) (Ty.agg (ownTys 50 51 x)) := by
  subst h; exact rg_cv (cv_agg (cv_cons (cv_cons cv_nil (cv_vs (by decide))) (cv_vs (by decide))))
theorem rg_nil {L : List Nat} {α : Type} {E : El α} {xs : List α} (h : xs = []) : RetG L (Ty.ex (.slice none 0 0)) (Ty.sl E xs) := by
  subst h; exact fun w M v _ hs => Ty.nil_sl w (pubG L M) v hs
attribute [local irreducible] turnedB doneV Barn.free Barn.hold Barn.lot Barn.bin checkB
attribute [local irreducible] dInt dBool dSl dPp dPtr dAgg dTup dClo dAny dEx dStr dGd dCells dVec dVs dRow dOp nth Tri Into TOps Ctr bodyPost Exit.then Exit.inBlock Code.wp Code.wpIn dWhen dPa dPe dAo dArr dMp dPm dMap dCJ CtrG CtrI OpY keepPost iterPost bodyPostM roundQ
attribute [local irreducible] dRowJ dMs dFit
set_option maxRecDepth 100000 in
theorem k_turned (b : Barn) (hs : b.Small) (t : Tur) : CtrG Try.prog 122 [1000, 1001] [(1000, Cont.vec I64 3 b.sizes), (1001, Cont.vec LotE 57 b.lots)] [Ty.agg (ownTys 1000 1001 b), Ty.agg (TurE.tys t)] [(1000, Cont.vec I64 3 b.sizes), (1001, Cont.vec LotE 57 b.lots), (41, Cont.vec LotE 57 (turnedB b t).1.lots)] (Ty.tup [Ty.agg (ownTys 1000 41 (turnedB b t).1), Ty.int .i64 (turnedB b t).2]) := by
  refine fnG_intro Try.func122 rfl (by decide) Try.ntmps122 (by exact Nat.le_of_ble_eq_true rfl) fun w0 M0 => ?_
  refine t_seq ?_
  refine t_region ?_
  refine r_box_agg rfl ?_
  refine r_box_agg rfl ?_
  refine r_alloc rfl (by exact List.cons_ne_nil _ _) rfl ?_
  refine asI rfl ?_
  refine r_nil ?_
  refine i_then ?_
  refine t_seq ?_
  refine t_block ?_
  refine t_seq ?_
  refine t_region ?_
  refine r_load_ppN rfl rfl rfl (by exact Nat.le_of_ble_eq_true rfl) ?_
  refine r_field_pp rfl rfl rfl rfl rfl (by decide) ?_
  refine r_load_pp rfl rfl rfl rfl ?_
  refine r_callLC [1000, 1001] (c_lot b hs t.lot) rfl (lendcs_cons (lend_own (s := 1000) (t := 1001) rfl rfl (by decide) (by decide) rfl rfl) (lendcs_cons (lendc_of (lend_pub rfl rfl)) lendcs_nil)) (by exact plain_bool _) ?_
  refine r_not rfl ?_
  refine mvB rfl ?_
  apply r_guard (s := 13) rfl rfl rfl
  · intro hg; apply opT_of; (refine r_load_ppN rfl rfl rfl (by exact Nat.le_of_ble_eq_true rfl) ?_); refine r_nil ?_; exact rfl
  · exact rfl
  · exact rfl
  apply r_guard (s := 13) rfl rfl rfl
  · intro hg; apply opT_of; (refine r_field_pp rfl rfl rfl rfl rfl (by decide) ?_); refine r_nil ?_; exact rfl
  · exact rfl
  · exact rfl
  apply r_guard (s := 13) rfl rfl rfl
  · intro hg; apply opT_strip (s := 15) rfl (by (rw [hg]; rfl)); apply opT_of; (refine r_load_pp rfl rfl rfl rfl ?_); refine r_nil ?_; exact rfl
  · exact rfl
  · exact rfl
  apply r_guard (s := 13) rfl rfl rfl
  · intro hg; apply opT_strip (s := 14) rfl (by (rw [hg]; rfl)); apply opT_strip (s := 16) rfl (by (rw [hg]; rfl)); apply opT_of; (refine r_callLC [1000, 1001] (c_bin b hs t.aim) rfl (lendcs_cons (lend_own (s := 1000) (t := 1001) rfl rfl (by decide) (by decide) rfl rfl) (lendcs_cons (lendc_of (lend_pub rfl rfl)) lendcs_nil)) (by exact plain_bool _) ?_); refine r_nil ?_; exact rfl
  · exact rfl
  · exact rfl
  apply r_guard (s := 13) rfl rfl rfl
  · intro hg; apply opT_strip (s := 17) rfl (by (rw [hg]; rfl)); apply opT_of; (refine r_not rfl ?_); refine r_nil ?_; exact rfl
  · exact rfl
  · exact rfl
  refine r_or rfl rfl ?_
  refine asB rfl ?_
  refine r_nil ?_
  refine i_then ?_
  refine t_cond rfl (fun hc1 => ?_) (fun hc1 => ?_)
  ·
    refine t_seq ?_
    refine t_vec0 (E := LotE) 57 41 ?_
    refine t_region ?_
    refine r_build rfl rfl (by exact List.cons_ne_nil _ _) rfl (by repeat (exact (Parts.nil : Parts _ _ [] _))) (by exact (rfl : _ = some [_, _])) ?_
    refine r_storeN rfl rfl (by decide) rfl rfl rfl rfl rfl rfl ?_
    refine asI rfl ?_
    refine r_nil ?_
    refine i_then ?_
    refine t_ret ?_
    refine i_block_ret ?_
    refine i_then_ret ?_
    refine g_rcell2 [1000, 1001, 41] rfl rfl rfl rfl rfl (by decide) rfl rfl rfl (by decide) ?_ ?_ ?_
    · exact rc_cons rfl (cc_vec (by decide) rfl) (rc_cons rfl (cc_vec (by decide) rfl) (rc_cons rfl (cc_vec (by decide) (congrArg (fun x => x.1.lots) (turned_1 hc1)).symm) rc_nil))
    all_goals skip
    all_goals first | exact own_nob (congrArg Prod.fst (turned_1 hc1)) | exact rg_cv (cv_eq rfl rfl (congrArg (fun z : Barn × Int => Ty.int .i64 z.2) (turned_1 hc1).symm))
  ·
    refine t_seq ?_
    refine t_region ?_
    refine r_load_ppN rfl rfl rfl (by exact Nat.le_of_ble_eq_true rfl) ?_
    refine r_field_pp rfl rfl rfl rfl rfl (by decide) ?_
    refine r_load_pp rfl rfl rfl rfl ?_
    refine r_callLC [1000, 1001] (c_free b t.aim) rfl (lendcs_cons (lend_own (s := 1000) (t := 1001) rfl rfl (by decide) (by decide) rfl rfl) (lendcs_cons (lendc_of (lend_pub rfl rfl)) lendcs_nil)) (by exact plain_bool _) ?_
    refine r_not rfl ?_
    refine asB rfl ?_
    refine r_nil ?_
    refine i_then ?_
    refine t_cond rfl (fun hc2 => ?_) (fun hc2 => ?_)
    ·
      refine t_seq ?_
      refine t_vec0 (E := LotE) 57 41 ?_
      refine t_region ?_
      refine r_build rfl rfl (by exact List.cons_ne_nil _ _) rfl (by repeat (exact (Parts.nil : Parts _ _ [] _))) (by exact (rfl : _ = some [_, _])) ?_
      refine r_storeN rfl rfl (by decide) rfl rfl rfl rfl rfl rfl ?_
      refine asI rfl ?_
      refine r_nil ?_
      refine i_then ?_
      refine t_ret ?_
      refine i_block_ret ?_
      refine i_then_ret ?_
      refine g_rcell2 [1000, 1001, 41] rfl rfl rfl rfl rfl (by decide) rfl rfl rfl (by decide) ?_ ?_ ?_
      · exact rc_cons rfl (cc_vec (by decide) rfl) (rc_cons rfl (cc_vec (by decide) rfl) (rc_cons rfl (cc_vec (by decide) (congrArg (fun x => x.1.lots) (turned_5 hc1 (not_b hc2))).symm) rc_nil))
      all_goals skip
      all_goals first | exact own_nob (congrArg Prod.fst (turned_5 hc1 (not_b hc2))) | exact rg_cv (cv_eq rfl rfl (congrArg (fun z : Barn × Int => Ty.int .i64 z.2) (turned_5 hc1 (not_b hc2)).symm))
    ·
      refine t_seq ?_
      have hkn := known_rng hc1
      have hs1 := hs.lots
      refine t_region ?_
      refine r_load_ppN rfl rfl rfl (by exact Nat.le_of_ble_eq_true rfl) ?_
      refine r_field_pp rfl rfl rfl rfl rfl (by decide) ?_
      refine r_load_pp rfl rfl rfl rfl ?_
      refine r_field_pp rfl rfl rfl rfl rfl (by decide) ?_
      refine r_load_pp rfl rfl rfl rfl ?_
      refine r_callLC [1000, 1001] (c_holds b t.aim t.lot hkn.2 hkn.1) rfl (lendcs_cons (lend_own (s := 1000) (t := 1001) rfl rfl (by decide) (by decide) rfl rfl) (lendcs_cons (lendc_of (lend_pub rfl rfl)) (lendcs_cons (lendc_of (lend_pub rfl rfl)) lendcs_nil))) (by exact plain_bool _) ?_
      refine r_not rfl ?_
      refine asB rfl ?_
      refine r_nil ?_
      refine i_then ?_
      refine t_cond rfl (fun hc3 => ?_) (fun hc3 => ?_)
      ·
        refine t_seq ?_
        refine t_vec0 (E := LotE) 57 41 ?_
        refine t_region ?_
        refine r_build rfl rfl (by exact List.cons_ne_nil _ _) rfl (by repeat (exact (Parts.nil : Parts _ _ [] _))) (by exact (rfl : _ = some [_, _])) ?_
        refine r_storeN rfl rfl (by decide) rfl rfl rfl rfl rfl rfl ?_
        refine asI rfl ?_
        refine r_nil ?_
        refine i_then ?_
        refine t_ret ?_
        refine i_block_ret ?_
        refine i_then_ret ?_
        refine g_rcell2 [1000, 1001, 41] rfl rfl rfl rfl rfl (by decide) rfl rfl rfl (by decide) ?_ ?_ ?_
        · exact rc_cons rfl (cc_vec (by decide) rfl) (rc_cons rfl (cc_vec (by decide) rfl) (rc_cons rfl (cc_vec (by decide) (congrArg (fun x => x.1.lots) (turned_9 hc1 (not_not_b hc2) (not_b hc3))).symm) rc_nil))
        all_goals skip
        all_goals first | exact own_nob (congrArg Prod.fst (turned_9 hc1 (not_not_b hc2) (not_b hc3))) | exact rg_cv (cv_eq rfl rfl (congrArg (fun z : Barn × Int => Ty.int .i64 z.2) (turned_9 hc1 (not_not_b hc2) (not_b hc3)).symm))
      ·
        refine t_skip ?_
        refine i_block ?_
        refine i_then ?_
        refine t_seq ?_
        have hkn := known_rng hc1
        have hs1 := hs.lots
        refine t_region ?_
        refine r_field_pp rfl rfl rfl rfl rfl (by decide) ?_
        refine r_load_pp rfl rfl rfl rfl ?_
        refine r_len_vs rfl rfl rfl ?_
        refine r_makeV (E := LotE) (x0 := ⟨0, 0, 0⟩) rfl rfl rfl rfl rfl rfl rfl (by decide) rfl (by omega) (by (dsimp only; omega)) (by omega) ?_
        refine asV rfl ?_
        refine r_nil ?_
        refine i_then ?_
        refine t_seq ?_
        refine t_region ?_
        refine mvV rfl ?_
        refine r_field_pp rfl rfl rfl rfl rfl (by decide) ?_
        refine r_load_pp rfl rfl rfl rfl ?_
        refine r_copyVL [1001] (E := LotE) (ys := b.lots) rfl rfl (lendc_vs rfl rfl (by decide) rfl) plain_LotE rfl (by decide) rfl rfl rfl rfl (by simp) (by omega) ?_
        refine r_nil ?_
        refine i_then ?_
        refine t_seq ?_
        refine t_asC (tg := 41) rfl (Cont.sub_vec (show b.lots ++ List.drop b.lots.length (List.replicate ((b.lots.length : Int)).toNat (⟨0, 0, 0⟩ : Lot)) = b.lots by rw [List.drop_of_length_le (by simp), List.append_nil])) ?_
        refine t_region ?_
        refine mvV rfl ?_
        refine r_field_pp rfl rfl rfl rfl rfl (by decide) ?_
        refine r_load_pp rfl rfl rfl rfl ?_
        refine r_field_pp rfl rfl rfl rfl rfl (by decide) ?_
        refine r_load_pp rfl rfl rfl rfl ?_
        refine r_index_vsI rfl rfl rfl rfl rfl hkn.1.1 (by omega) ?_
        refine r_field_ptr rfl rfl rfl rfl rfl (by decide) ?_
        refine r_store_vecC (E := LotE) (z := ⟨(nth b.lots t.lot.toNat).sacks, t.aim, (nth b.lots t.lot.toNat).aim⟩) rfl rfl rfl (by decide) rfl rfl (by exact (rfl : _ = Ty.int _ _)) rfl (by omega) (by decide) rfl rfl ?_
        refine r_nil ?_
        refine i_then ?_
        refine t_seq ?_
        refine t_region ?_
        refine r_field_pp rfl rfl rfl rfl rfl (by decide) ?_
        refine r_load_pp rfl rfl rfl rfl ?_
        refine mvV rfl ?_
        refine r_build rfl rfl (by exact List.cons_ne_nil _ _) rfl (by repeat (first | exact (Parts.nil : Parts _ _ [] _) | (show Parts _ _ ((_, _) :: _) _; apply Parts.one; (· exact (rfl : _ = Ty.vs _ _)); (· exact rfl)))) (by exact (rfl : _ = some [_, _])) ?_
        refine r_storeN rfl rfl (by decide) rfl rfl rfl rfl rfl rfl ?_
        refine asI rfl ?_
        refine r_nil ?_
        refine i_then ?_
        refine t_ret ?_
        refine g_rcell2 [1000, 1001, 41] rfl rfl rfl rfl rfl (by decide) rfl rfl rfl (by decide) ?_ ?_ ?_
        · exact rc_cons rfl (cc_vec (by decide) rfl) (rc_cons rfl (cc_vec (by decide) rfl) (rc_cons rfl (cc_vec (by decide) (congrArg (fun x => x.1.lots) (turned_0 hc1 (not_not_b hc2) (not_not_b hc3))).symm) rc_nil))
        all_goals skip
        all_goals first | exact own_turned (congrArg Prod.fst (turned_0 hc1 (not_not_b hc2) (not_not_b hc3))) | exact rg_cv (cv_eq rfl rfl (congrArg (fun z : Barn × Int => Ty.int .i64 z.2) (turned_0 hc1 (not_not_b hc2) (not_not_b hc3)).symm))
set_option maxRecDepth 100000 in
theorem k_done (b : Barn) (hs : b.Small) (plan : List Tur) (hp : plan.length ≤ 1000000) : CtrG Try.prog 81 [] [] [barnT b, Ty.sl TurE plan] [(50, Cont.vec I64 3 (doneV b plan).1.sizes), (51, Cont.vec LotE 57 (doneV b plan).1.lots)] (Ty.tup [Ty.agg (ownTys 50 51 (doneV b plan).1), Ty.sl TurE (doneV b plan).2.1, Ty.int .i64 (doneV b plan).2.2]) := by
  refine fnG_intro Try.func81 rfl (by decide) Try.ntmps81 (by exact Nat.le_of_ble_eq_true rfl) fun w0 M0 => ?_
  have hs1 := hs.lots
  have hs2 := hs.sizes
  refine t_seq ?_
  refine t_region ?_
  refine r_box_agg rfl ?_
  refine r_alloc rfl (by exact List.cons_ne_nil _ _) rfl ?_
  refine asX rfl ?_
  refine asI rfl ?_
  refine r_nil ?_
  refine i_then ?_
  refine t_seq ?_
  refine t_seq ?_
  refine t_region ?_
  refine r_load_ppN rfl rfl rfl (by exact Nat.le_of_ble_eq_true rfl) ?_
  refine r_call (c_Check b hs) rfl rfl rfl rfl rfl ?_
  refine asI rfl ?_
  refine r_nil ?_
  refine i_then ?_
  refine t_seq ?_
  refine t_region ?_
  refine mvI rfl ?_
  refine r_bin rfl rfl rfl ?_
  refine r_nil ?_
  refine i_then ?_
  refine t_cond_ndec rfl (fun hc1 => ?_) (fun hc1 => ?_)
  ·
    refine t_seq ?_
    refine t_vec0 (E := I64) 3 50 ?_
    refine t_vec0 (E := LotE) 57 51 ?_
    refine t_region ?_
    refine r_build rfl rfl (by exact List.cons_ne_nil _ _) rfl (by repeat (exact (Parts.nil : Parts _ _ [] _))) (by exact (rfl : _ = some [_, _])) ?_
    refine mvI rfl ?_
    refine r_storeN rfl rfl (by decide) rfl rfl rfl rfl rfl rfl ?_
    refine asX rfl ?_
    refine asI rfl ?_
    refine r_nil ?_
    refine i_then ?_
    refine t_ret ?_
    refine i_then_ret ?_
    refine g_rcell3 [50, 51] rfl rfl rfl rfl rfl rfl (by decide) rfl rfl rfl (by decide) ?_ ?_ ?_ ?_
    · exact rc_cons rfl (cc_vec (by decide) (congrArg (fun x => x.1.sizes) (doneV_bad hc1)).symm) (rc_cons rfl (cc_vec (by decide) (congrArg (fun x => x.1.lots) (doneV_bad hc1)).symm) rc_nil)
    all_goals skip
    all_goals first | exact own_nob (congrArg Prod.fst (doneV_bad hc1)) | exact rg_nil (congrArg (fun z : Barn × List Tur × Int => z.2.1) (doneV_bad hc1)) | exact rg_cv (cv_eq rfl rfl (congrArg (fun z : Barn × List Tur × Int => Ty.int .i64 z.2.2) (doneV_bad hc1).symm))
  ·
    refine t_skip ?_
    refine i_then ?_
    refine t_seq ?_
    refine t_seq ?_
    refine t_region ?_
    refine mvS rfl ?_
    refine r_len rfl rfl rfl ?_
    refine r_bin rfl rfl rfl ?_
    refine r_nil ?_
    refine i_then ?_
    refine t_cond_dec rfl (fun hc2 => ?_) (fun hc2 => ?_)
    ·
      refine t_seq ?_
      refine t_vec0 (E := I64) 3 50 ?_
      refine t_vec0 (E := LotE) 57 51 ?_
      refine t_region ?_
      refine r_build rfl rfl (by exact List.cons_ne_nil _ _) rfl (by repeat (exact (Parts.nil : Parts _ _ [] _))) (by exact (rfl : _ = some [_, _])) ?_
      refine r_storeN rfl rfl (by decide) rfl rfl rfl rfl rfl rfl ?_
      refine asX rfl ?_
      refine asI rfl ?_
      refine r_nil ?_
      refine i_then ?_
      refine t_ret ?_
      refine i_then_ret ?_
      refine g_rcell3 [50, 51] rfl rfl rfl rfl rfl rfl (by decide) rfl rfl rfl (by decide) ?_ ?_ ?_ ?_
      · exact rc_cons rfl (cc_vec (by decide) (congrArg (fun x => x.1.sizes) (doneV_long hc1 hc2)).symm) (rc_cons rfl (cc_vec (by decide) (congrArg (fun x => x.1.lots) (doneV_long hc1 hc2)).symm) rc_nil)
      all_goals skip
      all_goals first | exact own_nob (congrArg Prod.fst (doneV_long hc1 hc2)) | exact rg_nil (congrArg (fun z : Barn × List Tur × Int => z.2.1) (doneV_long hc1 hc2)) | exact rg_cv (cv_eq rfl rfl (congrArg (fun z : Barn × List Tur × Int => Ty.int .i64 z.2.2) (doneV_long hc1 hc2).symm))
    ·
      refine t_skip ?_
      refine i_then ?_
      refine t_seq ?_
      refine t_region ?_
      refine asX rfl ?_
      refine r_nil ?_
      refine i_then ?_
      refine t_seq ?_
      refine t_draw mixed rfl ?_
      refine r_field_pp rfl rfl rfl rfl rfl (by decide) ?_
      refine r_load_pp rfl rfl rfl rfl ?_
      refine r_callG [(50, 6)] [50] [] (k_Clone_int b.sizes (by omega)) rfl rfl (by repeat (first | exact cv_nil | refine cv_cons ?_ ?_ | exact cv_pub rfl rfl)) pre_nil post_nil (cv_row (by exact List.mem_cons_self)) ?_
      refine r_field_pp rfl rfl rfl rfl rfl (by decide) ?_
      refine r_load_pp rfl rfl rfl rfl ?_
      refine r_callG [(51, 6)] [51] [] (k_Clone_lot b.lots (by omega)) rfl rfl (by repeat (first | exact cv_nil | refine cv_cons ?_ ?_ | exact cv_pub rfl rfl)) pre_nil post_nil (cv_row (by exact List.mem_cons_self)) ?_
      refine r_build rfl rfl (by exact List.cons_ne_nil _ _) rfl (by repeat (first | exact (Parts.nil : Parts _ _ [] _) | (show Parts _ _ ((_, _) :: _) _; apply Parts.one; (· exact (rfl : _ = Ty.row _ _ _ _)); (· exact rfl)))) (by exact (rfl : _ = some [_, _])) ?_
      refine r_alloc rfl (by exact List.cons_ne_nil _ _) rfl ?_
      refine r_storeN rfl rfl (by decide) rfl rfl rfl rfl rfl rfl ?_
      refine r_nil ?_
      refine ⟨by kernel_rfl, ?_⟩
      refine i_then ?_
      refine t_seq ?_
      refine t_seq ?_
      refine t_ownCell (c0 := 10) 0 rfl rfl ?_
      refine t_ownCell (c0 := 10) 1 rfl rfl ?_
      refine t_asC (tg := 10) rfl (Cont.sub_cellsL (l' := ownTys 50 51 b) ⟨Ty.row_vs rfl, Ty.row_vs rfl, trivial⟩) ?_
      refine t_forget (B := live [(1, Ty.sl TurE plan), (4, Ty.ptr 5 0), (8, Ty.ex (.slice none 0 0)), (9, Ty.ptr 10 0)] [(5, Cont.cells 25 [Ty.ex (.slice none 0 0), Ty.ex (.slice none 0 0)]), (10, Cont.cells 25 (ownTys 50 51 b)), (50, Cont.vec I64 3 b.sizes), (51, Cont.vec LotE 57 b.lots)]) ?_ ?_
      · (refine Ent.mk' ?_ ?_ <;> (repeat' (first | exact allSub_zero | exact allTags_nil | refine allSub_succ' ?_ (Ty.sub_any _) | refine allSub_succ' ?_ (Ty.sub_refl _) | refine allTags_cons rfl (Cont.sub_refl _) ?_)))
      refine t_region ?_
      refine mvS rfl ?_
      refine r_len rfl rfl rfl ?_
      refine mvI rfl ?_
      refine r_nil ?_
      refine i_then ?_
      refine t_block ?_
      refine t_loop (fun (x : {x : Nat × Barn × List Tur // DIx b plan x.1 x.2.1 x.2.2}) => live [(4, Ty.ptr 5 0), (8, Ty.row TurE 55 60 x.1.2.2), (9, Ty.ptr 10 0), (31, Ty.sl TurE plan), (32, Ty.int .i64 plan.length), (33, Ty.int .i64 (x.1.1 : Nat))] [(5, Cont.cells 25 [Ty.ex (.slice none 0 0), Ty.ex (.slice none 0 0)]), (10, Cont.cells 25 (ownTys 50 51 x.1.2.1)), (50, Cont.vec I64 3 x.1.2.1.sizes), (51, Cont.vec LotE 57 x.1.2.1.lots)]) (fun x => plan.length - x.1.1) (⟨(0, b, []), dix0 b plan⟩) ?_ fun x => ?_
      · (refine Ent.mk' ?_ ?_ <;> (repeat' (first | exact allSub_zero | exact allTags_nil | refine allSub_succ' ?_ (Ty.sub_any _) | refine allSub_succ' ?_ (Ty.sub_refl _) | refine allSub_succ' ?_ Ty.nil_row | refine allTags_cons rfl (Cont.sub_refl _) ?_)))
        all_goals trace_state
      ·
        have hxl := x.2.len
        have hxe := x.2.le
        refine t_seq ?_
        refine t_region ?_
        refine r_bin rfl rfl rfl ?_
        refine r_nil ?_
        refine i_then ?_
        refine t_seq ?_
        refine t_cond_dec rfl (fun hc3 => ?_) (fun hc3 => ?_)
        ·
          refine t_skip ?_
          refine i_then ?_
          refine t_seq ?_
          refine t_block ?_
          refine t_seq ?_
          refine t_region ?_
          refine r_index_slN rfl rfl rfl rfl rfl rfl (by omega) ?_
          refine r_load_ppN rfl rfl rfl (by exact Nat.le_of_ble_eq_true rfl) ?_
          refine r_alloc rfl (by exact List.cons_ne_nil _ _) rfl ?_
          refine r_storeN rfl rfl (by decide) rfl rfl rfl rfl rfl rfl ?_
          refine r_nil ?_
          refine i_then ?_
          refine t_seq ?_
          refine t_region ?_
          refine r_load_ptrN rfl rfl (by decide) rfl rfl (by exact Nat.le_of_ble_eq_true rfl) ?_
          refine r_load_ptrN rfl rfl (by decide) rfl rfl (by exact Nat.le_of_ble_eq_true rfl) ?_
          refine r_callG (res' := Ty.tup [Ty.agg (ownTys 50 52 (turnedB x.1.2.1 (nth plan x.1.1)).1), Ty.int .i64 (turnedB x.1.2.1 (nth plan x.1.1)).2]) [(50, 1000), (51, 1001), (52, 41)] [52] [(50, Cont.vec I64 3 x.1.2.1.sizes), (51, Cont.vec LotE 57 x.1.2.1.lots), (52, Cont.vec LotE 57 (turnedB x.1.2.1 (nth plan x.1.1)).1.lots)] (k_turned x.1.2.1 (x.2.small hs) (nth plan x.1.1)) rfl rfl (cv_cons (cv_cons cv_nil (cv_pub rfl rfl)) (cv_agg (cv_cons (cv_cons cv_nil (cv_vs (by decide))) (cv_vs (by decide))))) (pre_cons (a := 50) (b := 1000) (by decide) rfl (cc_vec (by decide) rfl) (pre_cons (a := 51) (b := 1001) (by decide) rfl (cc_vec (by decide) rfl) pre_nil)) (post_cons (a := 50) (b := 1000) (by decide) rfl (cc_vec (by decide) rfl) (post_cons (a := 51) (b := 1001) (by decide) rfl (cc_vec (by decide) rfl) (post_cons (a := 52) (b := 41) (by decide) rfl (cc_vec (by decide) rfl) post_nil))) (cv_tup (cv_cons (cv_cons cv_nil (cv_pub rfl rfl)) (cv_agg (cv_cons (cv_cons cv_nil (cv_vs (by decide))) (cv_vs (by decide)))))) ?_
          refine mvT rfl ?_
          refine r_extract rfl rfl ?_
          refine r_extract rfl rfl ?_
          refine r_alloc rfl (by exact List.cons_ne_nil _ _) rfl ?_
          refine r_storeN rfl rfl (by decide) rfl rfl rfl rfl rfl rfl ?_
          refine asI rfl ?_
          refine r_nil ?_
          refine i_then ?_
          refine t_seq ?_
          refine t_seq ?_
          refine t_forget (B := live [(4, Ty.ptr 5 0), (8, Ty.row TurE 55 60 x.1.2.2), (9, Ty.ptr 10 0), (11, Ty.ptr 12 0), (12, Ty.ptr 13 0), (13, Ty.int .i64 (turnedB x.1.2.1 (nth plan x.1.1)).2), (31, Ty.sl TurE plan), (32, Ty.int .i64 plan.length), (33, Ty.int .i64 (x.1.1 : Nat))] [(5, Cont.cells 25 [Ty.ex (.slice none 0 0), Ty.ex (.slice none 0 0)]), (10, Cont.cells 25 (ownTys 50 51 x.1.2.1)), (12, Cont.cells 55 (TurE.tys (nth plan x.1.1))), (13, Cont.cells 25 (ownTys 50 52 (turnedB x.1.2.1 (nth plan x.1.1)).1)), (50, Cont.vec I64 3 x.1.2.1.sizes), (51, Cont.vec LotE 57 x.1.2.1.lots), (52, Cont.vec LotE 57 (turnedB x.1.2.1 (nth plan x.1.1)).1.lots)]) ?_ ?_
          · (refine Ent.mk' ?_ ?_ <;> (repeat' (first | exact allSub_zero | exact allTags_nil | refine allSub_succ' ?_ (Ty.sub_any _) | refine allSub_succ' ?_ (Ty.sub_refl _) | refine allTags_cons rfl (Cont.sub_refl _) ?_)))
          refine t_region ?_
          refine mvI rfl ?_
          refine r_bin rfl rfl rfl ?_
          refine r_nil ?_
          refine i_then ?_
          refine t_cond_ndec rfl (fun hc4 => ?_) (fun hc4 => ?_)
          ·
            refine t_seq ?_
            refine t_vec0 (E := I64) 3 50 ?_
            refine t_vec0 (E := LotE) 57 51 ?_
            refine t_region ?_
            refine r_build rfl rfl (by exact List.cons_ne_nil _ _) rfl (by repeat (exact (Parts.nil : Parts _ _ [] _))) (by exact (rfl : _ = some [_, _])) ?_
            refine mvI rfl ?_
            refine r_storeN rfl rfl (by decide) rfl rfl rfl rfl rfl rfl ?_
            refine asX rfl ?_
            refine asI rfl ?_
            refine r_nil ?_
            refine i_then ?_
            refine t_ret ?_
            refine i_then_ret ?_
            refine i_block_ret ?_
            refine i_then_ret ?_
            refine i_then_ret ?_
            refine i_block_ret ?_
            refine i_then_ret ?_
            refine g_rcell3 [50, 51] rfl rfl rfl rfl rfl rfl (by decide) rfl rfl rfl (by decide) ?_ ?_ ?_ ?_
            · exact rc_cons rfl (cc_vec (by decide) (congrArg (fun x => x.1.sizes) (doneV_go hc1 hc2 (x.2.stop (by omega) hc4))).symm) (rc_cons rfl (cc_vec (by decide) (congrArg (fun x => x.1.lots) (doneV_go hc1 hc2 (x.2.stop (by omega) hc4))).symm) rc_nil)
            all_goals skip
            all_goals first | exact own_nob (congrArg Prod.fst (doneV_go hc1 hc2 (x.2.stop (by omega) hc4))) | exact rg_nil (congrArg (fun z : Barn × List Tur × Int => z.2.1) (doneV_go hc1 hc2 (x.2.stop (by omega) hc4))) | exact rg_cv (cv_eq rfl rfl (congrArg (fun z : Barn × List Tur × Int => Ty.int .i64 z.2.2) (doneV_go hc1 hc2 (x.2.stop (by omega) hc4)).symm))
          ·
            refine t_skip ?_
            refine i_then ?_
            refine t_seq ?_
            obtain ⟨hk1, hk2, hk3, hk4, hk5⟩ := turned_err hc4
            refine t_draw mixed rfl ?_
            refine mvR rfl ?_
            refine r_field_ptr rfl rfl rfl rfl rfl (by decide) ?_
            refine r_load_ptr rfl rfl (by decide) rfl rfl rfl ?_
            refine r_field_ptr rfl rfl rfl rfl rfl (by decide) ?_
            refine r_load_ptr rfl rfl (by decide) rfl rfl rfl ?_
            refine r_field_ptr rfl rfl rfl rfl rfl (by decide) ?_
            refine r_load_ptr rfl rfl (by decide) rfl rfl rfl ?_
            refine r_index_vsI rfl rfl rfl rfl rfl hk1.1 (by omega) ?_
            refine r_field_ptr rfl rfl rfl rfl rfl (by decide) ?_
            refine r_load_vecC rfl rfl rfl (by decide) rfl rfl (by omega) rfl ?_
            refine r_build rfl rfl (by exact List.cons_ne_nil _ _) rfl (by repeat (first | exact (Parts.nil : Parts _ _ [] _) | (show Parts _ _ ((_, _) :: _) _; apply Parts.one; (· exact (rfl : _ = Ty.int _ _)); (· exact rfl)))) (by exact (rfl : _ = some [_, _])) ?_
            refine r_buildSlice (E := TurE) (xs := [⟨(nth plan x.1.1).lot, (nth x.1.2.1.lots (nth plan x.1.1).lot.toNat).inn⟩]) rfl rfl rfl rfl rfl (by decide) (by decide) (by repeat (first | exact (Parts.nil : Parts _ _ [] _) | (show Parts _ _ ((_, _) :: _) _; apply Parts.agg; (· exact (rfl : _ = Ty.agg _))))) (by exact rfl) rfl ?_
            refine r_append rfl rfl (by decide) rfl rfl rfl rfl rfl rfl (by decide) (by (simp <;> omega)) (by (simp <;> omega)) ?_
            refine asR rfl ?_
            refine r_nil ?_
            refine ⟨by kernel_rfl, ?_⟩
            refine i_then ?_
            refine t_region ?_
            refine r_load_ptrN rfl rfl (by decide) rfl rfl (by exact Nat.le_of_ble_eq_true rfl) ?_
            refine r_storeN rfl rfl (by decide) rfl rfl rfl rfl rfl rfl ?_
            refine r_nil ?_
            refine i_block ?_
            refine i_then ?_
            refine t_forget (B := live [(4, Ty.ptr 5 0), (8, Ty.row TurE 55 60 (x.1.2.2 ++ [⟨(nth plan x.1.1).lot, (nth x.1.2.1.lots (nth plan x.1.1).lot.toNat).inn⟩])), (9, Ty.ptr 10 0), (31, Ty.sl TurE plan), (32, Ty.int .i64 plan.length), (33, Ty.int .i64 (x.1.1 : Nat))] [(5, Cont.cells 25 [Ty.ex (.slice none 0 0), Ty.ex (.slice none 0 0)]), (10, Cont.cells 25 (ownTys 50 52 (turnedB x.1.2.1 (nth plan x.1.1)).1)), (50, Cont.vec I64 3 x.1.2.1.sizes), (52, Cont.vec LotE 57 (turnedB x.1.2.1 (nth plan x.1.1)).1.lots)]) ?_ ?_
            · (refine Ent.mk' ?_ ?_ <;> (repeat' (first | exact allSub_zero | exact allTags_nil | refine allSub_succ' ?_ (Ty.sub_any _) | refine allSub_succ' ?_ (Ty.sub_refl _) | refine allTags_cons rfl (Cont.sub_refl _) ?_)))
            refine t_region ?_
            refine r_add rfl rfl (by omega) (by omega) ?_
            refine mvI rfl ?_
            refine r_nil ?_
            refine i_retagC 52 51 [(50, 50), (52, 51), (10, 10)] [] [(10, Cont.cells 25 (ownTys 50 51 (turnedB x.1.2.1 (nth plan x.1.1)).1)), (51, Cont.vec LotE 57 (turnedB x.1.2.1 (nth plan x.1.1)).1.lots)] (by decide) (by decide) rfl rfl rfl trivial (pre_cons (a := 10) (b := 10) (by decide) rfl (cc_cells (by decide) (cv_cons (cv_cons cv_nil (cv_vs (by decide))) (cv_vs (by decide)))) (pre_cons (a := 52) (b := 51) (by decide) rfl (cc_vec (by decide) rfl) pre_nil)) ?_
            refine i_round (⟨(x.1.1 + 1, (turnedB x.1.2.1 (nth plan x.1.1)).1, x.1.2.2 ++ [⟨(nth plan x.1.1).lot, (nth x.1.2.1.lots (nth plan x.1.1).lot.toNat).inn⟩]), x.2.next (by omega) hc4⟩) ?_ (by show plan.length - (x.1.1 + 1) < plan.length - x.1.1; omega)
            (refine Ent.mk' ?_ ?_ <;> (repeat' (first | exact allSub_zero | exact allTags_nil | refine allSub_succ' ?_ (Ty.sub_any _) | refine allSub_succ' ?_ (Ty.sub_refl _) | refine allTags_cons rfl (Cont.sub_refl _) ?_ | refine allTags_cons rfl ?_ ?_)))
            all_goals skip
            all_goals exact Cont.sub_vec (congrArg Barn.sizes hk5).symm
        ·
          refine t_exit ?_
          refine i_then_exit ?_
          refine i_then_exit ?_
          refine i_block_exit rfl ?_
          refine i_then ?_
          refine t_seq ?_
          refine t_own (s := 8) rfl rfl ?_
          refine t_region ?_
          refine mvV rfl ?_
          refine r_callG [(60, 1000)] [] [(60, Cont.vec TurE 55 x.1.2.2.reverse)] (c_Reverse_tur x.1.2.2 (by omega)) rfl rfl (by repeat (first | exact cv_nil | refine cv_cons ?_ ?_ | exact cv_vs List.mem_cons_self)) (pre_cons (a := 60) (b := 1000) (by decide) rfl (cc_vec (by decide) rfl) pre_nil) (post_cons (a := 60) (b := 1000) (by decide) rfl (cc_vec (by decide) rfl) post_nil) (cv_pub rfl rfl) ?_
          refine r_nil ?_
          refine i_then ?_
          refine t_seq ?_
          refine t_pub (tg := 60) [(8, Ty.sl TurE x.1.2.2.reverse)] (by decide) rfl ⟨pub_vs rfl rfl (by rw [List.length_reverse]) (by decide), trivial⟩ ?_
          refine t_region ?_
          refine r_load_ptrN rfl rfl (by decide) rfl rfl (by exact Nat.le_of_ble_eq_true rfl) ?_
          refine mvS rfl ?_
          refine r_storeN rfl rfl (by decide) rfl rfl rfl rfl rfl rfl ?_
          refine asS rfl ?_
          refine asI rfl ?_
          refine r_nil ?_
          refine i_then ?_
          refine t_ret ?_
          refine g_rcell3 [50, 51] rfl rfl rfl rfl rfl rfl (by decide) rfl rfl rfl (by decide) ?_ ?_ ?_ ?_
          · exact rc_cons rfl (cc_vec (by decide) (congrArg (fun x => x.1.sizes) (doneV_go hc1 hc2 (x.2.end (by omega)))).symm) (rc_cons rfl (cc_vec (by decide) (congrArg (fun x => x.1.lots) (doneV_go hc1 hc2 (x.2.end (by omega)))).symm) rc_nil)
          all_goals skip
          all_goals first | exact own_eq (congrArg Prod.fst (doneV_go hc1 hc2 (x.2.end (by omega)))) | exact rg_cv (cv_eq rfl rfl (congrArg (fun z : Barn × List Tur × Int => Ty.sl TurE z.2.1) (doneV_go hc1 hc2 (x.2.end (by omega))).symm)) | exact rg_cv (cv_eq rfl rfl (congrArg (fun z : Barn × List Tur × Int => Ty.int .i64 z.2.2) (doneV_go hc1 hc2 (x.2.end (by omega))).symm))
end Go.Proofs.Ytpnndljmhpepgaa

namespace Go.Proofs.Ytpnndljmhpepgaa
open Go Go.T
set_option maxHeartbeats 4000000
def rturn (b : Barn) (p : List Int) (t : Tur) : List Int × Int :=
  if (offB t.lot 0 (b.lots.length - 1) || offB t.aim 0 (b.sizes.length - 1)) = true then ([], 1) else if t.aim ∈ p then ([], 5) else if nth b.sizes t.aim.toNat < (nth b.lots t.lot.toNat).sacks then ([], 9) else (p.set t.lot.toNat t.aim, 0)
section
variable {b cur : Barn} {p : List Int} {t : Tur}
theorem rturn_1 (h : (offB t.lot 0 (b.lots.length - 1) || offB t.aim 0 (b.sizes.length - 1)) = true) : rturn b p t = ([], 1) := if_pos h
theorem rturn_5 (h : (offB t.lot 0 (b.lots.length - 1) || offB t.aim 0 (b.sizes.length - 1)) = false) (h2 : t.aim ∈ p) : rturn b p t = ([], 5) := (if_neg (ng h)).trans (if_pos h2)
theorem rturn_9 (h : (offB t.lot 0 (b.lots.length - 1) || offB t.aim 0 (b.sizes.length - 1)) = false) (h2 : t.aim ∉ p) (h3 : nth b.sizes t.aim.toNat < (nth b.lots t.lot.toNat).sacks) : rturn b p t = ([], 9) := (if_neg (ng h)).trans ((if_neg h2).trans (if_pos h3))
theorem rturn_0 (h : (offB t.lot 0 (b.lots.length - 1) || offB t.aim 0 (b.sizes.length - 1)) = false) (h2 : t.aim ∉ p) (h3 : ¬ nth b.sizes t.aim.toNat < (nth b.lots t.lot.toNat).sacks) : rturn b p t = (p.set t.lot.toNat t.aim, 0) := (if_neg (ng h)).trans ((if_neg h2).trans (if_neg h3))
theorem off_rng (h : (offB t.lot 0 (b.lots.length - 1) || offB t.aim 0 (b.sizes.length - 1)) = false) : (0 ≤ t.lot ∧ t.lot < b.lots.length) ∧ 0 ≤ t.aim ∧ t.aim < b.sizes.length := by
  rw [Bool.or_eq_false_iff, offB_false, offB_false] at h; omega
structure Kept (b cur : Barn) : Prop where
  sizes : cur.sizes = b.sizes
  len : cur.lots.length = b.lots.length
  sacks : ∀ i, i < b.lots.length → (nth cur.lots i).sacks = (nth b.lots i).sacks
theorem inn_to (_ : 0 ≤ t.lot ∧ t.lot < cur.lots.length) : innL ⟨cur.sizes, lotsTo cur t⟩ = (innL cur).set t.lot.toNat t.aim := by
  unfold innL lotsTo
  show (cur.lots.set _ _).map _ = _
  rw [List.map_set]
theorem rturn_eq (h : Kept b cur) : rturn b (innL cur) t = if (turnedB cur t).2 = 0 then (innL (turnedB cur t).1, 0) else ([], (turnedB cur t).2) := by
  have e : (!cur.lot t.lot || !cur.bin t.aim) = (offB t.lot 0 (b.lots.length - 1) || offB t.aim 0 (b.sizes.length - 1)) := by
    unfold Barn.lot Barn.bin; rw [inB_off, inB_off, h.len, h.sizes]
  cases h1 : (offB t.lot 0 (b.lots.length - 1) || offB t.aim 0 (b.sizes.length - 1)) with
  | true => rw [rturn_1 h1, turned_1 (e.trans h1)]; rfl
  | false =>
    have hr := off_rng h1
    by_cases h2 : t.aim ∈ innL cur
    · have hf : cur.free t.aim = false := by rw [Bool.eq_false_iff]; intro hc; exact free_inn.1 hc h2
      rw [rturn_5 h1 h2, turned_5 (e.trans h1) hf]; rfl
    · have hf : cur.free t.aim = true := free_inn.2 h2
      have hs := h.sacks t.lot.toNat (by omega)
      by_cases h3 : nth b.sizes t.aim.toNat < (nth b.lots t.lot.toNat).sacks
      · have hh : cur.hold t.aim t.lot = false := by unfold Barn.hold; rw [hs, h.sizes]; exact decide_eq_false (by omega)
        rw [rturn_9 h1 h2 h3, turned_9 (e.trans h1) hf hh]; rfl
      · have hh : cur.hold t.aim t.lot = true := by unfold Barn.hold; rw [hs, h.sizes]; exact decide_eq_true (by omega)
        rw [rturn_0 h1 h2 h3, turned_0 (e.trans h1) hf hh, if_pos rfl, inn_to (by rw [h.len]; exact hr.1)]
theorem kept_turn (h : Kept b cur) (h0 : (turnedB cur t).2 = 0) : Kept b (turnedB cur t).1 ∧ 0 ≤ t.lot ∧ t.lot < b.lots.length := by
  obtain ⟨h1, _, _, _, e⟩ := turned_err h0
  rw [h.len] at h1
  refine ⟨?_, h1⟩
  rw [e]
  refine ⟨h.sizes, by show (lotsTo cur t).length = _; unfold lotsTo; rw [List.length_set]; exact h.len, fun i hi => ?_⟩
  show (nth (lotsTo cur t) i).sacks = _
  unfold lotsTo
  rw [nthA_set (by rw [h.len]; exact hi)]
  by_cases c : t.lot.toNat = i
  · rw [if_pos c, ← h.sacks i hi, c]
  · rw [if_neg c]; exact h.sacks i hi
def afterR (b : Barn) (plan : List Tur) : List Int × List Tur × Int × Int :=
  if (plan.length : Int) > 6000 then ([], [], 0, 2) else if (doneGo b [] plan).2.2 = 0 then (innL (doneGo b [] plan).1, (doneGo b [] plan).2.1, costL (sackC b) plan, 0) else ([], [], 0, (doneGo b [] plan).2.2)
variable {plan : List Tur}
theorem afterR_2 (h : (plan.length : Int) > 6000) : afterR b plan = ([], [], 0, 2) := if_pos h
theorem afterR_e (h : ¬ (plan.length : Int) > 6000) {e : Int} (he : ¬ e = 0) (hd : doneGo b [] plan = (noB, [], e)) : afterR b plan = ([], [], 0, e) := by
  unfold afterR; rw [if_neg h, hd]; exact if_neg he
theorem afterR_0 (h : ¬ (plan.length : Int) > 6000) {back : List Tur} {k : Nat} (hk : plan.length ≤ k) (hd : doneGo b [] plan = (cur, back, 0)) : afterR b plan = (innL cur, back, sumUp b plan k, 0) := by
  unfold afterR sumUp; rw [if_neg h, hd, if_pos rfl, List.take_of_length_le hk]
structure AIx (b : Barn) (plan : List Tur) (k : Nat) (cur : Barn) (back : List Tur) : Prop where
  ix : DIx b plan k cur back
  kept : Kept b cur
  sum : 0 ≤ sumUp b plan k ∧ sumUp b plan k ≤ 300 * k
theorem aix0 (b : Barn) (plan : List Tur) : AIx b plan 0 b [] := ⟨dix0 b plan, ⟨rfl, rfl, fun _ _ => rfl⟩, by rw [sumUp_zero]; exact ⟨Int.le_refl _, Int.le_refl _⟩⟩
variable {k : Nat} {back : List Tur}
theorem AIx.next (h : AIx b plan k cur back) (hr : b.Right) (hk : k < plan.length) (he : (turnedB cur (nth plan k)).2 = 0) : AIx b plan (k + 1) (turnedB cur (nth plan k)).1 (back ++ [⟨(nth plan k).lot, (nth cur.lots (nth plan k).lot.toNat).inn⟩]) := by
  obtain ⟨h1, h2⟩ := kept_turn h.kept he
  have h3 := sack_bound hr h2
  have h4 := h.sum
  refine ⟨h.ix.next hk he, h1, ?_⟩
  rw [sumUp_succ hk]; omega
theorem innL_nth {i : Nat} (hi : i < cur.lots.length) : nth (innL cur) i = (nth cur.lots i).inn := by
  unfold innL; rw [nth_lt (by rw [List.length_map]; exact hi), List.getElem_map, ← nth_lt hi]
theorem rt_zero (h : Kept b cur) (he : (rturn b (innL cur) t).2 = 0) : (turnedB cur t).2 = 0 ∧ (rturn b (innL cur) t).1 = innL (turnedB cur t).1 := by
  rw [rturn_eq h] at he ⊢
  by_cases c : (turnedB cur t).2 = 0
  · rw [if_pos c]; exact ⟨c, rfl⟩
  · rw [if_neg c] at he; exact absurd he c
theorem rt_err (h : Kept b cur) (he : ¬ (rturn b (innL cur) t).2 = 0) : ¬ (turnedB cur t).2 = 0 ∧ (rturn b (innL cur) t).2 = (turnedB cur t).2 := by
  rw [rturn_eq h] at he ⊢
  by_cases c : (turnedB cur t).2 = 0
  · rw [if_pos c] at he; exact absurd rfl he
  · rw [if_neg c]; exact ⟨c, rfl⟩
theorem AIx.halt (h : AIx b plan k cur back) (h1 : ¬ (plan.length : Int) > 6000) (hk : k < plan.length) (he : ¬ (rturn b (innL cur) (nth plan k)).2 = 0) : afterR b plan = ([], [], 0, (rturn b (innL cur) (nth plan k)).2) := by
  obtain ⟨h2, h3⟩ := rt_err h.kept he
  rw [h3]
  exact afterR_e h1 h2 (h.ix.stop hk h2)
theorem inn_map (b : Barn) : (b.lots.map fun x => x.inn) = innL b := rfl
theorem back_step (h : Kept b cur) (hl : 0 ≤ t.lot ∧ t.lot < b.lots.length) : [(⟨t.lot, nth (innL cur) t.lot.toNat⟩ : Tur)] ++ back.reverse = (back ++ [(⟨t.lot, (nth cur.lots t.lot.toNat).inn⟩ : Tur)]).reverse := by
  rw [List.reverse_append, innL_nth (by rw [h.len]; omega)]; rfl
def wrongI (b : Barn) (p : List Int) (i : Nat) : Bool := decide ((nth b.lots i).aim ≥ 0) && !decide ((nth b.lots i).aim = nth p i)
def madeL (b : Barn) (p : List Int) : Bool := !(List.range p.length).any (wrongI b p)
end
attribute [local irreducible] rturn turnedB sumUp innL
attribute [local irreducible] dInt dBool dSl dPp dPtr dAgg dTup dClo dAny dEx dStr dGd dCells dVec dVs dRow dOp nth Tri Into TOps Ctr bodyPost Exit.then Exit.inBlock Code.wp Code.wpIn dWhen dPa dPe dAo dArr dMp dPm dMap dCJ CtrG CtrI OpY keepPost iterPost bodyPostM roundQ
set_option maxRecDepth 100000 in
theorem c_rTurned (b : Barn) (hs : b.Small) (p : List Int) (hp : p.length = b.lots.length) (t : Tur) : Ctr Try.prog 71 [barnT b, Ty.sl I64 p, Ty.agg (TurE.tys t)] (Ty.tup [Ty.sl I64 (rturn b p t).1, Ty.int .i64 (rturn b p t).2]) := by
  refine fn_intro Try.func71 rfl (by decide) Try.ntmps71 (by exact Nat.le_of_ble_eq_true rfl) fun w0 M0 => ?_
  have hs1 := hs.sizes
  have hs2 := hs.lots
  refine t_seq ?_
  refine t_region ?_
  refine r_box_agg rfl ?_
  refine r_box_agg rfl ?_
  refine asX rfl ?_
  refine asI rfl ?_
  refine r_nil ?_
  refine i_then ?_
  refine t_seq ?_
  refine t_seq ?_
  refine t_region ?_
  refine r_field_pp rfl rfl rfl rfl rfl (by decide) ?_
  refine r_load_pp rfl rfl rfl rfl ?_
  refine r_field_pp rfl rfl rfl rfl rfl (by decide) ?_
  refine r_load_pp rfl rfl rfl rfl ?_
  refine r_len rfl rfl rfl ?_
  refine r_sub rfl rfl (by omega) (by omega) ?_
  refine r_call (c_off _ _ _) rfl rfl rfl rfl rfl ?_
  refine mvB rfl ?_
  apply r_guard (s := 16) rfl rfl rfl
  · intro hg; apply opT_of; (refine r_field_pp rfl rfl rfl rfl rfl (by decide) ?_); refine r_nil ?_; exact rfl
  · exact rfl
  · exact rfl
  apply r_guard (s := 16) rfl rfl rfl
  · intro hg; apply opT_strip (s := 17) rfl (by (rw [hg]; rfl)); apply opT_of; (refine r_load_pp rfl rfl rfl rfl ?_); refine r_nil ?_; exact rfl
  · exact rfl
  · exact rfl
  apply r_guard (s := 16) rfl rfl rfl
  · intro hg; apply opT_of; (refine r_field_pp rfl rfl rfl rfl rfl (by decide) ?_); refine r_nil ?_; exact rfl
  · exact rfl
  · exact rfl
  apply r_guard (s := 16) rfl rfl rfl
  · intro hg; apply opT_strip (s := 19) rfl (by (rw [hg]; rfl)); apply opT_of; (refine r_load_pp rfl rfl rfl rfl ?_); refine r_nil ?_; exact rfl
  · exact rfl
  · exact rfl
  apply r_guard (s := 16) rfl rfl rfl
  · intro hg; apply opT_strip (s := 20) rfl (by (rw [hg]; rfl)); apply opT_of; (refine r_len rfl rfl rfl ?_); refine r_nil ?_; exact rfl
  · exact rfl
  · exact rfl
  apply r_guard (s := 16) rfl rfl rfl
  · intro hg; apply opT_strip (s := 21) rfl (by (rw [hg]; rfl)); apply opT_of; (refine r_sub rfl rfl (by omega) (by omega) ?_); refine r_nil ?_; exact rfl
  · exact rfl
  · exact rfl
  apply r_guard (s := 16) rfl rfl rfl
  · intro hg; apply opT_strip (s := 18) rfl (by (rw [hg]; rfl)); apply opT_strip (s := 22) rfl (by (rw [hg]; rfl)); apply opT_of; (refine r_call (c_off _ _ _) rfl rfl rfl rfl rfl ?_); refine r_nil ?_; exact rfl
  · exact rfl
  · exact rfl
  refine r_or rfl rfl ?_
  refine r_nil ?_
  refine i_then ?_
  refine t_cond rfl (fun hc1 => ?_) (fun hc1 => ?_)
  ·
    refine t_seq ?_
    refine t_region ?_
    refine asX rfl ?_
    refine asI rfl ?_
    refine r_nil ?_
    refine i_then ?_
    refine t_ret ?_
    refine i_then_ret ?_
    refine i_rp2 rfl rfl rfl ?_ ?_
    all_goals skip
    all_goals first | exact ret_nil_eq (congrArg Prod.fst (rturn_1 hc1)) | exact ret_eq rfl rfl (congrArg (fun z : List Int × Int => Ty.int .i64 z.2) (rturn_1 hc1).symm)
  ·
    refine t_skip ?_
    refine i_then ?_
    refine t_seq ?_
    refine t_seq ?_
    have hof := off_rng hc1
    refine t_region ?_
    refine mvS rfl ?_
    refine r_field_pp rfl rfl rfl rfl rfl (by decide) ?_
    refine r_load_pp rfl rfl rfl rfl ?_
    refine r_call (c_has _ _) rfl rfl rfl rfl rfl ?_
    refine r_nil ?_
    refine i_then ?_
    refine t_cond_dec rfl (fun hc2 => ?_) (fun hc2 => ?_)
    ·
      refine t_seq ?_
      refine t_region ?_
      refine asX rfl ?_
      refine asI rfl ?_
      refine r_nil ?_
      refine i_then ?_
      refine t_ret ?_
      refine i_then_ret ?_
      refine i_rp2 rfl rfl rfl ?_ ?_
      all_goals skip
      all_goals first | exact ret_nil_eq (congrArg Prod.fst (rturn_5 hc1 hc2)) | exact ret_eq rfl rfl (congrArg (fun z : List Int × Int => Ty.int .i64 z.2) (rturn_5 hc1 hc2).symm)
    ·
      refine t_skip ?_
      refine i_then ?_
      refine t_seq ?_
      refine t_seq ?_
      refine t_draw mixed rfl ?_
      refine r_field_pp rfl rfl rfl rfl rfl (by decide) ?_
      refine r_load_pp rfl rfl rfl rfl ?_
      refine r_field_pp rfl rfl rfl rfl rfl (by decide) ?_
      refine r_load_pp rfl rfl rfl rfl ?_
      refine r_index_sl rfl rfl rfl rfl rfl rfl hof.2.1 (by omega) ?_
      refine r_load_pp rfl rfl rfl rfl ?_
      refine r_field_pp rfl rfl rfl rfl rfl (by decide) ?_
      refine r_load_pp rfl rfl rfl rfl ?_
      refine r_field_pp rfl rfl rfl rfl rfl (by decide) ?_
      refine r_load_pp rfl rfl rfl rfl ?_
      refine r_index_sl rfl rfl rfl rfl rfl rfl hof.1.1 (by omega) ?_
      refine r_field_pp rfl rfl rfl rfl rfl (by decide) ?_
      refine r_load_pp rfl rfl rfl rfl ?_
      refine r_bin rfl rfl rfl ?_
      refine r_nil ?_
      refine ⟨by kernel_rfl, ?_⟩
      refine i_then ?_
      refine t_cond_dec rfl (fun hc3 => ?_) (fun hc3 => ?_)
      ·
        refine t_seq ?_
        refine t_region ?_
        refine asX rfl ?_
        refine asI rfl ?_
        refine r_nil ?_
        refine i_then ?_
        refine t_ret ?_
        refine i_then_ret ?_
        refine i_rp2 rfl rfl rfl ?_ ?_
        all_goals skip
        all_goals first | exact ret_nil_eq (congrArg Prod.fst (rturn_9 hc1 hc2 hc3)) | exact ret_eq rfl rfl (congrArg (fun z : List Int × Int => Ty.int .i64 z.2) (rturn_9 hc1 hc2 hc3).symm)
      ·
        refine t_skip ?_
        refine i_then ?_
        refine t_seq ?_
        refine t_region ?_
        refine r_buildRow (E := I64) rfl rfl rfl rfl ?_
        refine mvS rfl ?_
        refine r_append rfl rfl (by decide) rfl rfl rfl rfl rfl rfl (by decide) (by (simp <;> omega)) (by (simp <;> omega)) ?_
        refine asR rfl ?_
        refine r_nil ?_
        refine i_then ?_
        refine t_seq ?_
        refine t_own (s := 8) rfl rfl ?_
        refine t_region ?_
        refine mvV rfl ?_
        refine r_field_pp rfl rfl rfl rfl rfl (by decide) ?_
        refine r_load_pp rfl rfl rfl rfl ?_
        refine r_field_pp rfl rfl rfl rfl rfl (by decide) ?_
        refine r_load_pp rfl rfl rfl rfl ?_
        refine r_index_vsI rfl rfl rfl rfl rfl hof.1.1 (by show t.lot.toNat < ([] ++ p).length; rw [List.nil_append]; omega) ?_
        refine r_store_vecB (E := I64) (z := t.aim) rfl rfl rfl (by decide) rfl rfl (by exact (rfl : _ = Ty.int _ _)) rfl (by show t.lot.toNat < ([] ++ p).length; rw [List.nil_append]; omega) (by decide) rfl rfl ?_
        refine r_nil ?_
        refine i_then ?_
        refine t_seq ?_
        refine t_pub (tg := 44) [(8, Ty.sl I64 (([] ++ p).set t.lot.toNat t.aim))] (by decide) rfl ⟨pub_vs rfl rfl (by rw [List.length_set]) (by decide), trivial⟩ ?_
        refine t_region ?_
        refine mvS rfl ?_
        refine asS rfl ?_
        refine asI rfl ?_
        refine r_nil ?_
        refine i_then ?_
        refine t_ret ?_
        refine i_rp2 rfl rfl rfl ?_ ?_
        all_goals skip
        all_goals first | exact ret_eq rfl rfl (congrArg (fun z : List Int × Int => Ty.sl I64 z.1) (rturn_0 hc1 hc2 hc3).symm) | exact ret_eq rfl rfl (congrArg (fun z : List Int × Int => Ty.int .i64 z.2) (rturn_0 hc1 hc2 hc3).symm)
set_option maxRecDepth 100000 in
theorem c_rAfter (b : Barn) (hr : b.Right) (plan : List Tur) : Ctr Try.prog 25 [barnT b, Ty.sl TurE plan] (Ty.tup [Ty.sl I64 (afterR b plan).1, Ty.sl TurE (afterR b plan).2.1, Ty.int .i64 (afterR b plan).2.2.1, Ty.int .i64 (afterR b plan).2.2.2]) := by
  refine fn_intro Try.func25 rfl (by decide) Try.ntmps25 (by exact Nat.le_of_ble_eq_true rfl) fun w0 M0 => ?_
  have hs := small_right hr
  refine t_seq ?_
  refine t_region ?_
  refine r_box_agg rfl ?_
  refine asX rfl ?_
  refine asX rfl ?_
  refine asI rfl ?_
  refine asI rfl ?_
  refine r_nil ?_
  refine i_then ?_
  refine t_seq ?_
  refine t_seq ?_
  refine t_region ?_
  refine mvS rfl ?_
  refine r_len rfl rfl rfl ?_
  refine r_bin rfl rfl rfl ?_
  refine r_nil ?_
  refine i_then ?_
  refine t_cond_dec rfl (fun hc1 => ?_) (fun hc1 => ?_)
  ·
    refine t_seq ?_
    refine t_region ?_
    refine asX rfl ?_
    refine asX rfl ?_
    refine asI rfl ?_
    refine asI rfl ?_
    refine r_nil ?_
    refine i_then ?_
    refine t_ret ?_
    refine i_then_ret ?_
    refine i_rp4 rfl rfl rfl rfl rfl ?_ ?_ ?_ ?_
    all_goals skip
    all_goals first | exact ret_nil_eq (congrArg (fun z : List Int × List Tur × Int × Int => z.1) (afterR_2 hc1)) | exact ret_nil_eq (congrArg (fun z : List Int × List Tur × Int × Int => z.2.1) (afterR_2 hc1)) | exact ret_eq rfl rfl (congrArg (fun z : List Int × List Tur × Int × Int => Ty.int .i64 z.2.2.1) (afterR_2 hc1).symm) | exact ret_eq rfl rfl (congrArg (fun z : List Int × List Tur × Int × Int => Ty.int .i64 z.2.2.2) (afterR_2 hc1).symm)
  ·
    refine t_skip ?_
    refine i_then ?_
    refine t_seq ?_
    refine t_region ?_
    refine r_load_ppN rfl rfl rfl (by exact Nat.le_of_ble_eq_true rfl) ?_
    refine r_call (c_rFirst b hs) rfl rfl rfl rfl rfl ?_
    refine asS rfl ?_
    refine asI rfl ?_
    refine r_nil ?_
    refine i_then ?_
    refine t_seq ?_
    refine t_region ?_
    refine asX rfl ?_
    refine r_nil ?_
    refine i_then ?_
    refine t_seq ?_
    refine t_seq ?_
    refine t_region ?_
    refine asI rfl ?_
    refine r_nil ?_
    refine i_then ?_
    refine t_block ?_
    refine t_loop (fun (x : {x : Nat × Barn × List Tur // AIx b plan x.1 x.2.1 x.2.2}) => live [(1, Ty.sl TurE plan), (2, Ty.pp (barnTys b)), (8, Ty.sl I64 (innL x.1.2.1)), (9, Ty.int .i64 (sumUp b plan x.1.1)), (10, Ty.sl TurE x.1.2.2.reverse), (11, Ty.int .i64 (x.1.1 : Nat))] []) (fun x => plan.length - x.1.1) (⟨(0, b, []), aix0 b plan⟩) ?_ fun x => ?_
    · (refine Ent.mk' ?_ ?_ <;> (repeat' (first | exact allSub_zero | exact allTags_nil | refine allSub_succ' ?_ (Ty.sub_any _) | refine allSub_succ' ?_ (Ty.sub_refl _) | refine allSub_succ' ?_ ?_)))
      all_goals first | exact Ty.sub_sl (inn_map b) | exact Ty.sub_int (sumUp_zero b plan).symm | exact Ty.nil_sl
    ·
      have hxl := x.2.ix.len
      have hxe := x.2.ix.le
      have hxs := x.2.sum
      have hxk := x.2.kept.len
      have hil : (innL x.1.2.1).length = b.lots.length := by unfold innL; rw [List.length_map]; exact hxk
      refine t_seq ?_
      refine t_seq ?_
      refine t_region ?_
      refine mvI rfl ?_
      refine mvS rfl ?_
      refine r_len rfl rfl rfl ?_
      refine r_bin rfl rfl rfl ?_
      refine r_nil ?_
      refine i_then ?_
      refine t_cond_dec rfl (fun hc2 => ?_) (fun hc2 => ?_)
      ·
        refine t_skip ?_
        refine i_then ?_
        refine t_seq ?_
        refine t_block ?_
        refine t_seq ?_
        refine t_draw mixed rfl ?_
        refine r_load_ppN rfl rfl rfl (by exact Nat.le_of_ble_eq_true rfl) ?_
        refine mvS rfl ?_
        refine mvS rfl ?_
        refine mvI rfl ?_
        refine r_index_slN rfl rfl rfl rfl rfl rfl (by omega) ?_
        refine r_load_ppN rfl rfl rfl (by exact Nat.le_of_ble_eq_true rfl) ?_
        refine r_call (c_rTurned b hs (innL x.1.2.1) hil (nth plan x.1.1)) rfl rfl rfl rfl rfl ?_
        refine mvT rfl ?_
        refine r_extract rfl rfl ?_
        refine r_extract rfl rfl ?_
        refine asS rfl ?_
        refine asI rfl ?_
        refine r_nil ?_
        refine ⟨by kernel_rfl, ?_⟩
        refine i_then ?_
        refine t_seq ?_
        refine t_seq ?_
        refine t_region ?_
        refine mvI rfl ?_
        refine r_bin rfl rfl rfl ?_
        refine r_nil ?_
        refine i_then ?_
        refine t_cond_ndec rfl (fun hc3 => ?_) (fun hc3 => ?_)
        ·
          refine t_seq ?_
          refine t_region ?_
          refine mvI rfl ?_
          refine asX rfl ?_
          refine asX rfl ?_
          refine asI rfl ?_
          refine asI rfl ?_
          refine r_nil ?_
          refine i_then ?_
          refine t_ret ?_
          refine i_then_ret ?_
          refine i_block_ret ?_
          refine i_then_ret ?_
          refine i_then_ret ?_
          refine i_block_ret ?_
          refine i_then_ret ?_
          refine i_rp4 rfl rfl rfl rfl rfl ?_ ?_ ?_ ?_
          all_goals skip
          all_goals first | exact ret_nil_eq (congrArg (fun z : List Int × List Tur × Int × Int => z.1) (x.2.halt hc1 (by omega) hc3)) | exact ret_nil_eq (congrArg (fun z : List Int × List Tur × Int × Int => z.2.1) (x.2.halt hc1 (by omega) hc3)) | exact ret_eq rfl rfl (congrArg (fun z : List Int × List Tur × Int × Int => Ty.int .i64 z.2.2.1) (x.2.halt hc1 (by omega) hc3).symm) | exact ret_eq rfl rfl (congrArg (fun z : List Int × List Tur × Int × Int => Ty.int .i64 z.2.2.2) (x.2.halt hc1 (by omega) hc3).symm)
        ·
          refine t_skip ?_
          refine i_then ?_
          refine t_seq ?_
          obtain ⟨hz1, hz2⟩ := rt_zero x.2.kept hc3
          have hlt := (kept_turn x.2.kept hz1).2
          have hsb := sack_bound hr hlt
          refine t_draw mixed rfl ?_
          refine mvS rfl ?_
          refine mvI rfl ?_
          refine r_index_slN rfl rfl rfl rfl rfl rfl (by omega) ?_
          refine r_field_pp rfl rfl rfl rfl rfl (by decide) ?_
          refine r_load_pp rfl rfl rfl rfl ?_
          refine mvS rfl ?_
          refine mvS rfl ?_
          refine mvI rfl ?_
          refine r_index_slN rfl rfl rfl rfl rfl rfl (by omega) ?_
          refine r_field_pp rfl rfl rfl rfl rfl (by decide) ?_
          refine r_load_pp rfl rfl rfl rfl ?_
          refine r_index_sl rfl rfl rfl rfl rfl rfl hlt.1 (by omega) ?_
          refine r_load_pp rfl rfl rfl rfl ?_
          refine r_build rfl rfl (by exact List.cons_ne_nil _ _) rfl (by repeat (first | exact (Parts.nil : Parts _ _ [] _) | (show Parts _ _ ((_, _) :: _) _; apply Parts.one; (· exact (rfl : _ = Ty.int _ _)); (· exact rfl)))) (by exact (rfl : _ = some [_, _])) ?_
          refine r_buildRowN (E := TurE) (xs := [⟨(nth plan x.1.1).lot, nth (innL x.1.2.1) (nth plan x.1.1).lot.toNat⟩]) rfl rfl rfl rfl rfl (by decide) (by decide) (by repeat (first | exact (Parts.nil : Parts _ _ [] _) | (show Parts _ _ ((_, _) :: _) _; apply Parts.agg; (· exact (rfl : _ = Ty.agg _))))) (by exact rfl) rfl rfl ?_
          refine mvS rfl ?_
          refine r_append rfl rfl (by decide) rfl rfl rfl rfl rfl rfl (by decide) (by (simp <;> omega)) (by (simp <;> omega)) ?_
          refine asR rfl ?_
          refine r_nil ?_
          refine ⟨by kernel_rfl, ?_⟩
          refine i_then ?_
          refine t_seq ?_
          refine t_draw mixed rfl ?_
          refine mvI rfl ?_
          refine r_field_pp rfl rfl rfl rfl rfl (by decide) ?_
          refine r_load_pp rfl rfl rfl rfl ?_
          refine mvS rfl ?_
          refine mvI rfl ?_
          refine r_index_slN rfl rfl rfl rfl rfl rfl (by omega) ?_
          refine r_field_pp rfl rfl rfl rfl rfl (by decide) ?_
          refine r_load_pp rfl rfl rfl rfl ?_
          refine r_index_sl rfl rfl rfl rfl rfl rfl hlt.1 (by omega) ?_
          refine r_field_pp rfl rfl rfl rfl rfl (by decide) ?_
          refine r_load_pp rfl rfl rfl rfl ?_
          refine r_add rfl rfl (by omega) (by omega) ?_
          refine asI rfl ?_
          refine r_nil ?_
          refine ⟨by kernel_rfl, ?_⟩
          refine i_then ?_
          refine t_pub (tg := 53) [(10, Ty.sl TurE ([⟨(nth plan x.1.1).lot, nth (innL x.1.2.1) (nth plan x.1.1).lot.toNat⟩] ++ x.1.2.2.reverse))] (by decide) rfl ⟨pub_row rfl, trivial⟩ ?_
          refine t_region ?_
          refine mvS rfl ?_
          refine asS rfl ?_
          refine r_nil ?_
          refine i_block ?_
          refine i_then ?_
          refine t_region ?_
          refine mvI rfl ?_
          refine r_add rfl rfl (by omega) (by omega) ?_
          refine asI rfl ?_
          refine r_nil ?_
          refine i_round (⟨(x.1.1 + 1, (turnedB x.1.2.1 (nth plan x.1.1)).1, x.1.2.2 ++ [⟨(nth plan x.1.1).lot, (nth x.1.2.1.lots (nth plan x.1.1).lot.toNat).inn⟩]), x.2.next hr (by omega) (rt_zero x.2.kept hc3).1⟩) ?_ (by show plan.length - (x.1.1 + 1) < plan.length - x.1.1; omega)
          (refine Ent.mk' ?_ ?_ <;> (repeat' (first | exact allSub_zero | exact allTags_nil | refine allSub_succ' ?_ (Ty.sub_any _) | refine allSub_succ' ?_ (Ty.sub_refl _) | refine allSub_succ' ?_ ?_)))
          all_goals skip
          all_goals first | exact Ty.sub_sl hz2 | exact Ty.sub_int (sumUp_succ (by omega)).symm | exact Ty.sub_sl (back_step x.2.kept hlt)
      ·
        refine t_exit ?_
        refine i_then_exit ?_
        refine i_then_exit ?_
        refine i_block_exit rfl ?_
        refine i_then ?_
        refine t_seq ?_
        refine t_region ?_
        refine mvS rfl ?_
        refine mvS rfl ?_
        refine mvI rfl ?_
        refine asS rfl ?_
        refine asS rfl ?_
        refine asI rfl ?_
        refine asI rfl ?_
        refine r_nil ?_
        refine i_then ?_
        refine t_ret ?_
        refine i_rp4 rfl rfl rfl rfl rfl ?_ ?_ ?_ ?_
        all_goals skip
        all_goals first | exact ret_eq rfl rfl (congrArg (fun z : List Int × List Tur × Int × Int => Ty.int .i64 z.2.2.1) (afterR_0 hc1 (by omega) (x.2.ix.end (by omega))).symm) | exact ret_eq rfl rfl (congrArg (fun z : List Int × List Tur × Int × Int => Ty.sl I64 z.1) (afterR_0 hc1 (Nat.le_refl _) (x.2.ix.end (by omega))).symm) | exact ret_eq rfl rfl (congrArg (fun z : List Int × List Tur × Int × Int => Ty.sl TurE z.2.1) (afterR_0 hc1 (Nat.le_refl _) (x.2.ix.end (by omega))).symm) | exact ret_eq rfl rfl (congrArg (fun z : List Int × List Tur × Int × Int => Ty.int .i64 z.2.2.2) (afterR_0 hc1 (Nat.le_refl _) (x.2.ix.end (by omega))).symm)
set_option maxRecDepth 100000 in
theorem c_rMade (b : Barn) (hs : b.Small) (p : List Int) (hp : p.length ≤ b.lots.length) : Ctr Try.prog 27 [barnT b, Ty.sl I64 p] (Ty.bool (madeL b p)) := by
  refine fn_intro Try.func27 rfl (by decide) Try.ntmps27 (by exact Nat.le_of_ble_eq_true rfl) fun w0 M0 => ?_
  have hs2 := hs.lots
  refine t_seq ?_
  refine t_region ?_
  refine r_box_agg rfl ?_
  refine asB rfl ?_
  refine r_nil ?_
  refine i_then ?_
  refine t_seq ?_
  refine t_seq ?_
  refine t_region ?_
  refine asI rfl ?_
  refine r_nil ?_
  refine i_then ?_
  refine t_block ?_
  refine t_loop (fun (k : {k : Nat // ∀ j, j < k → wrongI b p j = false}) => live [(1, Ty.sl I64 p), (2, Ty.pp (barnTys b)), (5, Ty.int .i64 (k.1 : Nat))] []) (fun k => p.length - k.1) (⟨0, fun i hi => absurd hi (Nat.not_lt_zero i)⟩) ?_ fun k => ?_
  · (refine Ent.mk' ?_ ?_ <;> (repeat' (first | exact allSub_zero | exact allTags_nil | refine allSub_succ' ?_ (Ty.sub_any _) | refine allSub_succ' ?_ (Ty.sub_refl _))))
  ·
    refine t_seq ?_
    refine t_seq ?_
    refine t_region ?_
    refine mvI rfl ?_
    refine mvS rfl ?_
    refine r_len rfl rfl rfl ?_
    refine r_bin rfl rfl rfl ?_
    refine r_nil ?_
    refine i_then ?_
    refine t_cond_dec rfl (fun hc1 => ?_) (fun hc1 => ?_)
    ·
      refine t_skip ?_
      refine i_then ?_
      refine t_seq ?_
      refine t_block ?_
      refine t_seq ?_
      refine t_draw mixed rfl ?_
      refine r_field_pp rfl rfl rfl rfl rfl (by decide) ?_
      refine r_load_pp rfl rfl rfl rfl ?_
      refine mvI rfl ?_
      refine r_index_slN rfl rfl rfl rfl rfl rfl (by omega) ?_
      refine r_field_pp rfl rfl rfl rfl rfl (by decide) ?_
      refine r_load_pp rfl rfl rfl rfl ?_
      refine r_bin rfl rfl rfl ?_
      refine mvB rfl ?_
      apply r_guard (s := 19) rfl rfl rfl
      · intro hg; apply opT_of; (refine r_field_pp rfl rfl rfl rfl rfl (by decide) ?_); refine r_nil ?_; exact rfl
      · exact rfl
      · exact rfl
      apply r_guard (s := 19) rfl rfl rfl
      · intro hg; apply opT_strip (s := 20) rfl (by (rw [hg]; rfl)); apply opT_of; (refine r_load_pp rfl rfl rfl rfl ?_); refine r_nil ?_; exact rfl
      · exact rfl
      · exact rfl
      apply r_guard (s := 19) rfl rfl rfl
      · intro hg; apply opT_of; (refine mvI rfl ?_); refine r_nil ?_; exact rfl
      · exact rfl
      · exact rfl
      apply r_guard (s := 19) rfl rfl rfl
      · intro hg; apply opT_strip (s := 21) rfl (by (rw [hg]; rfl)); apply opT_strip (s := 22) rfl (by (rw [hg]; rfl)); apply opT_of; (refine r_index_slN rfl rfl rfl rfl rfl rfl (by omega) ?_); refine r_nil ?_; exact rfl
      · exact rfl
      · exact rfl
      apply r_guard (s := 19) rfl rfl rfl
      · intro hg; apply opT_strip (s := 23) rfl (by (rw [hg]; rfl)); apply opT_of; (refine r_field_pp rfl rfl rfl rfl rfl (by decide) ?_); refine r_nil ?_; exact rfl
      · exact rfl
      · exact rfl
      apply r_guard (s := 19) rfl rfl rfl
      · intro hg; apply opT_strip (s := 24) rfl (by (rw [hg]; rfl)); apply opT_of; (refine r_load_pp rfl rfl rfl rfl ?_); refine r_nil ?_; exact rfl
      · exact rfl
      · exact rfl
      apply r_guard (s := 19) rfl rfl rfl
      · intro hg; apply opT_of; (refine mvS rfl ?_); refine r_nil ?_; exact rfl
      · exact rfl
      · exact rfl
      apply r_guard (s := 19) rfl rfl rfl
      · intro hg; apply opT_of; (refine mvI rfl ?_); refine r_nil ?_; exact rfl
      · exact rfl
      · exact rfl
      apply r_guard (s := 19) rfl rfl rfl
      · intro hg; apply opT_strip (s := 26) rfl (by (rw [hg]; rfl)); apply opT_strip (s := 27) rfl (by (rw [hg]; rfl)); apply opT_of; (refine r_index_slN rfl rfl rfl rfl rfl rfl (by omega) ?_); refine r_nil ?_; exact rfl
      · exact rfl
      · exact rfl
      apply r_guard (s := 19) rfl rfl rfl
      · intro hg; apply opT_strip (s := 28) rfl (by (rw [hg]; rfl)); apply opT_of; (refine r_load_pp rfl rfl rfl rfl ?_); refine r_nil ?_; exact rfl
      · exact rfl
      · exact rfl
      apply r_guard (s := 19) rfl rfl rfl
      · intro hg; apply opT_strip (s := 25) rfl (by (rw [hg]; rfl)); apply opT_strip (s := 29) rfl (by (rw [hg]; rfl)); apply opT_of; (refine r_bin rfl rfl rfl ?_); refine r_nil ?_; exact rfl
      · exact rfl
      · exact rfl
      refine r_and rfl rfl ?_
      refine r_nil ?_
      refine ⟨by kernel_rfl, ?_⟩
      refine i_then ?_
      refine t_cond rfl (fun hc2 => ?_) (fun hc2 => ?_)
      ·
        refine t_seq ?_
        refine t_region ?_
        refine asB rfl ?_
        refine r_nil ?_
        refine i_then ?_
        refine t_ret ?_
        refine i_block_ret ?_
        refine i_then_ret ?_
        refine i_then_ret ?_
        refine i_block_ret ?_
        refine i_then_ret ?_
        refine i_rp1 rfl rfl ?_
        all_goals skip
        all_goals exact ret_eq rfl rfl (congrArg Ty.bool (by unfold madeL; rw [rng_at (q := wrongI b p) (k := k.1) (by omega) hc2]; rfl))
      ·
        refine t_skip ?_
        refine i_block ?_
        refine i_then ?_
        refine t_region ?_
        refine mvI rfl ?_
        refine r_add rfl rfl (by omega) (by omega) ?_
        refine asI rfl ?_
        refine r_nil ?_
        refine i_round (⟨k.1 + 1, rng_ext k.2 hc2⟩) ?_ (by show p.length - (k.1 + 1) < p.length - k.1; omega)
        (refine Ent.mk' ?_ ?_ <;> (repeat' (first | exact allSub_zero | exact allTags_nil | refine allSub_succ' ?_ (Ty.sub_any _) | refine allSub_succ' ?_ (Ty.sub_refl _))))
        all_goals skip
    ·
      refine t_exit ?_
      refine i_then_exit ?_
      refine i_then_exit ?_
      refine i_block_exit rfl ?_
      refine i_then ?_
      refine t_seq ?_
      refine t_region ?_
      refine asB rfl ?_
      refine r_nil ?_
      refine i_then ?_
      refine t_ret ?_
      refine i_rp1 rfl rfl ?_
      all_goals skip
      all_goals exact ret_eq rfl rfl (congrArg Ty.bool (by unfold madeL; rw [rng_neg (q := wrongI b p) k.2 (by omega)]; rfl))
set_option maxRecDepth 100000 in
theorem c_plans (l : List Tur) (h : l.length ≤ 400000000) : Ctr Try.prog 26 [Ty.sl TurE l] (Ty.sl TurE l) := by
  refine fn_intro Try.func26 rfl (by decide) Try.ntmps26 (by exact Nat.le_of_ble_eq_true rfl) fun w0 M0 => ?_
  refine t_seq ?_
  refine t_region ?_
  refine asX rfl ?_
  refine r_nil ?_
  refine i_then ?_
  refine t_seq ?_
  refine t_region ?_
  refine asX rfl ?_
  refine r_nil ?_
  refine i_then ?_
  refine t_seq ?_
  refine t_seq ?_
  refine t_region ?_
  refine mvS rfl ?_
  refine r_len rfl rfl rfl ?_
  refine mvI rfl ?_
  refine r_nil ?_
  refine i_then ?_
  refine t_block ?_
  refine t_loop (fun (k : {k : Nat // k ≤ l.length}) => live [(3, Ty.row TurE 65 16 (l.take k.1)), (6, Ty.sl TurE l), (7, Ty.int .i64 l.length), (8, Ty.int .i64 (k.1 : Nat))] []) (fun k => l.length - k.1) (⟨0, by omega⟩) ?_ fun k => ?_
  · (refine Ent.mk' ?_ ?_ <;> (repeat' (first | exact allSub_zero | exact allTags_nil | refine allSub_succ' ?_ (Ty.sub_any _) | refine allSub_succ' ?_ (Ty.sub_refl _) | refine allSub_succ' ?_ Ty.nil_row)))
    all_goals trace_state
  ·
    have hk := k.2
    refine t_seq ?_
    refine t_region ?_
    refine r_bin rfl rfl rfl ?_
    refine r_nil ?_
    refine i_then ?_
    refine t_seq ?_
    refine t_cond_dec rfl (fun hc1 => ?_) (fun hc1 => ?_)
    ·
      refine t_skip ?_
      refine i_then ?_
      refine t_seq ?_
      refine t_block ?_
      refine t_seq ?_
      refine t_region ?_
      refine r_index_slN rfl rfl rfl rfl rfl rfl (by omega) ?_
      refine r_load_ppN rfl rfl rfl (by exact Nat.le_of_ble_eq_true rfl) ?_
      refine r_alloc rfl (by exact List.cons_ne_nil _ _) rfl ?_
      refine r_storeN rfl rfl (by decide) rfl rfl rfl rfl rfl rfl ?_
      refine r_nil ?_
      refine i_then ?_
      refine t_region ?_
      refine mvR rfl ?_
      refine r_load_ptrN rfl rfl (by decide) rfl rfl (by exact Nat.le_of_ble_eq_true rfl) ?_
      refine r_buildSlice (E := TurE) (xs := [nth l k.1]) rfl rfl rfl rfl rfl (by decide) (by decide) (by repeat (first | exact (Parts.nil : Parts _ _ [] _) | (show Parts _ _ ((_, _) :: _) _; apply Parts.agg; (· exact (rfl : _ = Ty.agg _))))) (by exact rfl) rfl ?_
      refine r_append rfl rfl (by decide) rfl rfl rfl rfl rfl rfl (by decide) (by (simp <;> omega)) (by (simp <;> omega)) ?_
      refine asR rfl ?_
      refine r_nil ?_
      refine i_block ?_
      refine i_then ?_
      refine t_region ?_
      refine r_add rfl rfl (by omega) (by omega) ?_
      refine mvI rfl ?_
      refine r_nil ?_
      refine i_round (⟨k.1 + 1, by omega⟩) ?_ (by show l.length - (k.1 + 1) < l.length - k.1; omega)
      (refine Ent.mk' ?_ ?_ <;> (repeat' (first | exact allSub_zero | exact allTags_nil | refine allSub_succ' ?_ (Ty.sub_any _) | refine allSub_succ' ?_ (Ty.sub_refl _) | refine allSub_succ' ?_ ?_)))
      all_goals exact Ty.sub_row (take_nth (by omega)).symm
    ·
      refine t_exit ?_
      refine i_then_exit ?_
      refine i_then_exit ?_
      refine i_block_exit rfl ?_
      refine i_then ?_
      refine t_seq ?_
      refine t_region ?_
      refine mvR rfl ?_
      refine asR rfl ?_
      refine r_nil ?_
      refine i_then ?_
      refine t_ret ?_
      refine i_rp1 rfl rfl ?_
      all_goals skip
      all_goals exact ret_row_eq (by decide) (List.take_of_length_le (by have := k.2; omega))
end Go.Proofs.Ytpnndljmhpepgaa

namespace Go.Proofs.Ytpnndljmhpepgaa
open Go Go.T
variable {b cur : Barn} {plan : List Tur}
structure Like (b cur : Barn) : Prop where
  sizes : cur.sizes = b.sizes
  len : cur.lots.length = b.lots.length
  lot : ∀ i, i < b.lots.length → (nth cur.lots i).sacks = (nth b.lots i).sacks ∧ (nth cur.lots i).aim = (nth b.lots i).aim
theorem like_refl (b : Barn) : Like b b := ⟨rfl, rfl, fun _ _ => ⟨rfl, rfl⟩⟩
theorem like_turn (h : Like b cur) {t : Tur} (h0 : (turnedB cur t).2 = 0) : Like b (turnedB cur t).1 := by
  obtain ⟨h1, _, _, _, e⟩ := turned_err h0
  rw [e]
  refine ⟨h.sizes, by show (lotsTo cur t).length = _; unfold lotsTo; rw [List.length_set]; exact h.len, fun i hi => ?_⟩
  show (nth (lotsTo cur t) i).sacks = _ ∧ (nth (lotsTo cur t) i).aim = _
  unfold lotsTo
  rw [nthA_set (by rw [h.len]; exact hi)]
  by_cases c : t.lot.toNat = i
  · rw [if_pos c, ← c]
    have := h.lot t.lot.toNat (by omega)
    exact this
  · rw [if_neg c]; exact h.lot i hi
theorem done_like : ∀ (l : List Tur) {cur : Barn} (back : List Tur), Like b cur → (doneGo cur back l).2.2 = 0 → Like b (doneGo cur back l).1
  | [], _, _, h, _ => h
  | t :: l, cur, back, h, he => by
    have hd : doneGo cur back (t :: l) = if (turnedB cur t).2 = 0 then doneGo (turnedB cur t).1 (back ++ [⟨t.lot, (nth cur.lots t.lot.toNat).inn⟩]) l else (noB, [], (turnedB cur t).2) := rfl
    rw [hd] at he ⊢
    by_cases c : (turnedB cur t).2 = 0
    · rw [if_pos c] at he ⊢; exact done_like l _ (like_turn h c) he
    · rw [if_neg c] at he; exact absurd he c
theorem done_no : ∀ (l : List Tur) (cur : Barn) (back : List Tur), ¬ (doneGo cur back l).2.2 = 0 → (doneGo cur back l).1 = noB ∧ (doneGo cur back l).2.1 = []
  | [], _, _, h => absurd rfl h
  | t :: l, cur, back, he => by
    have hd : doneGo cur back (t :: l) = if (turnedB cur t).2 = 0 then doneGo (turnedB cur t).1 (back ++ [⟨t.lot, (nth cur.lots t.lot.toNat).inn⟩]) l else (noB, [], (turnedB cur t).2) := rfl
    rw [hd] at he ⊢
    by_cases c : (turnedB cur t).2 = 0
    · rw [if_pos c] at he ⊢; exact done_no l _ _ he
    · rw [if_neg c]; exact ⟨rfl, rfl⟩
theorem pl_no (h : ¬ (doneV b plan).2.2 = 0) : (doneV b plan).1 = noB ∧ (doneV b plan).2.1 = [] := by
  by_cases c : checkB b = 0
  · by_cases c2 : (plan.length : Int) > 6000
    · rw [doneV_long c c2]; exact ⟨rfl, rfl⟩
    · rw [doneV_go c c2 rfl] at h ⊢; exact done_no _ _ _ h
  · rw [doneV_bad c]; exact ⟨rfl, rfl⟩
theorem pl_err (h0 : checkB b = 0) : (afterR b plan).2.2.2 = (doneV b plan).2.2 := by
  unfold afterR
  by_cases c2 : (plan.length : Int) > 6000
  · rw [if_pos c2, doneV_long h0 c2]
  · rw [if_neg c2, doneV_go h0 c2 rfl]
    by_cases c : (doneGo b [] plan).2.2 = 0
    · rw [if_pos c, c]
    · rw [if_neg c]
theorem pl_back (h0 : checkB b = 0) : (afterR b plan).2.1 = (doneV b plan).2.1 := by
  unfold afterR
  by_cases c2 : (plan.length : Int) > 6000
  · rw [if_pos c2, doneV_long h0 c2]
  · rw [if_neg c2, doneV_go h0 c2 rfl]
    by_cases c : (doneGo b [] plan).2.2 = 0
    · rw [if_pos c]
    · rw [if_neg c]; exact (done_no _ _ _ c).2.symm
theorem pl_sum (h0 : checkB b = 0) : (afterR b plan).2.2.1 = (sackV b plan).1 := by
  unfold afterR sackV
  by_cases c2 : (plan.length : Int) > 6000
  · rw [if_pos c2, doneV_long h0 c2]; rfl
  · rw [if_neg c2, doneV_go h0 c2 rfl]
    by_cases c : (doneGo b [] plan).2.2 = 0
    · rw [if_pos c, if_pos c]
    · rw [if_neg c, if_neg c]
theorem pl_sumE (b : Barn) (plan : List Tur) : (sackV b plan).2 = (doneV b plan).2.2 := by
  unfold sackV
  by_cases c : (doneV b plan).2.2 = 0
  · rw [if_pos c, c]
  · rw [if_neg c]
theorem pl_ok (h0 : checkB b = 0) (he : (doneV b plan).2.2 = 0) : (afterR b plan).1 = innL (doneV b plan).1 ∧ Like b (doneV b plan).1 := by
  unfold afterR
  by_cases c2 : (plan.length : Int) > 6000
  · rw [doneV_long h0 c2] at he; cases he
  · rw [doneV_go h0 c2 rfl] at he
    rw [if_neg c2, doneV_go h0 c2 rfl, if_pos he]
    exact ⟨rfl, done_like _ _ (like_refl b) he⟩
theorem pl_made (hr : b.Right) (h : Like b cur) : madeL b (innL cur) = rightB cur := by
  have hl : (innL cur).length = cur.lots.length := by unfold innL; rw [List.length_map]
  unfold madeL rightB
  rw [Bool.eq_iff_iff, Bool.not_eq_true', List.any_eq_false, List.all_eq_true]
  have key : ∀ i, i < cur.lots.length → (¬ wrongI b (innL cur) i = true ↔ (decide ((nth cur.lots i).aim = -1) || decide ((nth cur.lots i).aim = (nth cur.lots i).inn)) = true) := fun i hi => by
    have hi' : i < b.lots.length := by rw [← h.len]; exact hi
    have ha := hr.aim _ (nth_mem hi')
    rw [(h.lot i hi').2]
    unfold wrongI
    rw [innL_nth hi]
    simp only [Bool.and_eq_true, Bool.not_eq_true', decide_eq_true_eq, decide_eq_false_iff_not, Bool.or_eq_true]
    constructor
    · intro hn
      by_cases c : (nth b.lots i).aim = -1
      · exact .inl c
      · exact .inr (Classical.byContradiction fun e => hn ⟨by omega, e⟩)
    · rintro (e | e) ⟨h1, h2⟩
      · omega
      · exact h2 e
  constructor
  · intro hh x hx
    obtain ⟨i, hi, rfl⟩ := mem_nth hx
    exact (key i hi).1 (hh i (List.mem_range.2 (by rw [hl]; exact hi)))
  · intro hh i hi
    have hi := List.mem_range.1 hi
    rw [hl] at hi
    exact (key i hi).2 (hh _ (nth_mem hi))
theorem pl_makes (h0 : checkB b = 0) (he : (doneV b plan).2.2 = 0) : madeL b (innL (doneV b plan).1) = makesB b plan := by
  rw [pl_made (check_right h0) (pl_ok h0 he).2]
  unfold makesB
  rw [decide_eq_true he, Bool.true_and]
theorem pl_makesN (he : ¬ (doneV b plan).2.2 = 0) : false = makesB b plan := by
  unfold makesB; rw [decide_eq_false he, Bool.false_and]
def putUp (b : Barn) (p : List Int) (k : Nat) : List Lot := (List.range b.lots.length).map fun i => if i < k then ⟨(nth b.lots i).sacks, nth p i, (nth b.lots i).aim⟩ else nth b.lots i
theorem putUp_len (b : Barn) (p : List Int) (k : Nat) : (putUp b p k).length = b.lots.length := by unfold putUp; rw [List.length_map, List.length_range]
theorem putUp_nth {p : List Int} {k i : Nat} (hi : i < b.lots.length) : nth (putUp b p k) i = if i < k then ⟨(nth b.lots i).sacks, nth p i, (nth b.lots i).aim⟩ else nth b.lots i := by
  rw [nth_lt (by rw [putUp_len]; exact hi)]; unfold putUp; rw [List.getElem_map, List.getElem_range]
theorem putUp_zero (b : Barn) (p : List Int) : b.lots = putUp b p 0 := ext_nth (putUp_len b p 0).symm fun i hi => by rw [putUp_nth hi, if_neg (by omega)]
theorem putUp_succ {p : List Int} {k : Nat} (hk : k < b.lots.length) : (putUp b p k).set k ⟨(nth (putUp b p k) k).sacks, nth p k, (nth (putUp b p k) k).aim⟩ = putUp b p (k + 1) := by
  refine ext_nth (by rw [List.length_set, putUp_len, putUp_len]) fun i hi => ?_
  rw [List.length_set, putUp_len] at hi
  rw [nthA_set (by rw [putUp_len]; exact hi), putUp_nth hi, putUp_nth hi, putUp_nth hk]
  by_cases c : k = i
  · subst c; rw [if_pos rfl, if_neg (by omega), if_pos (by omega)]
  · rw [if_neg c]
    by_cases c2 : i < k
    · rw [if_pos c2, if_pos (by omega)]
    · rw [if_neg c2, if_neg (by omega)]
theorem putUp_all (h : Like b cur) {k : Nat} (hk : b.lots.length ≤ k) : putUp b (innL cur) k = cur.lots := by
  refine ext_nth (by rw [putUp_len, h.len]) fun i hi => ?_
  rw [putUp_len] at hi
  rw [putUp_nth hi, if_pos (by omega), innL_nth (by rw [h.len]; exact hi), ← (h.lot i hi).1, ← (h.lot i hi).2]
end Go.Proofs.Ytpnndljmhpepgaa

namespace Go.T
open Go Go.RowKit
section
variable {P : Program} {fr : Fr} {A : As}
theorem i_pubC {R : Act → World → Prop} {tg : Nat} (l : List (Nat × Ty)) (lt : List (Nat × Cont)) (h1 : 1 ≤ tg) (hp : fr.pass.contains tg = false) (hl : AllPub A tg l) (hlt : AllC A tg lt) (h : Into fr ⟨(A.pub tg l).slots, lt ++ (A.pub tg l).tags⟩ R) : Into fr A R := fun a w ⟨M, ok, hsl, ht⟩ => by
  have le : Le (· ∈ ([] : List Nat)) (· ∈ [tg]) w M w (pubTag M tg) := pubTag_le
  refine h a w ⟨pubTag M tg, ⟨pubTag_wf ok.wf, Fr.base_step ok.base (by intro _ h; cases h) (fun t ht => by simp only [List.mem_singleton] at ht; subst ht; exact ⟨h1, by simpa using hp⟩) le, ok.size, ok.defers.step (by intro _ h; cases h) (fun t ht => by simp only [List.mem_singleton] at ht; subst ht; exact h1) le⟩, fun i hi => ?_, fun x hx => ?_⟩
  · have base : (killSlots [] [tg] A.slots i).den w (pubTag M tg) (a.tmps.getD i undef) := by
      rcases killSlots_spec [] [tg] A.slots i with ⟨e, hdj⟩ | ⟨_, e⟩
      · rw [e]; exact (A.slots i).mono le (safe_spec hdj).1 (safe_spec hdj).2 (hsl i hi)
      · rw [e]; trivial
    show (setL l (killSlots [] [tg] A.slots) i).den _ _ _
    clear h
    induction l with
    | nil => exact base
    | cons x l ih =>
      obtain ⟨d, t⟩ := x
      unfold setL
      cases hb : Nat.beq i d with
      | false => simp only [cond_false]; exact ih hl.2
      | true =>
        have : i = d := Nat.eq_of_beq_eq_true hb
        subst this
        simp only [cond_true]
        exact hl.1 w M _ ok.wf ht (hsl i hi)
  · rcases List.mem_append.1 (show x ∈ lt ++ (A.pub tg l).tags from hx) with hx | hx
    · exact allC_mem ok.wf ht hlt hx
    · exact killTags_den le hx fun y hy _ => ht y hy
end
end Go.T

namespace Go.Proofs.Ytpnndljmhpepgaa
open Go Go.T
set_option maxHeartbeats 2000000
theorem great_pl {b : Barn} {n : Int} (h : (greatV b || decide (n > 40)) = false) : b.Small ∧ n ≤ 40 := by
  rw [Bool.or_eq_false_iff, decide_eq_false_iff_not] at h
  exact ⟨small_great h.1, by omega⟩
section
variable {b : Barn} {plan : List Tur}
theorem pl_bad1 (h : ¬ checkB b = 0) : checkB b = (doneV b plan).2.2 := by rw [doneV_bad h]
theorem pl_badE (h : ¬ checkB b = 0) : ¬ (doneV b plan).2.2 = 0 := by rw [doneV_bad h]; exact h
theorem pl_badS (h : ¬ (doneV b plan).2.2 = 0) : 0 = (sackV b plan).1 := by rw [sackV_1 h]
theorem pl_nils (h : ¬ (doneV b plan).2.2 = 0) : (doneV b plan).1.sizes = [] ∧ (doneV b plan).1.lots = [] := by rw [(pl_no h).1]; exact ⟨rfl, rfl⟩
theorem back_len : ∀ (l : List Tur) (cur : Barn) (back : List Tur), (doneGo cur back l).2.1.length ≤ back.length + l.length
  | [], cur, back => by show back.reverse.length ≤ _; rw [List.length_reverse]; exact Nat.le_refl _
  | t :: l, cur, back => by
    show (if (turnedB cur t).2 = 0 then doneGo (turnedB cur t).1 (back ++ [⟨t.lot, (nth cur.lots t.lot.toNat).inn⟩]) l else (noB, [], (turnedB cur t).2)).2.1.length ≤ _
    by_cases c : (turnedB cur t).2 = 0
    · rw [if_pos c]
      have := back_len l (turnedB cur t).1 (back ++ [⟨t.lot, (nth cur.lots t.lot.toNat).inn⟩])
      rw [List.length_append, List.length_singleton] at this
      rw [List.length_cons]; omega
    · rw [if_neg c]; exact Nat.zero_le _
theorem pl_len40 (b : Barn) (plan : List Tur) (h : plan.length ≤ 1000000) : (doneV b plan).2.1.length ≤ 400000000 := by
  by_cases c : checkB b = 0
  · by_cases c2 : (plan.length : Int) > 6000
    · rw [doneV_long c c2]; exact Nat.zero_le _
    · rw [doneV_go c c2 rfl]
      have := back_len plan b []
      rw [List.length_nil] at this; omega
  · rw [doneV_bad c]; exact Nat.zero_le _
theorem pl_cut : (((((((!decide ((doneV b plan).2.2 = (doneV b plan).2.2) || !decide ((doneV b plan).2.2 = (doneV b plan).2.2)) || !decide ((doneV b plan).2.2 = (doneV b plan).2.2)) || !decide ((doneV b plan).2.2 = (doneV b plan).2.2)) || !sameV (doneV b plan).1 (doneV b plan).1) || !(makesB b plan == makesB b plan)) || !decide ((doneV b plan).2.1 = (doneV b plan).2.1)) || !decide ((sackV b plan).1 = (sackV b plan).1)) = false := by
  rw [sameV_self]; simp
end
theorem nil_slE {α : Type} {E : El α} {xs : List α} (e : xs = []) : (Ty.ex (.slice none 0 0)).Sub (Ty.sl E xs) := by subst e; exact Ty.nil_sl
attribute [local irreducible] doneV sackV makesB afterR madeL innL putUp checkB checkR sameV greatV
attribute [local irreducible] dInt dBool dSl dPp dPtr dAgg dTup dClo dAny dEx dStr dGd dCells dVec dVs dRow dOp nth Tri Into TOps Ctr bodyPost Exit.then Exit.inBlock Code.wp Code.wpIn dWhen dPa dPe dAo dArr dMp dPm dMap dCJ CtrG CtrI OpY keepPost iterPost bodyPostM roundQ
attribute [local irreducible] dRowJ dMs dFit
set_option maxRecDepth 100000 in
theorem k_After (b : Barn) (hs : b.Small) (plan : List Tur) (hp : plan.length ≤ 1000000) : CtrG Try.prog 30 [] [] [barnT b, Ty.sl TurE plan] [(70, Cont.vec I64 3 (doneV b plan).1.sizes), (71, Cont.vec LotE 57 (doneV b plan).1.lots)] (Ty.tup [Ty.agg (ownTys 70 71 (doneV b plan).1), Ty.int .i64 (doneV b plan).2.2]) := by
  refine fnG_intro Try.func30 rfl (by decide) Try.ntmps30 (by exact Nat.le_of_ble_eq_true rfl) fun w0 M0 => ?_
  refine t_seq ?_
  refine t_region ?_
  refine r_box_agg rfl ?_
  refine r_alloc rfl (by exact List.cons_ne_nil _ _) rfl ?_
  refine asI rfl ?_
  refine r_nil ?_
  refine i_then ?_
  refine t_seq ?_
  refine t_region ?_
  refine r_load_ppN rfl rfl rfl (by exact Nat.le_of_ble_eq_true rfl) ?_
  refine mvS rfl ?_
  refine r_callG (res' := Ty.tup [Ty.agg (ownTys 70 71 (doneV b plan).1), Ty.sl TurE (doneV b plan).2.1, Ty.int .i64 (doneV b plan).2.2]) [(70, 50), (71, 51)] [70, 71] [(70, Cont.vec I64 3 (doneV b plan).1.sizes), (71, Cont.vec LotE 57 (doneV b plan).1.lots)] (k_done b hs plan hp) rfl rfl (by repeat (first | exact cv_nil | refine cv_cons ?_ ?_ | refine cv_agg ?_ | exact cv_pub rfl rfl)) pre_nil (post_cons (a := 70) (b := 50) (by decide) rfl (cc_vec (by decide) rfl) (post_cons (a := 71) (b := 51) (by decide) rfl (cc_vec (by decide) rfl) post_nil)) (cv_tup (cv_cons (cv_cons (cv_cons cv_nil (cv_pub rfl rfl)) (cv_pub rfl rfl)) (cv_agg (cv_cons (cv_cons cv_nil (cv_vs (by decide))) (cv_vs (by decide)))))) ?_
  refine mvT rfl ?_
  refine r_extract rfl rfl ?_
  refine r_extract rfl rfl ?_
  refine r_extract rfl rfl ?_
  refine r_alloc rfl (by exact List.cons_ne_nil _ _) rfl ?_
  refine r_storeN rfl rfl (by decide) rfl rfl rfl rfl rfl rfl ?_
  refine asS rfl ?_
  refine asI rfl ?_
  refine r_nil ?_
  refine i_then ?_
  refine t_seq ?_
  refine t_region ?_
  refine r_load_ptrN rfl rfl (by decide) rfl rfl (by exact Nat.le_of_ble_eq_true rfl) ?_
  refine mvI rfl ?_
  refine r_storeN rfl rfl (by decide) rfl rfl rfl rfl rfl rfl ?_
  refine asI rfl ?_
  refine r_nil ?_
  refine i_then ?_
  refine t_ret ?_
  refine g_rcell2 [70, 71] rfl rfl rfl rfl rfl (by decide) rfl rfl rfl (by decide) (by repeat (first | exact rc_nil | refine rc_cons rfl (cc_vec (by decide) rfl) ?_)) ?_ ?_
  all_goals first | exact rg_cv (cv_pub rfl rfl) | skip
  all_goals exact rg_cv (cv_agg (cv_cons (cv_cons cv_nil (cv_vs (by decide))) (cv_vs (by decide))))
set_option maxRecDepth 100000 in
theorem c_TurnPlans (b : Barn) (plan : List Tur) : Ctr Try.prog 4 [barnT b, Ty.sl TurE plan] (Ty.bool true) := by
  refine fn_intro Try.func4 rfl (by decide) Try.ntmps4 (by exact Nat.le_of_ble_eq_true rfl) fun w0 M0 => ?_
  refine t_fact (s := 1) rfl rfl sl_len fun hl => ?_
  refine t_seq ?_
  refine t_region ?_
  refine r_box_agg rfl ?_
  refine asB rfl ?_
  refine r_nil ?_
  refine i_then ?_
  refine t_seq ?_
  refine t_seq ?_
  refine t_region ?_
  refine r_load_ppN rfl rfl rfl (by exact Nat.le_of_ble_eq_true rfl) ?_
  refine r_call (c_great b) rfl rfl rfl rfl rfl ?_
  refine mvB rfl ?_
  apply r_guard (s := 26) rfl rfl rfl
  · intro hg; apply opT_of; (refine mvS rfl ?_); refine r_nil ?_; exact rfl
  · exact rfl
  · exact rfl
  apply r_guard (s := 26) rfl rfl rfl
  · intro hg; apply opT_strip (s := 27) rfl (by (rw [hg]; rfl)); apply opT_of; (refine r_len rfl rfl rfl ?_); refine r_nil ?_; exact rfl
  · exact rfl
  · exact rfl
  apply r_guard (s := 26) rfl rfl rfl
  · intro hg; apply opT_strip (s := 28) rfl (by (rw [hg]; rfl)); apply opT_of; (refine r_bin rfl rfl rfl ?_); refine r_nil ?_; exact rfl
  · exact rfl
  · exact rfl
  refine r_or rfl rfl ?_
  refine r_nil ?_
  refine i_then ?_
  refine t_cond rfl (fun hc1 => ?_) (fun hc1 => ?_)
  ·
    refine t_seq ?_
    refine t_region ?_
    refine r_call (c_awake) rfl rfl rfl rfl rfl ?_
    refine asB rfl ?_
    refine r_nil ?_
    refine i_then ?_
    refine t_ret ?_
    refine i_then_ret ?_
    refine i_rp1 rfl rfl ?_
    all_goals exact ret_refl rfl rfl
    all_goals trace_state
  ·
    refine t_skip ?_
    refine i_then ?_
    refine t_seq ?_
    obtain ⟨hs, hn40⟩ := great_pl hc1
    have hs1 := hs.sizes
    have hs2 := hs.lots
    refine t_draw mixed rfl ?_
    refine r_load_ppN rfl rfl rfl (by exact Nat.le_of_ble_eq_true rfl) ?_
    refine r_call (c_Own b hs) rfl rfl rfl rfl rfl ?_
    refine r_load_ppN rfl rfl rfl (by exact Nat.le_of_ble_eq_true rfl) ?_
    refine r_call (c_theirs b hs) rfl rfl rfl rfl rfl ?_
    refine mvS rfl ?_
    refine r_call (c_Dup_tur plan (by omega)) rfl rfl rfl rfl rfl ?_
    refine r_alloc rfl (by exact List.cons_ne_nil _ _) rfl ?_
    refine r_alloc rfl (by exact List.cons_ne_nil _ _) rfl ?_
    refine r_storeN rfl rfl (by decide) rfl rfl rfl rfl rfl rfl ?_
    refine r_storeN rfl rfl (by decide) rfl rfl rfl rfl rfl rfl ?_
    refine asS rfl ?_
    refine r_nil ?_
    refine ⟨by kernel_rfl, ?_⟩
    refine i_then ?_
    refine t_seq ?_
    refine t_region ?_
    refine r_load_ptrN rfl rfl (by decide) rfl rfl (by exact Nat.le_of_ble_eq_true rfl) ?_
    refine r_call (c_rCheck b hs) rfl rfl rfl rfl rfl ?_
    refine asI rfl ?_
    refine r_nil ?_
    refine i_then ?_
    refine t_seq ?_
    refine t_as (s := 8) rfl (Ty.sub_int (check_eq b)) ?_
    refine t_region ?_
    refine asB rfl ?_
    refine asI rfl ?_
    refine r_nil ?_
    refine i_then ?_
    refine t_seq ?_
    refine t_region ?_
    refine r_alloc rfl (by exact List.cons_ne_nil _ _) rfl ?_
    refine r_nil ?_
    refine i_then ?_
    refine t_seq ?_
    refine t_region ?_
    refine asX rfl ?_
    refine r_nil ?_
    refine i_then ?_
    refine t_join (J := live [(1, Ty.sl TurE plan), (2, Ty.pp (barnTys b)), (5, Ty.ptr 6 0), (7, Ty.sl TurE plan), (8, Ty.int .i64 (doneV b plan).2.2), (9, Ty.bool (makesB b plan)), (10, Ty.int .i64 (sackV b plan).1), (11, Ty.ptr 12 0), (12, Ty.sl TurE (doneV b plan).2.1)] [(6, Cont.cells 25 (barnTys b)), (12, Cont.cells 25 (barnTys (doneV b plan).1))]) ?_ ?_
    ·
      refine t_seq ?_
      refine t_region ?_
      refine mvI rfl ?_
      refine r_bin rfl rfl rfl ?_
      refine r_nil ?_
      refine i_then ?_
      refine t_cond_dec rfl (fun hc2 => ?_) (fun hc2 => ?_)
      ·
        refine t_seq ?_
        have hr := check_right hc2
        refine t_region ?_
        refine asX rfl ?_
        refine r_nil ?_
        refine i_then ?_
        refine t_seq ?_
        refine t_draw mixed rfl ?_
        refine r_load_ptrN rfl rfl (by decide) rfl rfl (by exact Nat.le_of_ble_eq_true rfl) ?_
        refine mvS rfl ?_
        refine r_call (c_plans plan (by omega)) rfl rfl rfl rfl rfl ?_
        refine r_call (c_rAfter b hr plan) rfl rfl rfl rfl rfl ?_
        refine mvT rfl ?_
        refine r_extract rfl rfl ?_
        refine r_extract rfl rfl ?_
        refine r_extract rfl rfl ?_
        refine r_extract rfl rfl ?_
        refine asS rfl ?_
        refine asS rfl ?_
        refine asI rfl ?_
        refine asI rfl ?_
        refine r_nil ?_
        refine ⟨by kernel_rfl, ?_⟩
        refine i_then ?_
        refine t_seq ?_
        refine t_as (s := 8) rfl (Ty.sub_int (pl_err hc2)) ?_
        refine t_as (s := 10) rfl (Ty.sub_int (pl_sum hc2)) ?_
        refine t_as (s := 12) rfl (Ty.sub_sl (pl_back hc2)) ?_
        refine t_forget (B := live [(1, Ty.sl TurE plan), (2, Ty.pp (barnTys b)), (5, Ty.ptr 6 0), (6, Ty.ptr 7 0), (7, Ty.sl TurE plan), (8, Ty.int .i64 (doneV b plan).2.2), (9, Ty.bool false), (10, Ty.int .i64 (sackV b plan).1), (11, Ty.ptr 12 0), (12, Ty.sl TurE (doneV b plan).2.1), (13, Ty.sl I64 (afterR b plan).1)] [(6, Cont.cells 25 (barnTys b)), (7, Cont.cells 31 (barnTys b)), (12, Cont.cells 25 [Ty.ex (.slice none 0 0), Ty.ex (.slice none 0 0)])]) ?_ ?_
        · (refine Ent.mk' ?_ ?_ <;> (repeat' (first | exact allSub_zero | exact allTags_nil | refine allSub_succ' ?_ (Ty.sub_any _) | refine allSub_succ' ?_ (Ty.sub_refl _) | refine allTags_cons rfl (Cont.sub_refl _) ?_)))
        refine t_region ?_
        refine mvI rfl ?_
        refine r_bin rfl rfl rfl ?_
        refine r_nil ?_
        refine i_then ?_
        refine t_cond_dec rfl (fun hc3 => ?_) (fun hc3 => ?_)
        ·
          refine t_seq ?_
          obtain ⟨hpi, hlk⟩ := pl_ok hc2 hc3
          have hil : (innL (doneV b plan).1).length = b.lots.length := by rw [← hlk.len]; unfold innL; rw [List.length_map]
          refine t_as (s := 13) rfl (Ty.sub_sl hpi) ?_
          refine t_draw mixed rfl ?_
          refine r_load_ppN rfl rfl rfl (by exact Nat.le_of_ble_eq_true rfl) ?_
          refine r_callG (res' := Ty.agg [Ty.sl I64 b.sizes, Ty.row LotE 57 149 b.lots]) [(149, 9)] [149] [] (k_OwnL b hs) rfl rfl (by repeat (first | exact cv_nil | refine cv_cons ?_ ?_ | exact cv_pub rfl rfl)) pre_nil post_nil (cv_agg (cv_cons (cv_cons cv_nil (cv_row (by decide))) (cv_pub rfl rfl))) ?_
          refine r_load_ptrN rfl rfl (by decide) rfl rfl (by exact Nat.le_of_ble_eq_true rfl) ?_
          refine mvS rfl ?_
          refine r_call (c_rMade b hs (innL (doneV b plan).1) (Nat.le_of_eq hil)) rfl rfl rfl rfl rfl ?_
          refine r_storeN rfl rfl (by decide) rfl rfl rfl rfl rfl rfl ?_
          refine asB rfl ?_
          refine r_nil ?_
          refine ⟨by kernel_rfl, ?_⟩
          refine i_then ?_
          refine t_seq ?_
          refine t_as (s := 9) rfl (Ty.sub_bool (pl_makes hc2 hc3)) ?_
          refine t_ownCell (c0 := 12) 1 rfl rfl ?_
          refine t_asC (tg := 12) rfl (Cont.sub_cellsL (l' := [Ty.sl I64 b.sizes, Ty.vs 149 b.lots.length]) ⟨Ty.sub_refl _, Ty.row_vs rfl, trivial⟩) ?_
          refine t_asC (tg := 149) rfl (Cont.sub_vec (putUp_zero b (innL (doneV b plan).1))) ?_
          refine t_forget (B := live [(1, Ty.sl TurE plan), (2, Ty.pp (barnTys b)), (5, Ty.ptr 6 0), (7, Ty.sl TurE plan), (8, Ty.int .i64 (doneV b plan).2.2), (9, Ty.bool (makesB b plan)), (10, Ty.int .i64 (sackV b plan).1), (11, Ty.ptr 12 0), (12, Ty.sl TurE (doneV b plan).2.1), (13, Ty.sl I64 (innL (doneV b plan).1))] [(6, Cont.cells 25 (barnTys b)), (12, Cont.cells 25 [Ty.sl I64 b.sizes, Ty.vs 149 b.lots.length]), (149, Cont.vec LotE 57 (putUp b (innL (doneV b plan).1) 0))]) ?_ ?_
          · (refine Ent.mk' ?_ ?_ <;> (repeat' (first | exact allSub_zero | exact allTags_nil | refine allSub_succ' ?_ (Ty.sub_any _) | refine allSub_succ' ?_ (Ty.sub_refl _) | refine allTags_cons rfl (Cont.sub_refl _) ?_)))
          refine t_region ?_
          refine mvS rfl ?_
          refine r_len rfl rfl rfl ?_
          refine mvI rfl ?_
          refine r_nil ?_
          refine i_then ?_
          refine t_block ?_
          refine t_loop (fun (k : {k : Nat // k ≤ (innL (doneV b plan).1).length}) => live [(1, Ty.sl TurE plan), (2, Ty.pp (barnTys b)), (5, Ty.ptr 6 0), (7, Ty.sl TurE plan), (8, Ty.int .i64 (doneV b plan).2.2), (9, Ty.bool (makesB b plan)), (10, Ty.int .i64 (sackV b plan).1), (11, Ty.ptr 12 0), (12, Ty.sl TurE (doneV b plan).2.1), (58, Ty.sl I64 (innL (doneV b plan).1)), (59, Ty.int .i64 (innL (doneV b plan).1).length), (60, Ty.int .i64 (k.1 : Nat))] [(6, Cont.cells 25 (barnTys b)), (12, Cont.cells 25 [Ty.sl I64 b.sizes, Ty.vs 149 b.lots.length]), (149, Cont.vec LotE 57 (putUp b (innL (doneV b plan).1) k.1))]) (fun k => (innL (doneV b plan).1).length - k.1) (⟨0, by omega⟩) ?_ fun k => ?_
          · (refine Ent.mk' ?_ ?_ <;> (repeat' (first | exact allSub_zero | exact allTags_nil | refine allSub_succ' ?_ (Ty.sub_any _) | refine allSub_succ' ?_ (Ty.sub_refl _) | refine allTags_cons rfl (Cont.sub_refl _) ?_)))
            all_goals trace_state
          ·
            have hk := k.2
            have hpul := putUp_len b (innL (doneV b plan).1) k.1
            refine t_seq ?_
            refine t_region ?_
            refine r_bin rfl rfl rfl ?_
            refine r_nil ?_
            refine i_then ?_
            refine t_seq ?_
            refine t_cond_dec rfl (fun hc4 => ?_) (fun hc4 => ?_)
            ·
              refine t_skip ?_
              refine i_then ?_
              refine t_seq ?_
              refine t_block ?_
              refine t_seq ?_
              refine t_region ?_
              refine mvI rfl ?_
              refine r_index_slN rfl rfl rfl rfl rfl rfl (by omega) ?_
              refine r_load_pp rfl rfl rfl rfl ?_
              refine asI rfl ?_
              refine asI rfl ?_
              refine r_nil ?_
              refine i_then ?_
              refine t_region ?_
              refine r_field_ptr rfl rfl rfl rfl rfl (by decide) ?_
              refine r_load_ptr rfl rfl (by decide) rfl rfl rfl ?_
              refine mvI rfl ?_
              refine mvI rfl ?_
              refine r_index_vsI rfl rfl rfl rfl rfl (by omega) (by omega) ?_
              refine r_field_ptr rfl rfl rfl rfl rfl (by decide) ?_
              refine r_store_vecC (E := LotE) (z := ⟨(nth (putUp b (innL (doneV b plan).1) k.1) k.1).sacks, nth (innL (doneV b plan).1) k.1, (nth (putUp b (innL (doneV b plan).1) k.1) k.1).aim⟩) rfl rfl rfl (by decide) rfl rfl (by exact (rfl : _ = Ty.int _ _)) rfl (by omega) (by decide) rfl rfl ?_
              refine r_nil ?_
              refine i_block ?_
              refine i_then ?_
              refine t_region ?_
              refine r_add rfl rfl (by omega) (by omega) ?_
              refine mvI rfl ?_
              refine r_nil ?_
              refine i_round (⟨k.1 + 1, by omega⟩) ?_ (by show (innL (doneV b plan).1).length - (k.1 + 1) < (innL (doneV b plan).1).length - k.1; omega)
              (refine Ent.mk' ?_ ?_ <;> (repeat' (first | exact allSub_zero | exact allTags_nil | refine allSub_succ' ?_ (Ty.sub_any _) | refine allSub_succ' ?_ (Ty.sub_refl _) | refine allTags_cons rfl (Cont.sub_refl _) ?_ | refine allTags_cons rfl ?_ ?_)))
              all_goals skip
              all_goals exact Cont.sub_vec (putUp_succ (by omega))
            ·
              refine t_exit ?_
              refine i_then_exit ?_
              refine i_then_exit ?_
              refine i_block_exit rfl ?_
              refine i_pubC (tg := 149) [] [(12, Cont.cells 25 (barnTys ⟨b.sizes, putUp b (innL (doneV b plan).1) k.1⟩))] (by decide) rfl trivial ⟨pubC_cells rfl rfl ⟨pubTy_same rfl, pubTy_vs rfl (putUp_len b _ _) (by decide), trivial⟩, trivial⟩ ?_
              refine i_join ?_
              (refine Ent.mk' ?_ ?_ <;> (repeat' (first | exact allSub_zero | exact allTags_nil | exact subs_nil | refine allSub_succ' ?_ (Ty.sub_any _) | refine allSub_succ' ?_ (Ty.sub_refl _) | refine allTags_cons rfl (Cont.sub_refl _) ?_ | refine allTags_cons rfl (Cont.sub_subs ?_) ?_ | refine subs_cons ?_ ?_)))
              all_goals first | exact Ty.sub_sl hlk.sizes.symm | exact Ty.sub_sl (putUp_all hlk (by omega))
        ·
          refine t_skip ?_
          skip
          refine i_join ?_
          (refine Ent.mk' ?_ ?_ <;> (repeat' (first | exact allSub_zero | exact allTags_nil | exact subs_nil | refine allSub_succ' ?_ (Ty.sub_any _) | refine allSub_succ' ?_ (Ty.sub_refl _) | refine allTags_cons rfl (Cont.sub_refl _) ?_ | refine allTags_cons rfl (Cont.sub_subs ?_) ?_ | refine subs_cons ?_ ?_ | refine allSub_succ' ?_ ?_)))
          all_goals first | exact Ty.sub_bool (pl_makesN hc3) | exact nil_slE (pl_nils hc3).1 | exact nil_slE (pl_nils hc3).2
      ·
        refine t_skip ?_
        skip
        refine i_join ?_
        (refine Ent.mk' ?_ ?_ <;> (repeat' (first | exact allSub_zero | exact allTags_nil | exact subs_nil | refine allSub_succ' ?_ (Ty.sub_any _) | refine allSub_succ' ?_ (Ty.sub_refl _) | refine allTags_cons rfl (Cont.sub_refl _) ?_ | refine allTags_cons rfl (Cont.sub_subs ?_) ?_ | refine subs_cons ?_ ?_ | refine allSub_succ' ?_ ?_)))
        all_goals first | exact Ty.sub_int (pl_bad1 hc2) | exact Ty.sub_bool (pl_makesN (pl_badE hc2)) | exact Ty.sub_int (pl_badS (pl_badE hc2)) | exact nil_slE (pl_no (pl_badE hc2)).2 | exact nil_slE (pl_nils (pl_badE hc2)).1 | exact nil_slE (pl_nils (pl_badE hc2)).2
    ·
      refine t_seq ?_
      refine t_region ?_
      refine r_load_ptrN rfl rfl (by decide) rfl rfl (by exact Nat.le_of_ble_eq_true rfl) ?_
      refine mvS rfl ?_
      refine r_callG (res' := Ty.tup [Ty.agg (ownTys 971 972 (doneV b plan).1), Ty.int .i64 (doneV b plan).2.2]) [(971, 70), (972, 71)] [971, 972] [(971, Cont.vec I64 3 (doneV b plan).1.sizes), (972, Cont.vec LotE 57 (doneV b plan).1.lots)] (k_After b hs plan (by omega)) rfl rfl (by repeat (first | exact cv_nil | refine cv_cons ?_ ?_ | refine cv_agg ?_ | exact cv_pub rfl rfl)) pre_nil (post_cons (a := 971) (b := 70) (by decide) rfl (cc_vec (by decide) rfl) (post_cons (a := 972) (b := 71) (by decide) rfl (cc_vec (by decide) rfl) post_nil)) (cv_tup (cv_cons (cv_cons cv_nil (cv_pub rfl rfl)) (cv_agg (cv_cons (cv_cons cv_nil (cv_vs (by decide))) (cv_vs (by decide)))))) ?_
      refine mvT rfl ?_
      refine r_extract rfl rfl ?_
      refine r_extract rfl rfl ?_
      refine r_alloc rfl (by exact List.cons_ne_nil _ _) rfl ?_
      refine r_storeN rfl rfl (by decide) rfl rfl rfl rfl rfl rfl ?_
      refine asI rfl ?_
      refine r_nil ?_
      refine i_then ?_
      refine t_seq ?_
      refine t_region ?_
      refine r_load_ptrN rfl rfl (by decide) rfl rfl (by exact Nat.le_of_ble_eq_true rfl) ?_
      refine mvS rfl ?_
      refine r_call (c_Makes b hs plan (by omega)) rfl rfl rfl rfl rfl ?_
      refine mvT rfl ?_
      refine r_extract rfl rfl ?_
      refine r_extract rfl rfl ?_
      refine asB rfl ?_
      refine asI rfl ?_
      refine r_nil ?_
      refine i_then ?_
      refine t_seq ?_
      refine t_region ?_
      refine r_load_ptrN rfl rfl (by decide) rfl rfl (by exact Nat.le_of_ble_eq_true rfl) ?_
      refine mvS rfl ?_
      refine r_call (c_Back b hs plan (by omega)) rfl rfl rfl rfl rfl ?_
      refine mvT rfl ?_
      refine r_extract rfl rfl ?_
      refine r_extract rfl rfl ?_
      refine asS rfl ?_
      refine asI rfl ?_
      refine r_nil ?_
      refine i_then ?_
      refine t_seq ?_
      refine t_region ?_
      refine r_load_ptrN rfl rfl (by decide) rfl rfl (by exact Nat.le_of_ble_eq_true rfl) ?_
      refine mvS rfl ?_
      refine r_call (c_Sacks b hs plan (by omega)) rfl rfl rfl rfl rfl ?_
      refine mvT rfl ?_
      refine r_extract rfl rfl ?_
      refine r_extract rfl rfl ?_
      refine asI rfl ?_
      refine asI rfl ?_
      refine r_nil ?_
      refine i_then ?_
      refine t_seq ?_
      refine t_seq ?_
      refine t_as (s := 23) rfl (Ty.sub_int (pl_sumE b plan)) ?_
      refine t_forget (B := live [(1, Ty.sl TurE plan), (2, Ty.pp (barnTys b)), (5, Ty.ptr 6 0), (7, Ty.sl TurE plan), (8, Ty.int .i64 (doneV b plan).2.2), (9, Ty.bool (makesB b plan)), (10, Ty.int .i64 (sackV b plan).1), (11, Ty.ptr 12 0), (12, Ty.sl TurE (doneV b plan).2.1), (16, Ty.ptr 17 0), (17, Ty.int .i64 (doneV b plan).2.2), (18, Ty.bool (makesB b plan)), (19, Ty.int .i64 (doneV b plan).2.2), (20, Ty.sl TurE (doneV b plan).2.1), (21, Ty.int .i64 (doneV b plan).2.2), (22, Ty.int .i64 (sackV b plan).1), (23, Ty.int .i64 (doneV b plan).2.2)] [(6, Cont.cells 25 (barnTys b)), (12, Cont.cells 25 (barnTys (doneV b plan).1)), (17, Cont.cells 25 (ownTys 971 972 (doneV b plan).1)), (971, Cont.vec I64 3 (doneV b plan).1.sizes), (972, Cont.vec LotE 57 (doneV b plan).1.lots)]) ?_ ?_
      · (refine Ent.mk' ?_ ?_ <;> (repeat' (first | exact allSub_zero | exact allTags_nil | refine allSub_succ' ?_ (Ty.sub_any _) | refine allSub_succ' ?_ (Ty.sub_refl _) | refine allTags_cons rfl (Cont.sub_refl _) ?_)))
      refine t_region ?_
      refine mvI rfl ?_
      refine mvI rfl ?_
      refine r_bin rfl rfl rfl ?_
      refine mvB rfl ?_
      apply r_guard (s := 99) rfl rfl rfl
      · intro hg; apply opT_of; (refine mvI rfl ?_); refine r_nil ?_; exact rfl
      · exact rfl
      · exact rfl
      apply r_guard (s := 99) rfl rfl rfl
      · intro hg; apply opT_of; (refine mvI rfl ?_); refine r_nil ?_; exact rfl
      · exact rfl
      · exact rfl
      apply r_guard (s := 99) rfl rfl rfl
      · intro hg; apply opT_strip (s := 100) rfl (by (rw [hg]; rfl)); apply opT_strip (s := 101) rfl (by (rw [hg]; rfl)); apply opT_of; (refine r_bin rfl rfl rfl ?_); refine r_nil ?_; exact rfl
      · exact rfl
      · exact rfl
      refine r_or rfl rfl ?_
      refine mvB rfl ?_
      apply r_guard (s := 104) rfl rfl rfl
      · intro hg; apply opT_of; (refine mvI rfl ?_); refine r_nil ?_; exact rfl
      · exact rfl
      · exact rfl
      apply r_guard (s := 104) rfl rfl rfl
      · intro hg; apply opT_of; (refine mvI rfl ?_); refine r_nil ?_; exact rfl
      · exact rfl
      · exact rfl
      apply r_guard (s := 104) rfl rfl rfl
      · intro hg; apply opT_strip (s := 105) rfl (by (rw [hg]; rfl)); apply opT_strip (s := 106) rfl (by (rw [hg]; rfl)); apply opT_of; (refine r_bin rfl rfl rfl ?_); refine r_nil ?_; exact rfl
      · exact rfl
      · exact rfl
      refine r_or rfl rfl ?_
      refine mvB rfl ?_
      apply r_guard (s := 109) rfl rfl rfl
      · intro hg; apply opT_of; (refine mvI rfl ?_); refine r_nil ?_; exact rfl
      · exact rfl
      · exact rfl
      apply r_guard (s := 109) rfl rfl rfl
      · intro hg; apply opT_of; (refine mvI rfl ?_); refine r_nil ?_; exact rfl
      · exact rfl
      · exact rfl
      apply r_guard (s := 109) rfl rfl rfl
      · intro hg; apply opT_strip (s := 110) rfl (by (rw [hg]; rfl)); apply opT_strip (s := 111) rfl (by (rw [hg]; rfl)); apply opT_of; (refine r_bin rfl rfl rfl ?_); refine r_nil ?_; exact rfl
      · exact rfl
      · exact rfl
      refine r_or rfl rfl ?_
      refine mvB rfl ?_
      apply r_guard (s := 114) rfl rfl rfl
      · intro hg; apply opT_of; (refine r_load_ptrN rfl rfl (by decide) rfl rfl (by exact Nat.le_of_ble_eq_true rfl) ?_); refine r_nil ?_; exact rfl
      · exact rfl
      · exact rfl
      apply r_guard (s := 114) rfl rfl rfl
      · intro hg; apply opT_of; (refine r_load_ptrN rfl rfl (by decide) rfl rfl (by exact Nat.le_of_ble_eq_true rfl) ?_); refine r_nil ?_; exact rfl
      · exact rfl
      · exact rfl
      apply r_guard (s := 114) rfl rfl rfl
      · intro hg; apply opT_strip (s := 115) rfl (by (rw [hg]; rfl)); apply opT_strip (s := 116) rfl (by (rw [hg]; rfl)); apply opT_of; (refine r_callLC [971, 972] (c_same (doneV b plan).1 (doneV b plan).1) rfl (lendcs_cons (lend_own (s := 971) (t := 972) rfl rfl (by decide) (by decide) rfl rfl) (lendcs_cons (lendc_of (lend_pub rfl rfl)) lendcs_nil)) (by exact plain_bool _) ?_); refine r_nil ?_; exact rfl
      · exact rfl
      · exact rfl
      apply r_guard (s := 114) rfl rfl rfl
      · intro hg; apply opT_strip (s := 117) rfl (by (rw [hg]; rfl)); apply opT_of; (refine r_not rfl ?_); refine r_nil ?_; exact rfl
      · exact rfl
      · exact rfl
      refine r_or rfl rfl ?_
      refine mvB rfl ?_
      apply r_guard (s := 120) rfl rfl rfl
      · intro hg; apply opT_of; (refine mvB rfl ?_); refine r_nil ?_; exact rfl
      · exact rfl
      · exact rfl
      apply r_guard (s := 120) rfl rfl rfl
      · intro hg; apply opT_of; (refine mvB rfl ?_); refine r_nil ?_; exact rfl
      · exact rfl
      · exact rfl
      apply r_guard (s := 120) rfl rfl rfl
      · intro hg; apply opT_strip (s := 121) rfl (by (rw [hg]; rfl)); apply opT_strip (s := 122) rfl (by (rw [hg]; rfl)); apply opT_of; (refine r_neq_B und4 rfl rfl ?_); refine r_nil ?_; exact rfl
      · exact rfl
      · exact rfl
      refine r_or rfl rfl ?_
      refine mvB rfl ?_
      apply r_guard (s := 125) rfl rfl rfl
      · intro hg; apply opT_of; (refine mvS rfl ?_); refine r_nil ?_; exact rfl
      · exact rfl
      · exact rfl
      apply r_guard (s := 125) rfl rfl rfl
      · intro hg; apply opT_strip (s := 126) rfl (by (rw [hg]; rfl)); apply opT_of; (refine r_call (c_plans (doneV b plan).2.1 (pl_len40 b plan (by omega))) rfl rfl rfl rfl rfl ?_); refine r_nil ?_; exact rfl
      · exact rfl
      · exact rfl
      apply r_guard (s := 125) rfl rfl rfl
      · intro hg; apply opT_of; (refine mvS rfl ?_); refine r_nil ?_; exact rfl
      · exact rfl
      · exact rfl
      apply r_guard (s := 125) rfl rfl rfl
      · intro hg; apply opT_strip (s := 127) rfl (by (rw [hg]; rfl)); apply opT_strip (s := 128) rfl (by (rw [hg]; rfl)); apply opT_of; (refine r_call (c_Eq_rtur (doneV b plan).2.1 (doneV b plan).2.1) rfl rfl rfl rfl rfl ?_); refine r_nil ?_; exact rfl
      · exact rfl
      · exact rfl
      apply r_guard (s := 125) rfl rfl rfl
      · intro hg; apply opT_strip (s := 129) rfl (by (rw [hg]; rfl)); apply opT_of; (refine r_not rfl ?_); refine r_nil ?_; exact rfl
      · exact rfl
      · exact rfl
      refine r_or rfl rfl ?_
      refine mvB rfl ?_
      apply r_guard (s := 132) rfl rfl rfl
      · intro hg; apply opT_of; (refine mvI rfl ?_); refine r_nil ?_; exact rfl
      · exact rfl
      · exact rfl
      apply r_guard (s := 132) rfl rfl rfl
      · intro hg; apply opT_of; (refine mvI rfl ?_); refine r_nil ?_; exact rfl
      · exact rfl
      · exact rfl
      apply r_guard (s := 132) rfl rfl rfl
      · intro hg; apply opT_strip (s := 133) rfl (by (rw [hg]; rfl)); apply opT_strip (s := 134) rfl (by (rw [hg]; rfl)); apply opT_of; (refine r_bin rfl rfl rfl ?_); refine r_nil ?_; exact rfl
      · exact rfl
      · exact rfl
      refine r_or rfl rfl ?_
      refine r_nil ?_
      refine i_then ?_
      refine t_cond_ff rfl (pl_cut) ?_
      refine t_skip ?_
      refine i_then ?_
      refine t_seq ?_
      refine t_region ?_
      refine r_field_ptr rfl rfl rfl rfl rfl (by decide) ?_
      refine r_load_ptr rfl rfl (by decide) rfl rfl rfl ?_
      refine r_clearVs rfl rfl (by omega) (by decide) rfl rfl rfl rfl rfl (by decide) rfl ?_
      refine r_nil ?_
      refine i_then ?_
      refine t_seq ?_
      refine t_region ?_
      refine r_field_ptr rfl rfl rfl rfl rfl (by decide) ?_
      refine r_load_ptr rfl rfl (by decide) rfl rfl rfl ?_
      refine r_clearVs rfl rfl (by omega) (by decide) rfl rfl rfl rfl rfl (by decide) rfl ?_
      refine r_nil ?_
      refine i_then ?_
      refine t_seq ?_
      refine t_region ?_
      refine r_load_ptrN rfl rfl (by decide) rfl rfl (by exact Nat.le_of_ble_eq_true rfl) ?_
      refine r_load_ppN rfl rfl rfl (by exact Nat.le_of_ble_eq_true rfl) ?_
      refine r_call (c_same b b) rfl rfl rfl rfl rfl ?_
      refine mvB rfl ?_
      apply r_guard (s := 144) rfl rfl rfl
      · intro hg; apply opT_of; (refine mvS rfl ?_); refine r_nil ?_; exact rfl
      · exact rfl
      · exact rfl
      apply r_guard (s := 144) rfl rfl rfl
      · intro hg; apply opT_of; (refine mvS rfl ?_); refine r_nil ?_; exact rfl
      · exact rfl
      · exact rfl
      apply r_guard (s := 144) rfl rfl rfl
      · intro hg; apply opT_strip (s := 145) rfl (by (rw [hg]; rfl)); apply opT_strip (s := 146) rfl (by (rw [hg]; rfl)); apply opT_of; (refine r_call (c_Eq_tur plan plan) rfl rfl rfl rfl rfl ?_); refine r_nil ?_; exact rfl
      · exact rfl
      · exact rfl
      refine r_and rfl rfl ?_
      refine mvB rfl ?_
      apply r_guard (s := 149) rfl rfl rfl
      · intro hg; apply opT_of; (refine r_call (c_awake) rfl rfl rfl rfl rfl ?_); refine r_nil ?_; exact rfl
      · exact rfl
      · exact rfl
      refine r_and rfl rfl ?_
      refine asB rfl ?_
      refine r_nil ?_
      refine i_then ?_
      refine t_ret ?_
      refine i_rp1 rfl rfl ?_
      all_goals skip
      all_goals exact ret_eq rfl rfl (congrArg Ty.bool (by rw [sameV_self]; simp))
end Go.Proofs.Ytpnndljmhpepgaa

namespace Go.T
open Go Go.RowKit Go.ChangeShapes Go.WideShapes Go.ChangeAt
def pubs : Tags := fun _ => none
theorem wf_pubs (w : World) : Wf w pubs := ⟨fun _ _ h => (by cases h), fun _ _ _ _ h => (by cases h)⟩
theorem pubs_zero : ∀ b t, pubs b = some t → t = 0 := fun _ _ h => by cases h
structure Rd {α : Type} (P : Program) (e : TypeId) (E : El α) : Prop where
  size : P.cellsOf e = E.size
  pos : 0 < E.size
  rd : ∀ {H : Type} {enc : TypeId × Value → H} {w : World} {base : Nat} {held : Bool} {n : Nat} {cs : List Value} {y : DataW H × List MemPlace}, DataW.trod enc P w base (fun _ => true) held n e cs = some y → ∃ x, dens w pubs (E.tys x) cs
section
variable {H : Type} {enc : TypeId × Value → H} {P : Program} {w : World} {base : Nat} {held : Bool} {α : Type} {E : El α} {t e : TypeId} {n : Nat} {cs : List Value} {y : DataW H × List MemPlace}
theorem rd_sl (hR : Rd P e E) (ht : P.underlying t = some (.slice e)) (h : DataW.trod enc P w base (fun _ => true) held n t cs = some y) : ∃ v xs, cs = [v] ∧ (Ty.sl E xs).den w pubs v := by
  rcases Go.Deep.open_slice ht h with ⟨rfl, _⟩ | ⟨a, len, cap, m, k, D, Pl, rfl, _, hl, hm, hmm, _, hel⟩
  · exact ⟨_, [], rfl, none, 0, rfl, Nat.le_refl _, Nat.zero_le _, fun h => absurd h (Nat.lt_irrefl _)⟩
  have hlm : len ≤ m := by rw [hmm]; simpa using hl
  have hX : ∀ i : Fin len, ∃ x : α, ∃ cs', w.cells? base (a.add (i.1 * P.cellsOf e)) (P.cellsOf e) = some cs' ∧ dens w pubs (E.tys x) cs' := fun i => by
    obtain ⟨cs', h1, h2⟩ := hel i.1 (Nat.lt_of_lt_of_le i.2 hlm)
    obtain ⟨x, hx⟩ := hR.rd h2
    exact ⟨x, cs', h1, hx⟩
  let X : Fin len → α := fun i => (hX i).choose
  have hXs : ∀ i : Fin len, ∃ cs', w.cells? base (a.add (i.1 * P.cellsOf e)) (P.cellsOf e) = some cs' ∧ dens w pubs (E.tys (X i)) cs' := fun i => (hX i).choose_spec
  have hlen : (List.ofFn X).length = len := by simp
  refine ⟨_, List.ofFn X, rfl, some a, cap, by rw [hlen], by rw [hlen]; exact hl, hm, fun h0 => ?_⟩
  rw [hlen] at h0
  have hcell : ∀ (i : Fin len) (j : Nat) (u : Ty), (E.tys (X i))[j]? = some u → ∃ v, w.cell? (a.add (i.1 * E.size + j)) = some v ∧ u.den w pubs v := fun i j u hu => by
    obtain ⟨cs', h1, h2⟩ := hXs i
    obtain ⟨v, hv, hd⟩ := dens_get h2 j u hu
    obtain ⟨_, g1, g2⟩ := World.cells?_some h1
    have hj : j < P.cellsOf e := by
      rw [hR.size, ← E.len (X i)]
      exact (List.getElem?_eq_some_iff.1 hu).1
    refine ⟨v, ?_, hd⟩
    have := g2 j hj
    rw [Go.Deep.add_add, hv, hR.size] at this
    exact this
  have hsz := hR.pos
  have hfirst : ∃ v, w.cell? (a.add 0) = some v := by
    obtain ⟨u, hu⟩ : ∃ u, (E.tys (X ⟨0, h0⟩))[0]? = some u := ⟨_, List.getElem?_eq_getElem (by rw [E.len]; exact hsz)⟩
    obtain ⟨v, hv, _⟩ := hcell ⟨0, h0⟩ 0 u hu
    exact ⟨v, by simpa using hv⟩
  obtain ⟨b, off, sp⟩ := a
  obtain ⟨v0, hv0⟩ := hfirst
  have hsp : sp = none := by simpa [Addr.add] using World.cell?_spot hv0
  subst hsp
  have hb : b < w.heap.size := by
    obtain ⟨cs', h1, _⟩ := hXs ⟨0, h0⟩
    have := World.cells?_block h1 (by rw [hR.size]; exact hsz)
    simpa [Addr.add] using this
  refine ⟨b, off, rfl, rfl, hb, fun i u hu => ?_⟩
  have hi : i < len * E.size := by
    have := (List.getElem?_eq_some_iff.1 hu).1
    rw [flat_len, hlen] at this; exact this
  have hk : i / E.size < len := Nat.div_lt_of_lt_mul (by rw [Nat.mul_comm]; exact hi)
  have hj : i % E.size < E.size := Nat.mod_lt _ hsz
  have hij : i / E.size * E.size + i % E.size = i := by rw [Nat.mul_comm]; exact Nat.div_add_mod i E.size
  have hu2 := hu
  rw [← hij, flat_get E _ _ _ (by rw [hlen]; exact hk) hj, List.getElem?_ofFn, dif_pos hk] at hu2
  obtain ⟨v, hv, hd⟩ := hcell ⟨i / E.size, hk⟩ (i % E.size) u hu2
  refine ⟨v, ?_, hd⟩
  rw [← Go.WideShapes.add_plain]
  rw [hij] at hv
  exact hv
theorem rd_struct2 {f0 f1 : Field} (hs : P.underlying t = some (.struct #[f0, f1])) (hC : P.cellsOf t = 2) (h0 : f0.offset = 0 ∧ P.cellsOf f0.type = 1) (h1 : f1.offset = 1 ∧ P.cellsOf f1.type = 1) (h : DataW.trod enc P w base (fun _ => true) held n t cs = some y) :
    ∃ c0 c1 y0 y1 m, cs = [c0, c1] ∧ DataW.trod enc P w base (fun _ => true) held m f0.type [c0] = some y0 ∧ DataW.trod enc P w base (fun _ => true) held m f1.type [c1] = some y1 := by
  obtain ⟨y0, y1, m, _, hl, g0, g1⟩ := Go.ChangeShapes.trod_struct2 hs h
  rw [hC] at hl
  match cs, hl with
  | [c0, c1], _ =>
    rw [h0.1, h0.2] at g0
    rw [h1.1, h1.2] at g1
    exact ⟨c0, c1, y0, y1, m, rfl, g0, g1⟩
theorem rd_struct3 {f0 f1 f2 : Field} (hs : P.underlying t = some (.struct #[f0, f1, f2])) (hC : P.cellsOf t = 3) (h0 : f0.offset = 0 ∧ P.cellsOf f0.type = 1) (h1 : f1.offset = 1 ∧ P.cellsOf f1.type = 1) (h2 : f2.offset = 2 ∧ P.cellsOf f2.type = 1) (h : DataW.trod enc P w base (fun _ => true) held n t cs = some y) :
    ∃ c0 c1 c2 y0 y1 y2 m, cs = [c0, c1, c2] ∧ DataW.trod enc P w base (fun _ => true) held m f0.type [c0] = some y0 ∧ DataW.trod enc P w base (fun _ => true) held m f1.type [c1] = some y1 ∧ DataW.trod enc P w base (fun _ => true) held m f2.type [c2] = some y2 := by
  obtain ⟨y0, y1, y2, m, _, hl, g0, g1, g2⟩ := Go.Deep.trod_struct3 hs h
  rw [hC] at hl
  match cs, hl with
  | [c0, c1, c2], _ =>
    rw [h0.1, h0.2] at g0
    rw [h1.1, h1.2] at g1
    rw [h2.1, h2.2] at g2
    exact ⟨c0, c1, c2, y0, y1, y2, m, rfl, g0, g1, g2⟩
theorem rd_int {k : IntKind} {c : Value} (ht : P.underlying t = some (.int k)) (h : DataW.trod enc P w base (fun _ => true) held n t [c] = some y) : ∃ i, c = .int k i := by
  obtain ⟨i, e, _⟩ := DataW.trod_int ht h
  exact ⟨i, by simpa using e⟩
theorem rd_sl1 {c : Value} (hR : Rd P e E) (ht : P.underlying t = some (.slice e)) (h : DataW.trod enc P w base (fun _ => true) held n t [c] = some y) : ∃ xs, (Ty.sl E xs).den w pubs c := by
  obtain ⟨v, xs, e, hd⟩ := rd_sl hR ht h
  exact ⟨xs, by rw [show c = v by simpa using e]; exact hd⟩
end
section
variable {w w' : World} {S K : Nat → Prop} {M' : Tags}
theorem le_block (le : Le S K w pubs w' M') {b : Nat} (hb : b < w.heap.size) : w'.heap[b]? = w.heap[b]? := (le.pub b hb rfl).2
theorem le_same (le : Le S K w pubs w' M') {p : MemPlace} (hp : p.block < w.heap.size) : w.sameAt w' p := by
  cases p with
  | cell b o => exact World.cell?_of_block (w := w) (le_block le hp)
  | map b => exact le_block le hp
theorem le_kept (le : Le S K w pubs w' M') (may : MemPlace → Prop) : w.keptBut w' may := by
  refine ⟨le.os, le.out, fun i hi => ?_⟩
  have e := le_block le hi
  rw [e]
  split
  · rename_i h1 h2
    rw [h1] at h2
    simp only [Option.some.injEq, Obj.cells.injEq] at h2
    obtain ⟨rfl, rfl, rfl⟩ := h2
    exact ⟨rfl, rfl, rfl, fun _ _ => rfl⟩
  · rename_i h1 h2
    rw [h1] at h2
    simp only [Option.some.injEq, Obj.map.injEq] at h2
    exact Or.inr ⟨h2.1.symm, h2.2.symm⟩
  · rfl
theorem le_frozen (le : Le S K w pubs w' M') {a : Addr} (ha : a.block < w.heap.size) : w'.frozen? a = w.frozen? a := by
  unfold World.frozen?
  rw [le_block le ha]
end
section
variable {H : Type} {enc : TypeId × Value → H} {P : Program}
theorem trodAll_stays (hl : laidOutB P = true) {w w' : World} {sp : Nat → Bool} : ∀ {ts : List TypeId} {vs : List Value} {ds : List (DataW H)} {ps : List MemPlace}, (∀ t ∈ ts, P.readableRec t = true ∧ t < P.types.size) →
    DataW.TrodAll enc P w 0 (fun _ => true) true ts vs ds ps → (∀ p ∈ ps, w.sameAt w' p) → (∀ p ∈ ps, sp p.block = true) → DataW.TrodAll enc P w' 0 sp true ts vs ds ps
  | [], [], [], _, _, h, _, _ => h
  | t :: ts, v :: vs, d :: ds, _, ht, ⟨p, q, h1, h2, e⟩, hs, hsp => by
    subst e
    have h0 := ht t List.mem_cons_self
    exact ⟨p, q, Go.WideElems.Trod_stays hl h0.1 h0.2 h1 (fun x hx => hs x (List.mem_append_left _ hx)) (fun x hx => hsp x (List.mem_append_left _ hx)),
      trodAll_stays hl (fun t h => ht t (List.mem_cons_of_mem _ h)) h2 (fun x hx => hs x (List.mem_append_right _ hx)) (fun x hx => hsp x (List.mem_append_right _ hx)), rfl⟩
theorem post_true {f : Func} {s : ChangeSpec} {apart fresh handsOn again : Bool} {W W' : World} {args : Array Value} {ds : List (DataW H)} {before : List MemPlace} {S K : Nat → Prop} {M' : Tags}
    (hl : laidOutB P = true) (hv : s.vars = []) (hrd : ∀ t ∈ f.params.toList, P.readableRec t = true ∧ t < P.types.size) {tb : TypeId} (htb : P.underlying tb = some .bool) (hrt : f.resultTypes = #[tb])
    (hW : DataW.Whole enc P f.params.toList s.vars apart W args.toList ds [] before) (hres : (s.fn H (ds ++ [])).results = [.lit (.bool true)]) (hargs : (s.fn H (ds ++ [])).args = ds) (hvars : (s.fn H (ds ++ [])).vars = [])
    (le : Le S K W pubs W' M') : s.post enc P f apart fresh handsOn again W args (.bool true) W' := by
  have hW0 := hW
  obtain ⟨p, q, hA, hV, hb, hfz, hn⟩ := hW0
  have hlt := DataW.TrodAll.lt hA
  have hq : q = [] := by rw [hv] at hV; exact (trodVars_none hV).2
  subst hq
  have hbp : before = p := by rw [hb]; simp
  have hre : ∀ (b : Nat) (sp : Nat → Bool) (hd : Bool), DataW.TrodAll enc P W' b sp hd f.resultTypes.toList ((Value.bool true).resultList f.resultTypes.size) (s.fn H (ds ++ [])).results [] := fun b sp hd => by
    rw [hrt, hres]; exact trodAll_mk1 (shut_bool htb true)
  have har : ∀ sp : Nat → Bool, (∀ x ∈ p, sp x.block = true) → DataW.TrodAll enc P W' 0 sp true f.params.toList args.toList (s.fn H (ds ++ [])).args p := fun sp hsp => by
    rw [hargs]; exact trodAll_stays hl hrd hA (fun x hx => le_same le (hlt x hx)) hsp
  have hva : ∀ sp : Nat → Bool, DataW.TrodVars enc P W' sp s.vars (s.fn H (ds ++ [])).vars [] := fun sp => by
    rw [hvars, hv]; exact rfl
  have hok : ∀ (j : Nat) (t : TypeId) (r : Value), f.resultTypes[j]? = some t → ((Value.bool true).resultList f.resultTypes.size)[j]? = some r → Value.okWide P W' .any 0 t r := by
    exact ok_one (by rw [hrt]) rfl (okWide_bool_mk htb true)
  refine ⟨ds, [], before, [], p, [], hW, hre _ _ _, har _ (fun x hx => by simpa using hlt x hx), hva _, World.keptBut_mono (fun x hx => hx) (le_kept le _), fun _ => ?_⟩
  refine ⟨hok, _, _, ([] ++ p) ++ [], ⟨[] ++ p, [], trodAll_append (har _ (fun _ _ => rfl)) (hre _ _ _), hva _, rfl, ?_, ?_⟩, ?_⟩
  · intro b off hp
    have hp' : MemPlace.cell b off ∈ p := by simpa using hp
    rw [le_frozen le (hlt _ hp')]
    exact hfz b off (by rw [hbp]; exact hp')
  · intro ha
    have := hn ha
    rw [hbp] at this
    simpa using this
  · intro x hx _
    rw [hbp]
    simpa using hx
end
end Go.T

namespace Go.Proofs.Ytpnndljmhpepgaa
open Go Go.T Go.RowKit Go.ChangeShapes Go.WideShapes Go.ChangeAt
section
variable {H : Type} {enc : TypeId × Value → H} {W : World} {base : Nat} {held : Bool} {v : Value} {d : DataW H} {p : List MemPlace}
end
end Go.Proofs.Ytpnndljmhpepgaa

namespace Go.Proofs.Ytpnndljmhpepgaa
open Go Go.T Go.RowKit Go.ChangeShapes Go.WideShapes Go.ChangeAt
theorem rdI64 : Rd Try.prog 3 I64 := ⟨by kernel_rfl, by decide, fun h => by
  obtain ⟨i, rfl, _⟩ := DataW.trod_int Try.underlying3 h
  exact ⟨i, rfl, trivial⟩⟩
theorem rdLot : Rd Try.prog 57 LotE := ⟨by kernel_rfl, by decide, fun h => by
  obtain ⟨c0, c1, c2, y0, y1, y2, m, rfl, h0, h1, h2⟩ := rd_struct3 Try.underlying57 (by kernel_rfl) ⟨rfl, by kernel_rfl⟩ ⟨rfl, by kernel_rfl⟩ ⟨rfl, by kernel_rfl⟩ h
  obtain ⟨a, rfl⟩ := rd_int Try.underlying3 h0
  obtain ⟨b, rfl⟩ := rd_int Try.underlying3 h1
  obtain ⟨c, rfl⟩ := rd_int Try.underlying3 h2
  exact ⟨⟨a, b, c⟩, rfl, rfl, rfl, trivial⟩⟩
theorem rdTur : Rd Try.prog 55 TurE := ⟨by kernel_rfl, by decide, fun h => by
  obtain ⟨c0, c1, y0, y1, m, rfl, h0, h1⟩ := rd_struct2 Try.underlying55 (by kernel_rfl) ⟨rfl, by kernel_rfl⟩ ⟨rfl, by kernel_rfl⟩ h
  obtain ⟨a, rfl⟩ := rd_int Try.underlying3 h0
  obtain ⟨b, rfl⟩ := rd_int Try.underlying3 h1
  exact ⟨⟨a, b⟩, rfl, rfl, trivial⟩⟩
section
variable {H : Type} {enc : TypeId × Value → H} {W : World} {base : Nat} {held : Bool} {v : Value} {d : DataW H} {p : List MemPlace}
set_option maxRecDepth 100000 in
theorem rd_barn (hv : Value.okWide Try.prog W .any base 25 v) (h : DataW.Trod enc Try.prog W 0 (fun _ => true) held 25 v d p) : ∃ b, (barnT b).den W pubs v := by
  obtain ⟨c0, c1, y0, y1, n, rfl, _, _, h0, h1⟩ := Go.Joins.open_agg2 Try.underlying25 (by kernel_rfl) (by kernel_rfl) hv h
  obtain ⟨bs, e0⟩ := rd_sl1 rdI64 Try.underlying22 h0
  obtain ⟨ls, e1⟩ := rd_sl1 rdLot Try.underlying23 h1
  exact ⟨⟨bs, ls⟩, _, rfl, e0, e1, trivial⟩
set_option maxRecDepth 100000 in
theorem rd_turs (hv : Value.okWide Try.prog W .any base 42 v) (h : DataW.Trod enc Try.prog W 0 (fun _ => true) held 42 v d p) : ∃ l, (Ty.sl TurE l).den W pubs v := by
  obtain ⟨a, len, cap, rfl⟩ := okWide_slice Try.underlying42 hv
  obtain ⟨n, hn⟩ := h
  exact rd_sl1 rdTur Try.underlying42 (by simpa [Value.cells] using hn)
end
end Go.Proofs.Ytpnndljmhpepgaa
