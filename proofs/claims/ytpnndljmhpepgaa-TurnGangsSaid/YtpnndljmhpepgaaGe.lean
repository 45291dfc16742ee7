/- Lemmas: the program and the reference walked, plain laws. -/
import Derived.Test.YtpnndljmhpepgaaGd
namespace Go.Proofs.Ytpnndljmhpepgaa
open Go Go.T
def apartP (b : Barn) (p : Pl) : Prop := ∀ i k, i < b.lots.length → k < b.lots.length → nth p.1 i = nth p.1 k → i = k
theorem goP_cons {b : Barn} {p q : Pl} {t : Tur} {l : List Tur} (h : goP b p (t :: l) = some q) : t ∈ turnsL b p ∧ goP b (moved p t) l = some q := by
  have h : (if t ∈ turnsL b p then goP b (moved p t) l else none) = some q := h
  by_cases hu : t ∈ turnsL b p
  · rw [if_pos hu] at h; exact ⟨hu, h⟩
  · rw [if_neg hu] at h; cases h
theorem first_nth {b : Barn} (h6 : b.lots.length ≤ 6) {i : Nat} (hi : i < b.lots.length) : nth (firstP b).1 i = (nth b.lots i).inn := by
  rw [← nth_take (n := b.lots.length) hi, first_inn h6]
  unfold innL
  rw [nth_lt (by rw [List.length_map]; exact hi), nth_lt hi, List.getElem_map]
structure Cheap (b : Barn) (c : Tur → Int) (e : Int) (l : List Tur) (n : Int) : Prop where
  err : e = 0 ∨ e = 7
  yes : e = 0 → rightV b l = true ∧ costL c l = n ∧ ∀ x, rightV b x = true → n ≤ costL c x
  no : e = 7 → l = [] ∧ n = 0 ∧ ∀ x, rightV b x = false
theorem cheap {b : Barn} {c : Tur → Int} (hr : b.Right) (hc : CostOk b c) : Cheap b c (planE b c) (planR b c) (costR b c) := by
  have h0 := right_check hr
  have hp := plan_spec hr hc
  have h6 := hr.lots
  unfold planE planR costR
  rw [if_pos h0, if_pos h0, if_pos h0]
  cases hi : (searchM b c false).is with
  | true =>
    rw [if_pos rfl]
    refine ⟨.inl rfl, fun _ => ?_, fun e => by cases e⟩
    obtain ⟨q, h1, h2, h3, h4⟩ := hp.yes hi
    refine ⟨(right_iff h6).2 ⟨q, h1, h2⟩, h3, fun x hx => ?_⟩
    obtain ⟨q', g1, g2⟩ := (right_iff h6).1 hx
    exact h4 x q' g1 g2
  | false =>
    rw [if_neg (by decide)]
    refine ⟨.inr rfl, (fun e => by cases e), fun _ => ⟨if_neg (by rw [hi]; decide), if_neg (by rw [hi]; decide), fun x => ?_⟩⟩
    rw [Bool.eq_false_iff]; intro hx
    obtain ⟨q', g1, g2⟩ := (right_iff h6).1 hx
    have := hp.no hi x q' g1
    rw [g2] at this; cases this
theorem cost_one (l : List Tur) : costL oneC l = l.length := by
  unfold costL oneC
  induction l with
  | nil => rfl
  | cons t l ih => rw [List.map_cons, List.sum_cons, ih, List.length_cons]; omega
def leastUp (b : Barn) (l : List Int) (k : Nat) : Int := ((l.take k).map fun (i : Int) => (nth b.lots i.toNat).sacks).sum
end Go.Proofs.Ytpnndljmhpepgaa

namespace Go.Proofs.Ytpnndljmhpepgaa
open Go Go.T
set_option maxHeartbeats 4000000
theorem fill_ok8 (g : List Int) : (skFill g).Ok 1000 := by have h := skFill_ok g; unfold Sk.Ok at *; omega
theorem made8 (g : List Int) (bins lots : Int) (hb : 2 ≤ bins ∧ bins ≤ 7) (hl : 0 ≤ lots ∧ lots ≤ 6) : ∃ b s', b.Right ∧ (b.sizes.length : Int) ≤ bins ∧ (b.lots.length : Int) ≤ lots ∧ CtrG Try.prog 50 [1000] [(1000, Cont.cells 141 (skTys (skFill g)))] [Ty.ptr 1000 0, Ty.int .i64 bins, Ty.int .i64 lots, Ty.bool false] [(1000, Cont.cells 141 (skTys s'))] (barnT b) :=
  have hd : Md.Ok ⟨skFill g, bins, lots⟩ := ⟨hb, hl⟩
  ⟨_, _, Md.right hd, by have h := (Md.n_in hd).2.2.1; have e := (Md.sizes_ok ⟨skFill g, bins, lots⟩).1; exact Int.le_trans (Int.ofNat_le.2 (Nat.le_of_eq e)) h, by have h := (Md.many_in hd).2.1; have e := (Md.lt_len ⟨skFill g, bins, lots⟩ (Md.many ⟨skFill g, bins, lots⟩)).1; exact Int.le_trans (Int.ofNat_le.2 (Nat.le_of_eq e)) h, c_Made ⟨skFill g, bins, lots⟩ hd (fill_ok8 g)⟩
def walksE (b : Barn) (s : Sk) (most : Int) : Nat → Sk
  | 0 => s
  | k + 1 => walkE b (walksE b s most k) most
attribute [local irreducible] planR planE costR walkP walkE sumUp leastUp rightV mustL checkB
attribute [local irreducible] dInt dBool dSl dPp dPtr dAgg dTup dClo dAny dEx dStr dGd dCells dVec dVs dRow dOp nth Tri Into TOps Ctr bodyPost Exit.then Exit.inBlock Code.wp Code.wpIn dWhen dPa dPe dAo dArr dMp dPm dMap dCJ CtrG CtrI OpY keepPost iterPost bodyPostM roundQ
end Go.Proofs.Ytpnndljmhpepgaa

namespace Go.Proofs.Ytpnndljmhpepgaa
open Go Go.T
variable {b : Barn} {g : Int}
theorem goR_cons {p q : Pl} {l : List Tur} {rs : List (List Tur)} (h : goR b g p (l :: rs) = some q) : l ∈ allR b p g ∧ goR b g (movedAll p l) rs = some q := by
  have h : (if l ∈ allR b p g then goR b g (movedAll p l) rs else none) = some q := h
  by_cases hu : l ∈ allR b p g
  · rw [if_pos hu] at h; exact ⟨hu, h⟩
  · rw [if_neg hu] at h; cases h
theorem goR_cons' {p : Pl} {l : List Tur} {rs : List (List Tur)} (h : l ∈ allR b p g) : goR b g p (l :: rs) = goR b g (movedAll p l) rs := if_pos h
theorem goR_flat (h6 : b.lots.length ≤ 6) (hg : 0 ≤ g) : ∀ (rs : List (List Tur)) {p q : Pl}, goR b g p rs = some q → goP b p rs.flatten = some q
  | [], p, q, h => h
  | l :: rs, p, q, h => by
    obtain ⟨h1, h2⟩ := goR_cons h
    rw [List.flatten_cons, goP_append, round_go h6 l ((mem_allR hg).1 h1)]
    exact goR_flat h6 hg rs h2
theorem one_round {p : Pl} {t : Tur} (hg : 1 ≤ g) (h : t ∈ turnsL b p) : [t] ∈ allR b p g := by
  rw [mem_allR (by omega)]
  have := mem_turnsL.1 h
  refine ⟨by simpa using hg, fun u hu => ?_, List.pairwise_singleton _ _⟩
  rw [List.mem_singleton.1 hu]
  exact ⟨⟨this.1, this.2.1⟩, ⟨this.2.2.1, this.2.2.2.1⟩, this.2.2.2.2.1, this.2.2.2.2.2⟩
theorem goR_singles (hg : 1 ≤ g) : ∀ (l : List Tur) {p q : Pl}, goP b p l = some q → goR b g p (l.map fun t => [t]) = some q
  | [], p, q, h => h
  | t :: l, p, q, h => by
    obtain ⟨h1, h2⟩ := goP_cons h
    rw [List.map_cons, goR_cons' (one_round hg h1)]
    exact goR_singles hg l h2
theorem goR_more {g' : Int} (hg : 0 ≤ g) (hgg : g ≤ g') : ∀ (rs : List (List Tur)) {p q : Pl}, goR b g p rs = some q → goR b g' p rs = some q
  | [], p, q, h => h
  | l :: rs, p, q, h => by
    obtain ⟨h1, h2⟩ := goR_cons h
    have h3 := (mem_allR hg).1 h1
    rw [goR_cons' ((mem_allR (by omega)).2 ⟨by have := h3.len; omega, h3.ok, h3.apart⟩)]
    exact goR_more hg hgg rs h2
theorem goR_rows (hg : 0 ≤ g) : ∀ (rs : List (List Tur)) {p q : Pl}, goR b g p rs = some q → ∀ l ∈ rs, (l.length : Int) ≤ g
  | [], p, q, _, l, hl => by cases hl
  | r :: rs, p, q, h, l, hl => by
    obtain ⟨h1, h2⟩ := goR_cons h
    rcases List.mem_cons.1 hl with rfl | hl
    · exact ((mem_allR hg).1 h1).len
    · exact goR_rows hg rs h2 l hl
theorem flat_le (hg : 0 ≤ g) : ∀ (rs : List (List Tur)), (∀ l ∈ rs, (l.length : Int) ≤ g) → (rs.flatten.length : Int) ≤ rs.length * g
  | [], _ => by simp
  | l :: rs, h => by
    have h1 := h l List.mem_cons_self
    have h2 := flat_le hg rs fun r hr => h r (List.mem_cons_of_mem _ hr)
    rw [List.flatten_cons, List.length_append, List.length_cons]
    have e : (((rs.length + 1 : Nat) : Int)) * g = rs.length * g + g := by rw [Int.natCast_add, Int.add_mul]; simp
    rw [e]; omega
structure Rnds (b : Barn) (g e : Int) (rs : List (List Tur)) : Prop where
  err : e = 0 ∨ e = 7
  yes : e = 0 → ∃ q, goR b g (firstP b) rs = some q ∧ madeP b q = true ∧ ∀ rs' q', goR b g (firstP b) rs' = some q' → madeP b q' = true → rs.length ≤ rs'.length
  no : e = 7 → rs = [] ∧ ∀ rs' q, goR b g (firstP b) rs' = some q → madeP b q = false
theorem rnds (hr : b.Right) (hg : 1 ≤ g ∧ g ≤ 3) : Rnds b g (roundsE b g) (roundsV b g) := by
  have h0 := right_check hr
  obtain ⟨hs, _⟩ := rounds_spec hr (show 0 ≤ g by omega)
  have ha : askE b g = 0 := by unfold askE; rw [if_pos h0, if_pos (inB_true.2 hg)]
  unfold roundsE roundsV
  rw [if_pos ha, if_pos ha]
  cases hi : (roundsM b g).is with
  | true =>
    rw [if_pos rfl, if_pos rfl]
    refine ⟨.inl rfl, fun _ => ?_, fun e => by cases e⟩
    obtain ⟨L, h1, h2, h3, _, h4⟩ := hs.yes hi
    rw [chainM_spec h1]
    exact ⟨_, h2, h3, h4⟩
  | false =>
    rw [if_neg (by decide), if_neg (by decide)]
    exact ⟨.inr rfl, (fun e => by cases e), fun _ => ⟨rfl, hs.no hi⟩⟩
section
variable {e e' n : Int} {l : List Tur} {rs rs' : List (List Tur)}
theorem Rnds.same (h : Rnds b g e' rs) (h6 : b.lots.length ≤ 6) (hg : 1 ≤ g) (hc : Cheap b oneC e l n) : e' = e := by
  rcases h.err with rfl | rfl
  · rcases hc.err with rfl | rfl
    · rfl
    · obtain ⟨q, h1, h2, _⟩ := h.yes rfl
      have := (hc.no rfl).2.2 rs.flatten
      rw [(right_iff h6).2 ⟨q, goR_flat h6 (by omega) rs h1, h2⟩] at this; cases this
  · rcases hc.err with rfl | rfl
    · obtain ⟨q, h1, h2⟩ := (right_iff h6).1 (hc.yes rfl).1
      have := (h.no rfl).2 _ q (goR_singles hg l h1)
      rw [h2] at this; cases this
    · rfl
theorem Rnds.right (h : Rnds b g 0 rs) (h6 : b.lots.length ≤ 6) (hg : 1 ≤ g) : rightV b rs.flatten = true := by
  obtain ⟨q, h1, h2, _⟩ := h.yes rfl
  exact (right_iff h6).2 ⟨q, goR_flat h6 (by omega) rs h1, h2⟩
theorem Rnds.few (h : Rnds b g 0 rs) (h6 : b.lots.length ≤ 6) (hg : 1 ≤ g) (hc : Cheap b oneC 0 l n) : n ≤ rs.length * g ∧ (rs.length : Int) ≤ n := by
  obtain ⟨q, h1, h2, h3⟩ := h.yes rfl
  obtain ⟨c1, c2, c3⟩ := hc.yes rfl
  rw [cost_one] at c2
  constructor
  · have h4 := c3 _ (h.right h6 hg)
    rw [cost_one] at h4
    have := flat_le (by omega) rs (goR_rows (by omega) rs h1)
    omega
  · obtain ⟨q', g1, g2⟩ := (right_iff h6).1 c1
    have := h3 _ q' (goR_singles hg l g1) g2
    rw [List.length_map] at this; omega
theorem Rnds.less (h : Rnds b g 0 rs) (h' : Rnds b (g + 1) 0 rs') (hg : 1 ≤ g) : rs'.length ≤ rs.length := by
  obtain ⟨q, h1, h2, _⟩ := h.yes rfl
  obtain ⟨_, _, _, h3⟩ := h'.yes rfl
  exact h3 _ q (goR_more (by omega) (by omega) rs h1) h2
theorem goR_drop (hg : 0 ≤ g) : ∀ (rs1 : List (List Tur)) {rs2 : List (List Tur)} {p q : Pl}, goR b g p (rs1 ++ [] :: rs2) = some q → goR b g p (rs1 ++ rs2) = some q
  | [], rs2, p, q, h => (goR_cons h).2
  | r :: rs1, rs2, p, q, h => by
    obtain ⟨h1, h2⟩ := goR_cons h
    rw [List.cons_append, goR_cons' h1]
    exact goR_drop hg rs1 h2
theorem Rnds.rows (h : Rnds b g 0 rs) (hg : 1 ≤ g) : ∀ l ∈ rs, 0 < l.length ∧ (l.length : Int) ≤ g := fun l hl => by
  obtain ⟨q, h1, h2, h3⟩ := h.yes rfl
  refine ⟨?_, goR_rows (by omega) rs h1 l hl⟩
  cases l with
  | cons t l => exact Nat.zero_lt_succ _
  | nil =>
    obtain ⟨s, r, e⟩ := List.append_of_mem hl
    rw [e] at h1
    have := h3 _ q (goR_drop (by omega) s h1) h2
    rw [e] at this; simp at this
    omega
end
def listsM (m : Nat) : Nat → List (List Int)
  | 0 => [[]]
  | n + 1 => (List.range m).flatMap fun (k : Nat) => (listsM m n).map fun l => (k : Int) :: l
theorem listsM_len (m : Nat) : ∀ n, (listsM m n).length = m ^ n
  | 0 => rfl
  | n + 1 => by
    unfold listsM
    rw [List.length_flatMap]
    have : ((List.range m).map fun (k : Nat) => ((listsM m n).map fun l => (k : Int) :: l).length) = List.replicate m (m ^ n) := by
      rw [List.eq_replicate_iff]
      refine ⟨by simp, fun x hx => ?_⟩
      obtain ⟨k, _, rfl⟩ := List.mem_map.1 hx
      rw [List.length_map, listsM_len m n]
    rw [this, List.sum_replicate_nat, Nat.pow_succ, Nat.mul_comm]
theorem mem_listsM {m : Nat} : ∀ {n : Nat} {l : List Int}, l.length = n → (∀ x ∈ l, 0 ≤ x ∧ x < (m : Int)) → l ∈ listsM m n
  | 0, l, h, _ => by rw [List.length_eq_zero_iff.1 h]; exact List.mem_singleton.2 rfl
  | n + 1, [], h, _ => by cases h
  | n + 1, x :: l, h, hx => by
    unfold listsM
    have h1 := hx x List.mem_cons_self
    rw [List.mem_flatMap]
    refine ⟨x.toNat, List.mem_range.2 (by omega), List.mem_map.2 ⟨l, mem_listsM (by simpa using h) (fun y hy => hx y (List.mem_cons_of_mem _ hy)), ?_⟩⟩
    rw [Int.toNat_of_nonneg h1.1]
theorem go_tail {b : Barn} : ∀ (l : List Tur) {p q : Pl}, goP b p l = some q → q.1.drop b.lots.length = p.1.drop b.lots.length
  | [], p, q, h => by injection h with h; rw [h]
  | t :: l, p, q, h => by
    obtain ⟨h1, h2⟩ := goP_cons h
    have h3 := mem_turnsL.1 h1
    rw [go_tail l h2]
    unfold moved
    exact List.drop_set_of_lt (by omega)
theorem go_named {b : Barn} (h6 : b.lots.length ≤ 6) : ∀ (l : List Tur) {p q : Pl}, (∀ i, i < b.lots.length → 0 ≤ nth p.1 i ∧ nth p.1 i < b.sizes.length) → goP b p l = some q → ∀ i, i < b.lots.length → 0 ≤ nth q.1 i ∧ nth q.1 i < b.sizes.length
  | [], p, q, hp, h => by injection h with h; rw [← h]; exact hp
  | t :: l, p, q, hp, h => by
    obtain ⟨h1, h2⟩ := goP_cons h
    have h3 := mem_turnsL.1 h1
    refine go_named h6 l (fun i hi => ?_) h2
    rw [moved_nth (by omega)]
    by_cases e : t.lot.toNat = i
    · rw [if_pos e]; exact ⟨h3.2.2.1, h3.2.2.2.1⟩
    · rw [if_neg e]; exact hp i hi
theorem first_named {b : Barn} (hr : b.Right) : ∀ i, i < b.lots.length → 0 ≤ nth (firstP b).1 i ∧ nth (firstP b).1 i < b.sizes.length := fun i hi => by
  rw [first_nth hr.lots hi]; exact hr.inn _ (nth_mem hi)
theorem few_reached {b : Barn} (hr : b.Right) {L : List Pl} (hn : L.Nodup) (h : ∀ p ∈ L, ∃ l, goP b (firstP b) l = some p) : L.length ≤ b.sizes.length ^ b.lots.length := by
  have hm : (L.map fun p => p.1.take b.lots.length).Nodup := by
    rw [List.nodup_iff_pairwise_ne, List.pairwise_map]
    refine (List.nodup_iff_pairwise_ne.1 hn).imp_of_mem fun {p q} hp hq hne e => hne ?_
    obtain ⟨l, hl⟩ := h p hp
    obtain ⟨l', hl'⟩ := h q hq
    apply Subtype.ext
    rw [← List.take_append_drop b.lots.length p.1, ← List.take_append_drop b.lots.length q.1, e, go_tail l hl, go_tail l' hl']
  have := nodup_sub hm (L := listsM b.sizes.length b.lots.length) fun x hx => by
    obtain ⟨p, hp, rfl⟩ := List.mem_map.1 hx
    obtain ⟨l, hl⟩ := h p hp
    have hlen : (p.1.take b.lots.length).length = b.lots.length := by rw [List.length_take, p.2]; have := hr.lots; omega
    refine mem_listsM hlen fun y hy => ?_
    obtain ⟨i, hi, rfl⟩ := mem_nth hy
    rw [hlen] at hi
    rw [nth_take hi]
    exact go_named hr.lots l (first_named hr) hl i hi
  rw [listsM_len, List.length_map] at this
  exact this
theorem rounds_short (hr : b.Right) (hg : 0 ≤ g) {rs : List (List Tur)} {q : Pl} (h : goR b g (firstP b) rs = some q) (hm : ∀ rs' q', goR b g (firstP b) rs' = some q' → q' = q → rs.length ≤ rs'.length) : rs.length < b.sizes.length ^ b.lots.length := by
  have key : ∀ k, ∃ p, goR b g (firstP b) (rs.take k) = some p ∧ goR b g p (rs.drop k) = some q := fun k => by
    have e := h
    rw [← List.take_append_drop k rs, goR_append] at e
    cases h1 : goR b g (firstP b) (rs.take k) with
    | none => rw [h1] at e; cases e
    | some p => rw [h1] at e; exact ⟨p, rfl, e⟩
  have hn : ((List.range (rs.length + 1)).map fun k => (key k).choose).Nodup := by
    rw [List.nodup_iff_pairwise_ne, List.pairwise_map]
    refine List.Pairwise.imp_of_mem (R := fun a c => a < c) (fun {a c} ha hc hac e => ?_) List.pairwise_lt_range
    obtain ⟨h1, h2⟩ := (key a).choose_spec
    obtain ⟨h3, h4⟩ := (key c).choose_spec
    rw [← e] at h4
    have h5 := hm (rs.take a ++ rs.drop c) q (by rw [goR_append, h1]; exact h4) rfl
    rw [List.length_append, List.length_take, List.length_drop] at h5
    have := List.mem_range.1 hc
    omega
  have := few_reached hr hn fun p hp => by
    obtain ⟨k, _, rfl⟩ := List.mem_map.1 hp
    exact ⟨_, goR_flat hr.lots hg _ (key k).choose_spec.1⟩
  rw [List.length_map, List.length_range] at this
  omega
theorem Rnds.short {rs : List (List Tur)} (h : Rnds b g 0 rs) (hr : b.Right) (hg : 1 ≤ g) : rs.length < b.sizes.length ^ b.lots.length := by
  obtain ⟨q, h1, h2, h3⟩ := h.yes rfl
  exact rounds_short hr (by omega) h1 fun rs' q' e eq => h3 rs' q' e (by rw [eq]; exact h2)
def ordB (l : List Tur) : Bool := (List.range (l.length - 1)).any fun i => decide ((nth l (i + 1)).lot ≤ (nth l i).lot)
def twI (b : Barn) (p : Pl) (l : List Tur) (i : Nat) : Bool := takenP b p (nth l i).aim || (l.take i).any fun u => decide (u.aim = (nth l i).aim)
def twB (b : Barn) (p : Pl) (l : List Tur) : Bool := (List.range l.length).any fun i => twI b p l i
def roundE (b : Barn) (p : Pl) (g : Int) (l : List Tur) : Int :=
  if (!l.all fun t => b.lot t.lot && b.bin t.aim) = true then 1 else if ordB l = true then 4 else if twB b p l = true then 5 else if (!l.all fun t => b.hold t.aim t.lot) = true then 9 else if (l.length : Int) > g then 2 else 0
theorem roundE_ok {p : Pl} {l : List Tur} : roundE b p g l = 0 ↔ RoundOk b p g l := by
  unfold roundE
  constructor
  · intro h
    split at h
    · cases h
    rename_i h1
    split at h
    · cases h
    rename_i h2
    split at h
    · cases h
    rename_i h3
    split at h
    · cases h
    rename_i h4
    split at h
    · cases h
    rename_i h5
    have h1' : ∀ t ∈ l, (0 ≤ t.lot ∧ t.lot < b.lots.length) ∧ 0 ≤ t.aim ∧ t.aim < b.sizes.length := fun t ht => by
      simp only [Bool.not_eq_true, Bool.not_eq_false', List.all_eq_true, Bool.and_eq_true, Barn.lot, Barn.bin, inB_true] at h1
      have := h1 t ht; omega
    have h4' : ∀ t ∈ l, b.hold t.aim t.lot = true := fun t ht => by
      simp only [Bool.not_eq_true, Bool.not_eq_false', List.all_eq_true] at h4
      exact h4 t ht
    have h3' : ∀ i, i < l.length → twI b p l i = false := by
      rw [Bool.not_eq_true] at h3
      exact any_range_false.1 h3
    have h2' : ∀ i, i < l.length - 1 → (nth l i).lot < (nth l (i + 1)).lot := fun i hi => by
      rw [Bool.not_eq_true] at h2
      have := any_range_false.1 h2 i hi
      simpa using this
    have h2'' : ∀ i k, i < k → k < l.length → (nth l i).lot < (nth l k).lot := fun i k hik hk => by
      induction k with
      | zero => omega
      | succ k ih =>
        have := h2' k (by omega)
        by_cases e : i = k
        · subst e; exact this
        · have := ih (by omega) (by omega); omega
    refine ⟨by omega, fun t ht => ?_, ?_⟩
    · obtain ⟨i, hi, rfl⟩ := mem_nth ht
      have := h3' i hi
      unfold twI at this
      rw [Bool.or_eq_false_iff] at this
      have e := h1' _ ht
      exact ⟨e.1, e.2, this.1, h4' _ ht⟩
    · rw [List.pairwise_iff_getElem]
      intro i k hi hk hik
      rw [← nth_lt hi, ← nth_lt hk]
      refine ⟨h2'' i k hik hk, fun e => ?_⟩
      have := h3' k hk
      unfold twI at this
      rw [Bool.or_eq_false_iff, List.any_eq_false] at this
      exact this.2 (nth l i) (by rw [List.mem_take_iff_getElem]; exact ⟨i, by omega, (nth_lt hi).symm⟩) (decide_eq_true e)
  · intro h
    rw [if_neg, if_neg, if_neg, if_neg, if_neg]
    · have := h.len; omega
    · simp only [Bool.not_eq_true, Bool.not_eq_false', List.all_eq_true]
      exact fun t ht => (h.ok t ht).2.2.2
    · rw [Bool.not_eq_true]
      refine any_range_false.2 fun i hi => ?_
      unfold twI
      rw [Bool.or_eq_false_iff, List.any_eq_false]
      refine ⟨(h.ok _ (nth_mem hi)).2.2.1, fun u hu e => ?_⟩
      rw [List.mem_take_iff_getElem] at hu
      obtain ⟨k, hk, rfl⟩ := hu
      have := List.pairwise_iff_getElem.1 h.apart k i (by omega) hi (by omega)
      rw [← nth_lt, ← nth_lt] at this
      rw [← nth_lt] at e
      exact this.2 (of_decide_eq_true e)
    · rw [Bool.not_eq_true]
      refine any_range_false.2 fun i hi => ?_
      rw [decide_eq_false_iff_not]
      have := List.pairwise_iff_getElem.1 h.apart i (i + 1) (by omega) (by omega) (by omega)
      rw [← nth_lt, ← nth_lt] at this
      omega
    · simp only [Bool.not_eq_true, Bool.not_eq_false', List.all_eq_true, Bool.and_eq_true, Barn.lot, Barn.bin, inB_true]
      intro t ht
      have := h.ok t ht
      have h1 := this.1
      have h2 := this.2.1
      omega
def worksGo (b : Barn) (g : Int) : Pl → List (List Tur) → Bool × Int
  | p, [] => (madeP b p, 0)
  | p, l :: rs => if roundE b p g l = 0 then worksGo b g (movedAll p l) rs else (false, roundE b p g l)
def worksV (b : Barn) (g : Int) (rs : List (List Tur)) : Bool × Int := if askE b g = 0 then if (rs.length : Int) > 6000 then (false, 2) else worksGo b g (firstP b) rs else (false, askE b g)
theorem works_go (hg : 0 ≤ g) : ∀ (rs : List (List Tur)) {p q : Pl}, goR b g p rs = some q → worksGo b g p rs = (madeP b q, 0)
  | [], p, q, h => by injection h with h; rw [← h]; rfl
  | l :: rs, p, q, h => by
    obtain ⟨h1, h2⟩ := goR_cons h
    have h3 := roundE_ok.2 ((mem_allR hg).1 h1)
    show (if roundE b p g l = 0 then worksGo b g (movedAll p l) rs else (false, roundE b p g l)) = _
    rw [if_pos h3]; exact works_go hg rs h2
structure WIx (b : Barn) (g : Int) (rs : List (List Tur)) (k : Nat) (p : Pl) : Prop where
  same : worksGo b g (firstP b) rs = worksGo b g p (rs.drop k)
  le : k ≤ rs.length
theorem wix0 (b : Barn) (g : Int) (rs : List (List Tur)) : WIx b g rs 0 (firstP b) := ⟨by rw [List.drop_zero], Nat.zero_le _⟩
theorem WIx.stop {rs : List (List Tur)} {k : Nat} {p : Pl} (h : WIx b g rs k p) (hk : k < rs.length) (he : ¬ roundE b p g (nth rs k) = 0) : worksGo b g (firstP b) rs = (false, roundE b p g (nth rs k)) := by
  rw [h.same, drop_nth hk]; exact if_neg he
theorem WIx.next {rs : List (List Tur)} {k : Nat} {p : Pl} (h : WIx b g rs k p) (hk : k < rs.length) (he : roundE b p g (nth rs k) = 0) : WIx b g rs (k + 1) (movedAll p (nth rs k)) :=
  ⟨by rw [h.same, drop_nth hk]; exact if_pos he, hk⟩
theorem WIx.end {rs : List (List Tur)} {k : Nat} {p : Pl} (h : WIx b g rs k p) (hk : rs.length ≤ k) : worksGo b g (firstP b) rs = (madeP b p, 0) := by
  rw [h.same, List.drop_of_length_le hk]; rfl
theorem Rnds.works {rs : List (List Tur)} (h : Rnds b g 0 rs) (hr : b.Right) (hg : 1 ≤ g ∧ g ≤ 3) (hn : b.sizes.length ^ b.lots.length ≤ 6000) : worksV b g rs = (true, 0) := by
  have h0 := right_check hr
  have ha : askE b g = 0 := by unfold askE; rw [if_pos h0, if_pos (inB_true.2 hg)]
  have hs := h.short hr hg.1
  obtain ⟨q, h1, h2, _⟩ := h.yes rfl
  unfold worksV
  rw [if_pos ha, if_neg (by omega), works_go (by omega) rs h1, h2]
end Go.Proofs.Ytpnndljmhpepgaa

namespace Go.Proofs.Ytpnndljmhpepgaa
open Go Go.T
set_option maxHeartbeats 4000000
structure OIx (l : List Tur) (i : Nat) : Prop where
  pos : 1 ≤ i
  no : ∀ j, j + 1 < i → ¬ (nth l (j + 1)).lot ≤ (nth l j).lot
theorem oix1 (l : List Tur) : OIx l 1 := ⟨Nat.le_refl _, fun j h => by omega⟩
theorem OIx.next {l : List Tur} {i : Nat} (h : OIx l i) (hc : ¬ (nth l i).lot ≤ (nth l ((i : Int) - 1).toNat).lot) : OIx l (i + 1) := by
  have hp := h.pos
  refine ⟨by omega, fun j hj => ?_⟩
  by_cases e : j + 1 = i
  · rw [show ((i : Int) - 1).toNat = j by omega, ← e] at hc; exact hc
  · exact h.no j (by omega)
theorem OIx.yes {l : List Tur} {i : Nat} (h : OIx l i) (hi : i < l.length) (hc : (nth l i).lot ≤ (nth l ((i : Int) - 1).toNat).lot) : ordB l = true := by
  have hp := h.pos
  refine rng_at (k := i - 1) (by omega) (decide_eq_true ?_)
  rw [show ((i : Int) - 1).toNat = i - 1 by omega] at hc
  rw [show i - 1 + 1 = i by omega]; exact hc
theorem OIx.end {l : List Tur} {i : Nat} (h : OIx l i) (hi : l.length ≤ i) : ordB l = false := by
  unfold ordB
  exact any_range_false.2 fun j hj => decide_eq_false (h.no j (by omega))
section
variable {b : Barn} {p : Pl} {g : Int} {l : List Tur}
theorem rE1 (h : (!l.all fun t => b.lot t.lot && b.bin t.aim) = true) : roundE b p g l = 1 := if_pos h
theorem rE4 (h1 : (!l.all fun t => b.lot t.lot && b.bin t.aim) = false) (h : ordB l = true) : roundE b p g l = 4 := (if_neg (ng h1)).trans (if_pos h)
theorem rE5 (h1 : (!l.all fun t => b.lot t.lot && b.bin t.aim) = false) (h2 : ordB l = false) (h : twB b p l = true) : roundE b p g l = 5 := (if_neg (ng h1)).trans ((if_neg (ng h2)).trans (if_pos h))
theorem rE9 (h1 : (!l.all fun t => b.lot t.lot && b.bin t.aim) = false) (h2 : ordB l = false) (h3 : twB b p l = false) (h : (!l.all fun t => b.hold t.aim t.lot) = true) : roundE b p g l = 9 := (if_neg (ng h1)).trans ((if_neg (ng h2)).trans ((if_neg (ng h3)).trans (if_pos h)))
theorem rE2 (h1 : (!l.all fun t => b.lot t.lot && b.bin t.aim) = false) (h2 : ordB l = false) (h3 : twB b p l = false) (h4 : (!l.all fun t => b.hold t.aim t.lot) = false) (h : (l.length : Int) > g) : roundE b p g l = 2 := (if_neg (ng h1)).trans ((if_neg (ng h2)).trans ((if_neg (ng h3)).trans ((if_neg (ng h4)).trans (if_pos h))))
theorem rE0 (h1 : (!l.all fun t => b.lot t.lot && b.bin t.aim) = false) (h2 : ordB l = false) (h3 : twB b p l = false) (h4 : (!l.all fun t => b.hold t.aim t.lot) = false) (h : ¬ (l.length : Int) > g) : roundE b p g l = 0 := (if_neg (ng h1)).trans ((if_neg (ng h2)).trans ((if_neg (ng h3)).trans ((if_neg (ng h4)).trans (if_neg h))))
theorem all_rng (h1 : (!l.all fun t => b.lot t.lot && b.bin t.aim) = false) : ∀ t ∈ l, (0 ≤ t.lot ∧ t.lot < b.lots.length) ∧ 0 ≤ t.aim ∧ t.aim < b.sizes.length := fun t ht => by
  simp only [Bool.not_eq_false', List.all_eq_true, Bool.and_eq_true, Barn.lot, Barn.bin, inB_true] at h1
  have := h1 t ht; omega
theorem tw_no {k : Nat} (h : ∀ i, i < k → twI b p l i = false) (hk : l.length ≤ k) : twB b p l = false := any_range_false.2 fun i hi => h i (by omega)
theorem tw_yes {k : Nat} (hk : k < l.length) (h : twI b p l k = true) : twB b p l = true := rng_at (q := twI b p l) hk h
theorem worksV_1 {rs : List (List Tur)} (h : ¬ askE b g = 0) : worksV b g rs = (false, askE b g) := if_neg h
theorem worksV_2 {rs : List (List Tur)} (h : askE b g = 0) (h2 : (rs.length : Int) > 6000) : worksV b g rs = (false, 2) := (if_pos h).trans (if_pos h2)
theorem worksV_3 {rs : List (List Tur)} (h : askE b g = 0) (h2 : ¬ (rs.length : Int) > 6000) {x : Bool × Int} (e : worksGo b g (firstP b) rs = x) : worksV b g rs = x := (if_pos h).trans ((if_neg h2).trans e)
theorem pl_sub {p q : Pl} (h : p = q) (i : Nat) : (Ty.int .i64 (nth p.1 i)).Sub (Ty.int .i64 (nth q.1 i)) := Ty.sub_int (by rw [h])
def mvUp (p : Pl) (l : List Tur) (k : Nat) : Pl := movedAll p (l.take k)
theorem mvUp_succ {k : Nat} (hk : k < l.length) : moved (mvUp p l k) (nth l k) = mvUp p l (k + 1) := by unfold mvUp; rw [take_nth hk, movedAll_snoc]
theorem mvUp_all {k : Nat} (hk : l.length ≤ k) : mvUp p l k = movedAll p l := by unfold mvUp; rw [List.take_of_length_le hk]
end
attribute [local irreducible] dInt dBool dSl dPp dPtr dAgg dTup dClo dAny dEx dStr dGd dCells dVec dVs dRow dOp nth Tri Into TOps Ctr bodyPost Exit.then Exit.inBlock Code.wp Code.wpIn dWhen dPa dPe dAo dArr dMp dPm dMap dCJ CtrG CtrI OpY keepPost iterPost bodyPostM roundQ
set_option maxRecDepth 100000 in
theorem c_round1 (d : Desk) (hs : d.b.Small) (t : Tur) : Ctr Try.prog 142 [Ty.agg (TurE.tys t), Ty.pp [Ty.pe DeskE d 0]] (Ty.bool (d.b.lot t.lot && d.b.bin t.aim)) := by
  refine fn_intro Try.func142 rfl (by decide) Try.ntmps142 (by exact Nat.le_of_ble_eq_true rfl) fun w0 M0 => ?_
  refine t_seq ?_
  refine t_region ?_
  refine r_box_agg rfl ?_
  refine asB rfl ?_
  refine r_nil ?_
  refine i_then ?_
  refine t_seq ?_
  refine t_draw mixed rfl ?_
  refine r_load_pp rfl rfl rfl rfl ?_
  refine r_nilCheck_pe rfl ?_
  refine r_field_pe rfl rfl rfl rfl rfl (by decide) ?_
  refine r_load_peN rfl rfl rfl rfl rfl ?_
  refine r_field_pp rfl rfl rfl rfl rfl (by decide) ?_
  refine r_load_pp rfl rfl rfl rfl ?_
  refine r_call (c_lot d.b hs _) rfl rfl rfl rfl rfl ?_
  refine mvB rfl ?_
  apply r_guard (s := 11) rfl rfl rfl
  · intro hg; apply opT_of; (refine r_load_pp rfl rfl rfl rfl ?_); refine r_nil ?_; exact rfl
  · exact rfl
  · exact rfl
  apply r_guard (s := 11) rfl rfl rfl
  · intro hg; apply opT_strip (s := 12) rfl (by (rw [hg]; rfl)); apply opT_of; (refine r_nilCheck_pe rfl ?_); refine r_nil ?_; exact rfl
  · exact rfl
  · exact rfl
  apply r_guard (s := 11) rfl rfl rfl
  · intro hg; apply opT_strip (s := 13) rfl (by (rw [hg]; rfl)); apply opT_of; (refine r_field_pe rfl rfl rfl rfl rfl (by decide) ?_); refine r_nil ?_; exact rfl
  · exact rfl
  · exact rfl
  apply r_guard (s := 11) rfl rfl rfl
  · intro hg; apply opT_strip (s := 14) rfl (by (rw [hg]; rfl)); apply opT_of; (refine r_load_peN rfl rfl rfl rfl rfl ?_); refine r_nil ?_; exact rfl
  · exact rfl
  · exact rfl
  apply r_guard (s := 11) rfl rfl rfl
  · intro hg; apply opT_of; (refine r_field_pp rfl rfl rfl rfl rfl (by decide) ?_); refine r_nil ?_; exact rfl
  · exact rfl
  · exact rfl
  apply r_guard (s := 11) rfl rfl rfl
  · intro hg; apply opT_strip (s := 16) rfl (by (rw [hg]; rfl)); apply opT_of; (refine r_load_pp rfl rfl rfl rfl ?_); refine r_nil ?_; exact rfl
  · exact rfl
  · exact rfl
  apply r_guard (s := 11) rfl rfl rfl
  · intro hg; apply opT_strip (s := 15) rfl (by (rw [hg]; rfl)); apply opT_strip (s := 17) rfl (by (rw [hg]; rfl)); apply opT_of; (refine r_call (c_bin d.b hs _) rfl rfl rfl rfl rfl ?_); refine r_nil ?_; exact rfl
  · exact rfl
  · exact rfl
  refine r_and rfl rfl ?_
  refine asB rfl ?_
  refine r_nil ?_
  refine ⟨by kernel_rfl, ?_⟩
  refine i_then ?_
  refine t_ret ?_
  refine i_rp1 rfl rfl ?_
  all_goals exact ret_refl rfl rfl
set_option maxRecDepth 100000 in
theorem c_round2 (t u : Tur) : Ctr Try.prog 143 [Ty.agg (TurE.tys u), Ty.pp (TurE.tys t)] (Ty.bool (decide (u.aim = t.aim))) := by
  refine fn_intro Try.func143 rfl (by decide) Try.ntmps143 (by exact Nat.le_of_ble_eq_true rfl) fun w0 M0 => ?_
  refine t_seq ?_
  refine t_region ?_
  refine r_box_agg rfl ?_
  refine asB rfl ?_
  refine r_nil ?_
  refine i_then ?_
  refine t_seq ?_
  refine t_region ?_
  refine r_field_pp rfl rfl rfl rfl rfl (by decide) ?_
  refine r_load_pp rfl rfl rfl rfl ?_
  refine r_field_pp rfl rfl rfl rfl rfl (by decide) ?_
  refine r_load_pp rfl rfl rfl rfl ?_
  refine r_bin rfl rfl rfl ?_
  refine asB rfl ?_
  refine r_nil ?_
  refine i_then ?_
  refine t_ret ?_
  refine i_rp1 rfl rfl ?_
  all_goals exact ret_refl rfl rfl
set_option maxRecDepth 100000 in
theorem c_round3 (d : Desk) (t : Tur) (h : (0 ≤ t.lot ∧ t.lot < d.b.lots.length) ∧ 0 ≤ t.aim ∧ t.aim < d.b.sizes.length) : Ctr Try.prog 144 [Ty.agg (TurE.tys t), Ty.pp [Ty.pe DeskE d 0]] (Ty.bool (d.b.hold t.aim t.lot)) := by
  refine fn_intro Try.func144 rfl (by decide) Try.ntmps144 (by exact Nat.le_of_ble_eq_true rfl) fun w0 M0 => ?_
  refine t_seq ?_
  refine t_region ?_
  refine r_box_agg rfl ?_
  refine asB rfl ?_
  refine r_nil ?_
  refine i_then ?_
  refine t_seq ?_
  refine t_draw mixed rfl ?_
  refine r_load_pp rfl rfl rfl rfl ?_
  refine r_nilCheck_pe rfl ?_
  refine r_field_pe rfl rfl rfl rfl rfl (by decide) ?_
  refine r_load_peN rfl rfl rfl rfl rfl ?_
  refine r_field_pp rfl rfl rfl rfl rfl (by decide) ?_
  refine r_load_pp rfl rfl rfl rfl ?_
  refine r_field_pp rfl rfl rfl rfl rfl (by decide) ?_
  refine r_load_pp rfl rfl rfl rfl ?_
  refine r_call (c_holds d.b t.aim t.lot h.2 h.1) rfl rfl rfl rfl rfl ?_
  refine asB rfl ?_
  refine r_nil ?_
  refine ⟨by kernel_rfl, ?_⟩
  refine i_then ?_
  refine t_ret ?_
  refine i_rp1 rfl rfl ?_
  all_goals exact ret_refl rfl rfl
set_option maxRecDepth 100000 in
theorem c_round (d : Desk) (hs : d.b.Small) (h6 : d.b.lots.length ≤ 6) (p : Pl) (g : Int) (l : List Tur) (hl : l.length ≤ 400000000) : Ctr Try.prog 114 [Ty.pe DeskE d 0, Ty.agg (plT p), Ty.int .i64 g, Ty.sl TurE l] (Ty.int .i64 (roundE d.b p g l)) := by
  refine fn_intro Try.func114 rfl (by decide) Try.ntmps114 (by exact Nat.le_of_ble_eq_true rfl) fun w0 M0 => ?_
  refine t_seq ?_
  refine t_region ?_
  refine r_box_one (by exact (rfl : _ = Ty.pe _ _ _)) rfl ?_
  refine r_box_agg rfl ?_
  refine asI rfl ?_
  refine r_nil ?_
  refine i_then ?_
  refine t_seq ?_
  refine t_seq ?_
  refine t_region ?_
  refine mvS rfl ?_
  refine r_makeFunc rfl ?_
  refine r_call (c_every_tur l (Ty.clo 142 [Ty.pp [Ty.pe DeskE d 0]]) rfl (fun t => d.b.lot t.lot && d.b.bin t.aim) rfl rfl fun x _ => cal_clo (c_round1 d hs x) rfl rfl rfl rfl rfl rfl) rfl rfl rfl rfl rfl ?_
  refine r_not rfl ?_
  refine r_nil ?_
  refine i_then ?_
  refine t_cond rfl (fun hc1 => ?_) (fun hc1 => ?_)
  ·
    refine t_seq ?_
    refine t_region ?_
    refine asI rfl ?_
    refine r_nil ?_
    refine i_then ?_
    refine t_ret ?_
    refine i_then_ret ?_
    refine i_rp1 rfl rfl ?_
    all_goals skip
    all_goals exact ret_eq rfl rfl (congrArg (Ty.int .i64) (rE1 hc1).symm)
  ·
    refine t_skip ?_
    refine i_then ?_
    refine t_seq ?_
    refine t_seq ?_
    have har := all_rng hc1
    refine t_region ?_
    refine asI rfl ?_
    refine r_nil ?_
    refine i_then ?_
    refine t_block ?_
    refine t_loop (fun (i : {i : Nat // OIx l i}) => live [(2, Ty.int .i64 g), (3, Ty.sl TurE l), (4, Ty.pp [Ty.pe DeskE d 0]), (5, Ty.pp (plT p)), (9, Ty.int .i64 (i.1 : Nat))] []) (fun i => l.length - i.1) (⟨1, oix1 l⟩) ?_ fun i => ?_
    · (refine Ent.mk' ?_ ?_ <;> (repeat' (first | exact allSub_zero | exact allTags_nil | refine allSub_succ' ?_ (Ty.sub_any _) | refine allSub_succ' ?_ (Ty.sub_refl _))))
    ·
      have hi1 := i.2.pos
      refine t_seq ?_
      refine t_seq ?_
      refine t_region ?_
      refine mvI rfl ?_
      refine mvS rfl ?_
      refine r_len rfl rfl rfl ?_
      refine r_bin rfl rfl rfl ?_
      refine r_nil ?_
      refine i_then ?_
      refine t_cond_dec rfl (fun hc2 => ?_) (fun hc2 => ?_)
      ·
        refine t_skip ?_
        refine i_then ?_
        refine t_seq ?_
        refine t_block ?_
        refine t_seq ?_
        refine t_draw mixed rfl ?_
        refine mvS rfl ?_
        refine mvI rfl ?_
        refine r_index_slN rfl rfl rfl rfl rfl rfl (by omega) ?_
        refine r_field_pp rfl rfl rfl rfl rfl (by decide) ?_
        refine r_load_pp rfl rfl rfl rfl ?_
        refine mvS rfl ?_
        refine mvI rfl ?_
        refine r_sub rfl rfl (by omega) (by omega) ?_
        refine r_index_sl rfl rfl rfl rfl rfl rfl (by omega) (by omega) ?_
        refine r_field_pp rfl rfl rfl rfl rfl (by decide) ?_
        refine r_load_pp rfl rfl rfl rfl ?_
        refine r_bin rfl rfl rfl ?_
        refine r_nil ?_
        refine ⟨by kernel_rfl, ?_⟩
        refine i_then ?_
        refine t_cond_dec rfl (fun hc3 => ?_) (fun hc3 => ?_)
        ·
          refine t_seq ?_
          refine t_region ?_
          refine asI rfl ?_
          refine r_nil ?_
          refine i_then ?_
          refine t_ret ?_
          refine i_block_ret ?_
          refine i_then_ret ?_
          refine i_then_ret ?_
          refine i_block_ret ?_
          refine i_then_ret ?_
          refine i_rp1 rfl rfl ?_
          all_goals skip
          all_goals exact ret_eq rfl rfl (congrArg (Ty.int .i64) (rE4 hc1 (i.2.yes (by omega) hc3)).symm)
        ·
          refine t_skip ?_
          refine i_block ?_
          refine i_then ?_
          refine t_region ?_
          refine mvI rfl ?_
          refine r_add rfl rfl (by omega) (by omega) ?_
          refine asI rfl ?_
          refine r_nil ?_
          refine i_round (⟨i.1 + 1, i.2.next hc3⟩) ?_ (by show l.length - (i.1 + 1) < l.length - i.1; omega)
          (refine Ent.mk' ?_ ?_ <;> (repeat' (first | exact allSub_zero | exact allTags_nil | refine allSub_succ' ?_ (Ty.sub_any _) | refine allSub_succ' ?_ (Ty.sub_refl _))))
          all_goals skip
      ·
        refine t_exit ?_
        refine i_then_exit ?_
        refine i_then_exit ?_
        refine i_block_exit rfl ?_
        refine i_then ?_
        refine t_seq ?_
        refine t_seq ?_
        have hor := i.2.end (by omega)
        refine t_region ?_
        refine mvS rfl ?_
        refine r_len rfl rfl rfl ?_
        refine mvI rfl ?_
        refine r_nil ?_
        refine i_then ?_
        refine t_block ?_
        refine t_loop (fun (k : {k : Nat // ∀ i, i < k → twI d.b p l i = false}) => live [(2, Ty.int .i64 g), (3, Ty.sl TurE l), (4, Ty.pp [Ty.pe DeskE d 0]), (5, Ty.pp (plT p)), (34, Ty.sl TurE l), (35, Ty.int .i64 l.length), (36, Ty.int .i64 (k.1 : Nat))] []) (fun k => l.length - k.1) (⟨0, fun i hi => absurd hi (Nat.not_lt_zero i)⟩) ?_ fun k => ?_
        · (refine Ent.mk' ?_ ?_ <;> (repeat' (first | exact allSub_zero | exact allTags_nil | refine allSub_succ' ?_ (Ty.sub_any _) | refine allSub_succ' ?_ (Ty.sub_refl _))))
        ·
          refine t_seq ?_
          refine t_region ?_
          refine r_bin rfl rfl rfl ?_
          refine r_nil ?_
          refine i_then ?_
          refine t_seq ?_
          refine t_cond_dec rfl (fun hc4 => ?_) (fun hc4 => ?_)
          ·
            refine t_skip ?_
            refine i_then ?_
            refine t_seq ?_
            refine t_block ?_
            refine t_seq ?_
            refine t_region ?_
            refine mvI rfl ?_
            refine r_index_slN rfl rfl rfl rfl rfl rfl (by omega) ?_
            refine r_load_ppN rfl rfl rfl (by exact Nat.le_of_ble_eq_true rfl) ?_
            refine r_alloc rfl (by exact List.cons_ne_nil _ _) rfl ?_
            refine asI rfl ?_
            refine r_storeN rfl rfl (by decide) rfl rfl rfl rfl rfl rfl ?_
            refine r_nil ?_
            refine i_then ?_
            refine t_seq ?_
            refine t_pub (tg := 12) [(11, Ty.pp (TurE.tys (nth l k.1)))] (by decide) rfl ⟨pub_ptr (T := 55) (tg := 12) (off := 0) (l := TurE.tys (nth l k.1)) rfl rfl rfl (by decide), trivial⟩ ?_
            refine t_region ?_
            refine r_load_pp rfl rfl rfl rfl ?_
            refine r_load_ppN rfl rfl rfl (by exact Nat.le_of_ble_eq_true rfl) ?_
            refine r_field_pp rfl rfl rfl rfl rfl (by decide) ?_
            refine r_load_pp rfl rfl rfl rfl ?_
            refine r_call (c_taken d h6 p (nth l k.1).aim) rfl rfl rfl rfl rfl ?_
            refine mvB rfl ?_
            apply r_guard (s := 46) rfl rfl rfl
            · intro hg; apply opT_of; (refine mvS rfl ?_); refine r_nil ?_; exact rfl
            · exact rfl
            · exact rfl
            apply r_guard (s := 46) rfl rfl rfl
            · intro hg; apply opT_of; (refine mvI rfl ?_); refine r_nil ?_; exact rfl
            · exact rfl
            · exact rfl
            apply r_guard (s := 46) rfl rfl rfl
            · intro hg; apply opT_strip (s := 47) rfl (by (rw [hg]; rfl)); apply opT_strip (s := 48) rfl (by (rw [hg]; rfl)); apply opT_of; (refine r_cut_hi rfl rfl rfl rfl rfl rfl (show k.1 ≤ l.length by omega) ?_); refine r_nil ?_; exact rfl
            · exact rfl
            · exact rfl
            apply r_guard (s := 46) rfl rfl rfl
            · intro hg; apply opT_of; (refine r_makeFunc rfl ?_); refine r_nil ?_; exact rfl
            · exact rfl
            · exact rfl
            apply r_guard (s := 46) rfl rfl rfl
            · intro hg; apply opT_strip (s := 49) rfl (by (rw [hg]; rfl)); apply opT_strip (s := 50) rfl (by (rw [hg]; rfl)); apply opT_of; (refine r_call (c_ContainsFunc_tur (l.take k.1) (Ty.clo 143 [Ty.pp (TurE.tys (nth l k.1))]) rfl (fun u => decide (u.aim = (nth l k.1).aim)) rfl rfl fun x _ => cal_clo (c_round2 _ x) rfl rfl rfl rfl rfl rfl) rfl rfl rfl rfl rfl ?_); refine r_nil ?_; exact rfl
            · exact rfl
            · exact rfl
            refine r_or rfl rfl ?_
            refine r_nil ?_
            refine i_then ?_
            refine t_cond rfl (fun hc5 => ?_) (fun hc5 => ?_)
            ·
              refine t_seq ?_
              refine t_region ?_
              refine asI rfl ?_
              refine r_nil ?_
              refine i_then ?_
              refine t_ret ?_
              refine i_block_ret ?_
              refine i_then_ret ?_
              refine i_then_ret ?_
              refine i_block_ret ?_
              refine i_then_ret ?_
              refine i_rp1 rfl rfl ?_
              all_goals skip
              all_goals exact ret_eq rfl rfl (congrArg (Ty.int .i64) (rE5 hc1 hor (tw_yes (by omega) hc5)).symm)
            ·
              refine t_skip ?_
              refine i_block ?_
              refine i_then ?_
              refine t_region ?_
              refine r_add rfl rfl (by omega) (by omega) ?_
              refine mvI rfl ?_
              refine r_nil ?_
              refine i_round (⟨k.1 + 1, rng_ext k.2 hc5⟩) ?_ (by show l.length - (k.1 + 1) < l.length - k.1; omega)
              (refine Ent.mk' ?_ ?_ <;> (repeat' (first | exact allSub_zero | exact allTags_nil | refine allSub_succ' ?_ (Ty.sub_any _) | refine allSub_succ' ?_ (Ty.sub_refl _))))
              all_goals skip
          ·
            refine t_exit ?_
            refine i_then_exit ?_
            refine i_then_exit ?_
            refine i_block_exit rfl ?_
            refine i_then ?_
            refine t_seq ?_
            refine t_seq ?_
            have htw := tw_no k.2 (by omega)
            refine t_region ?_
            refine mvS rfl ?_
            refine r_makeFunc rfl ?_
            refine r_call (c_every_tur l (Ty.clo 144 [Ty.pp [Ty.pe DeskE d 0]]) rfl (fun t => d.b.hold t.aim t.lot) rfl rfl fun x hx => cal_clo (c_round3 d x (har x hx)) rfl rfl rfl rfl rfl rfl) rfl rfl rfl rfl rfl ?_
            refine r_not rfl ?_
            refine r_nil ?_
            refine i_then ?_
            refine t_cond rfl (fun hc6 => ?_) (fun hc6 => ?_)
            ·
              refine t_seq ?_
              refine t_region ?_
              refine asI rfl ?_
              refine r_nil ?_
              refine i_then ?_
              refine t_ret ?_
              refine i_then_ret ?_
              refine i_rp1 rfl rfl ?_
              all_goals skip
              all_goals exact ret_eq rfl rfl (congrArg (Ty.int .i64) (rE9 hc1 hor htw hc6).symm)
            ·
              refine t_skip ?_
              refine i_then ?_
              refine t_seq ?_
              refine t_seq ?_
              refine t_region ?_
              refine mvS rfl ?_
              refine r_len rfl rfl rfl ?_
              refine mvI rfl ?_
              refine r_bin rfl rfl rfl ?_
              refine r_nil ?_
              refine i_then ?_
              refine t_cond_dec rfl (fun hc7 => ?_) (fun hc7 => ?_)
              ·
                refine t_seq ?_
                refine t_region ?_
                refine asI rfl ?_
                refine r_nil ?_
                refine i_then ?_
                refine t_ret ?_
                refine i_then_ret ?_
                refine i_rp1 rfl rfl ?_
                all_goals skip
                all_goals exact ret_eq rfl rfl (congrArg (Ty.int .i64) (rE2 hc1 hor htw hc6 hc7).symm)
              ·
                refine t_skip ?_
                refine i_then ?_
                refine t_seq ?_
                refine t_region ?_
                refine asI rfl ?_
                refine r_nil ?_
                refine i_then ?_
                refine t_ret ?_
                refine i_rp1 rfl rfl ?_
                all_goals skip
                all_goals exact ret_eq rfl rfl (congrArg (Ty.int .i64) (rE0 hc1 hor htw hc6 hc7).symm)
set_option maxRecDepth 100000 in
theorem c_Works (b : Barn) (hs : b.Small) (g : Int) (rs : List (List Tur)) (hl : ∀ l ∈ rs, l.length ≤ 400000000) : Ctr Try.prog 58 [barnT b, Ty.int .i64 g, Ty.sl RowT rs] (Ty.tup [Ty.bool (worksV b g rs).1, Ty.int .i64 (worksV b g rs).2]) := by
  refine fn_intro Try.func58 rfl (by decide) Try.ntmps58 (by exact Nat.le_of_ble_eq_true rfl) fun w0 M0 => ?_
  refine t_seq ?_
  refine t_region ?_
  refine r_box_agg rfl ?_
  refine asB rfl ?_
  refine asI rfl ?_
  refine r_nil ?_
  refine i_then ?_
  refine t_seq ?_
  refine t_region ?_
  refine r_load_ppN rfl rfl rfl (by exact Nat.le_of_ble_eq_true rfl) ?_
  refine mvI rfl ?_
  refine r_call (c_asked b hs g) rfl rfl rfl rfl rfl ?_
  refine mvT rfl ?_
  refine r_extract rfl rfl ?_
  refine r_extract rfl rfl ?_
  refine asW rfl ?_
  refine asI rfl ?_
  refine r_nil ?_
  refine i_then ?_
  refine t_seq ?_
  refine t_seq ?_
  refine t_region ?_
  refine mvI rfl ?_
  refine r_bin rfl rfl rfl ?_
  refine r_nil ?_
  refine i_then ?_
  refine t_cond_ndec rfl (fun hc1 => ?_) (fun hc1 => ?_)
  ·
    refine t_seq ?_
    refine t_region ?_
    refine mvI rfl ?_
    refine asB rfl ?_
    refine asI rfl ?_
    refine r_nil ?_
    refine i_then ?_
    refine t_ret ?_
    refine i_then_ret ?_
    refine i_rp2 rfl rfl rfl ?_ ?_
    all_goals skip
    all_goals first | exact ret_eq rfl rfl (congrArg (fun z : Bool × Int => Ty.bool z.1) (worksV_1 hc1).symm) | exact ret_eq rfl rfl (congrArg (fun z : Bool × Int => Ty.int .i64 z.2) (worksV_1 hc1).symm)
  ·
    refine t_skip ?_
    refine i_then ?_
    refine t_seq ?_
    refine t_seq ?_
    have hask := ask_zero hc1
    have hr := check_right hask.1
    have h6 := hr.lots
    refine t_as (s := 8) rfl (Ty.when_sub (decide_eq_true hc1)) ?_
    refine t_region ?_
    refine mvS rfl ?_
    refine r_len rfl rfl rfl ?_
    refine r_bin rfl rfl rfl ?_
    refine r_nil ?_
    refine i_then ?_
    refine t_cond_dec rfl (fun hc2 => ?_) (fun hc2 => ?_)
    ·
      refine t_seq ?_
      refine t_region ?_
      refine asB rfl ?_
      refine asI rfl ?_
      refine r_nil ?_
      refine i_then ?_
      refine t_ret ?_
      refine i_then_ret ?_
      refine i_rp2 rfl rfl rfl ?_ ?_
      all_goals skip
      all_goals first | exact ret_eq rfl rfl (congrArg (fun z : Bool × Int => Ty.bool z.1) (worksV_2 hc1 hc2).symm) | exact ret_eq rfl rfl (congrArg (fun z : Bool × Int => Ty.int .i64 z.2) (worksV_2 hc1 hc2).symm)
    ·
      refine t_skip ?_
      refine i_then ?_
      refine t_seq ?_
      refine t_region ?_
      refine mvPe rfl ?_
      refine r_nilCheck_pe rfl ?_
      refine r_field_pe rfl rfl rfl rfl rfl (by decide) ?_
      refine r_load_peN rfl rfl rfl rfl rfl ?_
      refine r_alloc rfl (by exact List.cons_ne_nil _ _) rfl ?_
      refine r_storeN rfl rfl (by decide) rfl rfl rfl rfl rfl rfl ?_
      refine r_nil ?_
      refine i_then ?_
      refine t_seq ?_
      refine t_seq ?_
      refine t_region ?_
      refine mvS rfl ?_
      refine r_len rfl rfl rfl ?_
      refine mvI rfl ?_
      refine r_nil ?_
      refine i_then ?_
      refine t_block ?_
      refine t_loop (fun (x : {x : Nat × Pl // WIx b g rs x.1 x.2}) => live [(1, Ty.int .i64 g), (8, Ty.pe DeskE ⟨b, firstP b⟩ 0), (10, Ty.ptr 11 0), (32, Ty.sl RowT rs), (33, Ty.int .i64 rs.length), (34, Ty.int .i64 (x.1.1 : Nat))] [(11, Cont.cells 123 (plT x.1.2))]) (fun x => rs.length - x.1.1) (⟨(0, firstP b), wix0 b g rs⟩) ?_ fun x => ?_
      · (refine Ent.mk' ?_ ?_ <;> (repeat' (first | exact allSub_zero | exact allTags_nil | refine allSub_succ' ?_ (Ty.sub_any _) | refine allSub_succ' ?_ (Ty.sub_refl _) | refine allTags_cons rfl (Cont.sub_refl _) ?_)))
      ·
        have hxe := x.2.le
        refine t_seq ?_
        refine t_region ?_
        refine r_bin rfl rfl rfl ?_
        refine r_nil ?_
        refine i_then ?_
        refine t_seq ?_
        refine t_cond_dec rfl (fun hc3 => ?_) (fun hc3 => ?_)
        ·
          refine t_skip ?_
          refine i_then ?_
          refine t_seq ?_
          refine t_block ?_
          refine t_seq ?_
          refine t_region ?_
          refine r_index_slN rfl rfl rfl rfl rfl rfl (by omega) ?_
          refine r_load_pp rfl rfl rfl rfl ?_
          refine asS rfl ?_
          refine r_nil ?_
          refine i_then ?_
          refine t_seq ?_
          refine t_seq ?_
          refine t_region ?_
          refine mvPe rfl ?_
          refine r_load_ptrN rfl rfl (by decide) rfl rfl (by exact Nat.le_of_ble_eq_true rfl) ?_
          refine mvI rfl ?_
          refine mvS rfl ?_
          refine r_call (c_round ⟨b, firstP b⟩ hs h6 x.1.2 g (nth rs x.1.1) (hl _ (nth_mem (by omega)))) rfl rfl rfl rfl rfl ?_
          refine asI rfl ?_
          refine r_nil ?_
          refine i_then ?_
          refine t_seq ?_
          refine t_region ?_
          refine mvI rfl ?_
          refine r_bin rfl rfl rfl ?_
          refine r_nil ?_
          refine i_then ?_
          refine t_cond_ndec rfl (fun hc4 => ?_) (fun hc4 => ?_)
          ·
            refine t_seq ?_
            refine t_region ?_
            refine mvI rfl ?_
            refine asB rfl ?_
            refine asI rfl ?_
            refine r_nil ?_
            refine i_then ?_
            refine t_ret ?_
            refine i_then_ret ?_
            refine i_block_ret ?_
            refine i_then_ret ?_
            refine i_then_ret ?_
            refine i_block_ret ?_
            refine i_then_ret ?_
            refine i_rp2 rfl rfl rfl ?_ ?_
            all_goals skip
            all_goals first | exact ret_eq rfl rfl (congrArg (fun z : Bool × Int => Ty.bool z.1) (worksV_3 hc1 hc2 (x.2.stop (by omega) hc4)).symm) | exact ret_eq rfl rfl (congrArg (fun z : Bool × Int => Ty.int .i64 z.2) (worksV_3 hc1 hc2 (x.2.stop (by omega) hc4)).symm)
          ·
            refine t_skip ?_
            refine i_then ?_
            refine t_seq ?_
            have hRo : RoundOk b x.1.2 g (nth rs x.1.1) := roundE_ok.1 hc4
            have hll := hl _ (nth_mem (xs := rs) (k := x.1.1) (by omega))
            refine t_region ?_
            refine mvS rfl ?_
            refine r_len rfl rfl rfl ?_
            refine mvI rfl ?_
            refine r_nil ?_
            refine i_then ?_
            refine t_block ?_
            refine t_loop (fun (j : {j : Nat // j ≤ (nth rs x.1.1).length}) => live [(1, Ty.int .i64 g), (8, Ty.pe DeskE ⟨b, firstP b⟩ 0), (10, Ty.ptr 11 0), (32, Ty.sl RowT rs), (33, Ty.int .i64 rs.length), (34, Ty.int .i64 (x.1.1 : Nat)), (46, Ty.sl TurE (nth rs x.1.1)), (47, Ty.int .i64 (nth rs x.1.1).length), (48, Ty.int .i64 (j.1 : Nat))] [(11, Cont.cells 123 (plT (mvUp x.1.2 (nth rs x.1.1) j.1)))]) (fun j => (nth rs x.1.1).length - j.1) (⟨0, by omega⟩) ?_ fun j => ?_
            · (refine Ent.mk' ?_ ?_ <;> (repeat' (first | exact allSub_zero | exact allTags_nil | refine allSub_succ' ?_ (Ty.sub_any _) | refine allSub_succ' ?_ (Ty.sub_refl _) | refine allTags_cons rfl (Cont.sub_refl _) ?_)))
              all_goals trace_state
            ·
              have hj := j.2
              refine t_seq ?_
              refine t_region ?_
              refine r_bin rfl rfl rfl ?_
              refine r_nil ?_
              refine i_then ?_
              refine t_seq ?_
              refine t_cond_dec rfl (fun hc5 => ?_) (fun hc5 => ?_)
              ·
                refine t_skip ?_
                refine i_then ?_
                refine t_seq ?_
                refine t_block ?_
                refine t_seq ?_
                refine t_region ?_
                refine r_index_slN rfl rfl rfl rfl rfl rfl (by omega) ?_
                refine r_load_ppN rfl rfl rfl (by exact Nat.le_of_ble_eq_true rfl) ?_
                refine r_alloc rfl (by exact List.cons_ne_nil _ _) rfl ?_
                refine r_storeN rfl rfl (by decide) rfl rfl rfl rfl rfl rfl ?_
                refine r_nil ?_
                refine i_then ?_
                have hto := hRo.ok _ (nth_mem (xs := nth rs x.1.1) (k := j.1) (by omega))
                have htl := hto.1
                refine t_region ?_
                refine r_field_ptr rfl rfl rfl rfl rfl (by decide) ?_
                refine r_load_ptr rfl rfl (by decide) rfl rfl rfl ?_
                refine r_field_ptr rfl rfl rfl rfl rfl (by decide) ?_
                refine r_load_ptr rfl rfl (by decide) rfl rfl rfl ?_
                refine r_index_ptrI (n := 6) rfl rfl rfl rfl rfl htl.1 (by omega) ?_
                refine r_store1 (l' := plT (moved (mvUp x.1.2 (nth rs x.1.1) j.1) (nth (nth rs x.1.1) j.1))) rfl rfl (by decide) rfl rfl (by exact (rfl : _ = Ty.int _ _)) rfl (by show 0 + _ * 1 < 6; omega) rfl rfl (pl_moved _ _ (by omega)) ?_
                refine r_nil ?_
                refine i_block ?_
                refine i_then ?_
                refine t_region ?_
                refine r_add rfl rfl (by omega) (by omega) ?_
                refine mvI rfl ?_
                refine r_nil ?_
                refine i_round (⟨j.1 + 1, by omega⟩) ?_ (by show (nth rs x.1.1).length - (j.1 + 1) < (nth rs x.1.1).length - j.1; omega)
                (refine Ent.mk' ?_ ?_ <;> (repeat' (first | exact allSub_zero | exact allTags_nil | exact subs_nil | refine allSub_succ' ?_ (Ty.sub_any _) | refine allSub_succ' ?_ (Ty.sub_refl _) | refine allTags_cons rfl (Cont.sub_subs ?_) ?_ | refine subs_cons ?_ ?_)))
                all_goals skip
                all_goals exact pl_sub (mvUp_succ (by omega)) _
              ·
                refine t_exit ?_
                refine i_then_exit ?_
                refine i_then_exit ?_
                refine i_block_exit rfl ?_
                refine i_block ?_
                refine i_then ?_
                refine t_region ?_
                refine r_add rfl rfl (by omega) (by omega) ?_
                refine mvI rfl ?_
                refine r_nil ?_
                refine i_round (⟨(x.1.1 + 1, movedAll x.1.2 (nth rs x.1.1)), x.2.next (by omega) hc4⟩) ?_ (by show rs.length - (x.1.1 + 1) < rs.length - x.1.1; omega)
                (refine Ent.mk' ?_ ?_ <;> (repeat' (first | exact allSub_zero | exact allTags_nil | exact subs_nil | refine allSub_succ' ?_ (Ty.sub_any _) | refine allSub_succ' ?_ (Ty.sub_refl _) | refine allTags_cons rfl (Cont.sub_subs ?_) ?_ | refine subs_cons ?_ ?_)))
                all_goals skip
                all_goals exact pl_sub (mvUp_all (by omega)) _
        ·
          refine t_exit ?_
          refine i_then_exit ?_
          refine i_then_exit ?_
          refine i_block_exit rfl ?_
          refine i_then ?_
          refine t_seq ?_
          refine t_region ?_
          refine mvPe rfl ?_
          refine r_load_ptrN rfl rfl (by decide) rfl rfl (by exact Nat.le_of_ble_eq_true rfl) ?_
          refine r_call (c_made ⟨b, firstP b⟩ h6 x.1.2) rfl rfl rfl rfl rfl ?_
          refine asB rfl ?_
          refine asI rfl ?_
          refine r_nil ?_
          refine i_then ?_
          refine t_ret ?_
          refine i_rp2 rfl rfl rfl ?_ ?_
          all_goals skip
          all_goals first | exact ret_eq rfl rfl (congrArg (fun z : Bool × Int => Ty.bool z.1) (worksV_3 hc1 hc2 (x.2.end (by omega))).symm) | exact ret_eq rfl rfl (congrArg (fun z : Bool × Int => Ty.int .i64 z.2) (worksV_3 hc1 hc2 (x.2.end (by omega))).symm)
end Go.Proofs.Ytpnndljmhpepgaa

namespace Go.Proofs.Ytpnndljmhpepgaa
open Go Go.T
set_option maxHeartbeats 4000000
open Classical in
noncomputable def lastV (b : Barn) (k : Nat) : Int := if k = 1 ∨ planE b oneC ≠ 0 then costR b oneC else ((roundsV b ((k - 1 : Nat) : Int)).length : Nat)
theorem last_one (b : Barn) : lastV b 1 = costR b oneC := if_pos (.inl rfl)
theorem last_stay {b : Barn} (k : Nat) (h : ¬ planE b oneC = 0) : lastV b k = lastV b (k + 1) := (if_pos (.inr h)).trans (if_pos (.inr h)).symm
theorem last_next {b : Barn} {k : Nat} (hk : 1 ≤ k) (h : planE b oneC = 0) : ((roundsV b (k : Nat)).length : Int) = lastV b (k + 1) := by
  unfold lastV
  have e1 : ¬ (k + 1 = 1 ∨ planE b oneC ≠ 0) := fun e => e.elim (fun e => by omega) fun e => e h
  rw [if_neg e1, Nat.add_sub_cancel]
structure Gang (b : Barn) (k : Nat) (rs : List (List Tur)) : Prop where
  works : worksV b k rs = (true, 0)
  len : rs.length ≤ 700
  last : (rs.length : Int) ≤ lastV b k
  one : k = 1 → (rs.length : Int) = costR b oneC
  few : costR b oneC ≤ (rs.length : Int) * (k : Nat)
  mul : 0 ≤ (rs.length : Int) * (k : Nat) ∧ (rs.length : Int) * (k : Nat) ≤ 2100
  right : rightV b rs.flatten = true
  rows : ∀ l ∈ rs, 0 < l.length ∧ (l.length : Int) ≤ (k : Nat)
  flat : rs.flatten.length ≤ 400000000
  small : ∀ l ∈ rs, l.length ≤ 400000000
theorem gang {b : Barn} (hr : b.Right) (h5 : (b.sizes.length : Int) ≤ 5) (h4 : (b.lots.length : Int) ≤ 4) {k : Nat} (hk : 1 ≤ k ∧ k ≤ 3) (hE : planE b oneC = 0) : Gang b k (roundsV b (k : Nat)) := by
  have h6 := hr.lots
  have hO := cheap hr (one_ok b)
  have hg : 1 ≤ ((k : Nat) : Int) ∧ ((k : Nat) : Int) ≤ 3 := by omega
  have hR := rnds hr hg
  have hS := hR.same h6 hg.1 hO
  rw [hS, hE] at hR
  rw [hE] at hO
  have hp : b.sizes.length ^ b.lots.length ≤ 625 := Nat.le_trans (Nat.pow_le_pow_left (show b.sizes.length ≤ 5 by omega) _) (Nat.le_trans (Nat.pow_le_pow_right (by decide) (show b.lots.length ≤ 4 by omega)) (by decide))
  have hs := hR.short hr hg.1
  have hf := hR.few h6 hg.1 hO
  have hm : 0 ≤ ((roundsV b (k : Nat)).length : Int) * (k : Nat) ∧ ((roundsV b (k : Nat)).length : Int) * (k : Nat) ≤ 2100 := by
    refine ⟨Int.mul_nonneg (by omega) (by omega), ?_⟩
    exact Int.le_trans (Int.mul_le_mul (show ((roundsV b (k : Nat)).length : Int) ≤ 700 by omega) hg.2 (by omega) (by decide)) (by decide)
  have hrow := hR.rows hg.1
  have hfl := flat_le (by omega) _ fun l hl => (hrow l hl).2
  refine ⟨hR.works hr hg (by omega), by omega, ?_, fun e => ?_, hf.1, hm, hR.right h6 hg.1, hrow, by omega, fun l hl => by have := (hrow l hl).2; omega⟩
  · by_cases e : k = 1
    · subst e; rw [last_one]; exact hf.2
    · obtain ⟨j, rfl⟩ : ∃ j, k = j + 1 := ⟨k - 1, by omega⟩
      have hg' : 1 ≤ ((j : Nat) : Int) ∧ ((j : Nat) : Int) ≤ 3 := by omega
      have hR' := rnds hr hg'
      have hS' := hR'.same h6 hg'.1 (cheap hr (one_ok b))
      rw [hS', hE] at hR'
      rw [← last_next (by omega) hE]
      have e1 : (((j + 1 : Nat) : Nat) : Int) = (j : Int) + 1 := by omega
      rw [e1] at hR ⊢
      have := hR'.less hR hg'.1
      omega
  · subst e
    have h1 := hf.1
    have h2 := hf.2
    omega
theorem lgg {b : Barn} {k : Nat} {rs : List (List Tur)} (h : Gang b k rs) : (((((((!decide ((0 : Int) = 0) || !true) || !decide ((rs.length : Int) = rs.length)) || decide ((rs.length : Int) > lastV b k)) || (decide (((k : Nat) : Int) = 1) && !decide ((rs.length : Int) = costR b oneC))) || decide ((rs.length : Int) * (k : Nat) < costR b oneC)) || !rightV b rs.flatten)) = false := by
  have h1 := h.last
  have h2 := h.few
  rw [h.right, decide_eq_false (show ¬ (rs.length : Int) > lastV b k by omega), decide_eq_false (show ¬ (rs.length : Int) * (k : Nat) < costR b oneC by omega)]
  by_cases e : k = 1
  · rw [decide_eq_true (h.one e)]; simp
  · rw [decide_eq_false (show ¬ ((k : Nat) : Int) = 1 by omega)]; simp
theorem lgr {b : Barn} {k j : Nat} {rs : List (List Tur)} (h : Gang b k rs) (hj : j < rs.length) : (decide (((nth rs j).length : Int) > (k : Nat)) || decide (((nth rs j).length : Int) = 0)) = false := by
  have := h.rows _ (nth_mem hj)
  rw [decide_eq_false (by omega), decide_eq_false (by omega)]; rfl
theorem lge {e : Int} (h : e = 0 ∨ e = 7) : ((decide (e = 0) || decide (e = 7)) && true) = true := by
  rcases h with rfl | rfl <;> rfl
attribute [local irreducible] planE costR roundsV roundsE lastV rightV worksV
attribute [local irreducible] dInt dBool dSl dPp dPtr dAgg dTup dClo dAny dEx dStr dGd dCells dVec dVs dRow dOp nth Tri Into TOps Ctr bodyPost Exit.then Exit.inBlock Code.wp Code.wpIn dWhen dPa dPe dAo dArr dMp dPm dMap dCJ CtrG CtrI OpY keepPost iterPost bodyPostM roundQ
set_option maxRecDepth 100000 in
theorem c_TurnGangs (g : List Int) : Ctr Try.prog 11 [Ty.sl U8 g] (Ty.bool true) := by
  refine fn_intro Try.func11 rfl (by decide) Try.ntmps11 (by exact Nat.le_of_ble_eq_true rfl) fun w0 M0 => ?_
  refine t_seq ?_
  refine t_region ?_
  refine asB rfl ?_
  refine r_nil ?_
  refine i_then ?_
  refine t_seq ?_
  obtain ⟨b, s1, hr, hb5, hl4, hM⟩ := made8 g 5 4 ⟨by decide, by decide⟩ ⟨by decide, by decide⟩
  have h0 := right_check hr
  have hs := small_right hr
  have h6 := hr.lots
  have hO := cheap hr (one_ok b)
  refine t_region ?_
  refine mvS rfl ?_
  refine r_callG [(18, 10)] [18] [(18, Cont.cells 141 (skTys (skFill g)))] (c_Fill g) rfl rfl (by repeat (first | exact cv_nil | refine cv_cons ?_ ?_ | exact cv_pub rfl rfl)) pre_nil (post_cons (a := 18) (b := 10) (by exact List.mem_cons_self) rfl (cc_cells_eq (by exact List.mem_cons_self) rfl rfl rfl) post_nil) (cv_ptr (by exact List.mem_cons_self)) ?_
  refine r_callG [(18, 1000)] [] [(18, Cont.cells 141 (skTys (s1)))] (hM) rfl rfl (by repeat (first | exact cv_nil | refine cv_cons ?_ ?_ | exact cv_ptr List.mem_cons_self | exact cv_pub rfl rfl)) (pre_cons (a := 18) (b := 1000) (by exact List.mem_cons_self) rfl (cc_cells_eq (by exact List.mem_cons_self) rfl rfl rfl) pre_nil) (post_cons (a := 18) (b := 1000) (by exact List.mem_cons_self) rfl (cc_cells_eq (by exact List.mem_cons_self) rfl rfl rfl) post_nil) (cv_pub rfl rfl) ?_
  refine r_alloc rfl (by exact List.cons_ne_nil _ _) rfl ?_
  refine r_storeN rfl rfl (by decide) rfl rfl rfl rfl rfl rfl ?_
  refine r_nil ?_
  refine i_then ?_
  refine t_seq ?_
  refine t_region ?_
  refine r_load_ptrN rfl rfl (by decide) rfl rfl (by exact Nat.le_of_ble_eq_true rfl) ?_
  refine r_call (c_Fewest b hs) rfl rfl rfl rfl rfl ?_
  refine mvT rfl ?_
  refine r_extract rfl rfl ?_
  refine r_extract rfl rfl ?_
  refine asI rfl ?_
  refine asI rfl ?_
  refine r_nil ?_
  refine i_then ?_
  refine t_seq ?_
  refine t_region ?_
  refine mvI rfl ?_
  refine asI rfl ?_
  refine r_nil ?_
  refine i_then ?_
  refine t_seq ?_
  refine t_seq ?_
  refine t_region ?_
  refine asI rfl ?_
  refine r_nil ?_
  refine i_then ?_
  refine t_block ?_
  refine t_loop (fun (k : {k : Nat // 1 ≤ k ∧ k ≤ 4}) => live [(3, Ty.ptr 4 0), (4, Ty.int .i64 (costR b oneC)), (5, Ty.int .i64 (planE b oneC)), (6, Ty.int .i64 (lastV b k.1)), (7, Ty.int .i64 (k.1 : Nat))] [(4, Cont.cells 25 (barnTys b))]) (fun k => 4 - k.1) (⟨1, by omega⟩) ?_ fun k => ?_
  · (refine Ent.mk' ?_ ?_ <;> (repeat' (first | exact allSub_zero | exact allTags_nil | refine allSub_succ' ?_ (Ty.sub_any _) | refine allSub_succ' ?_ (Ty.sub_refl _) | refine allTags_cons rfl (Cont.sub_refl _) ?_ | refine allSub_succ' ?_ ?_)))
    all_goals exact Ty.sub_int (last_one b).symm
  ·
    have hk := k.2
    refine t_seq ?_
    refine t_seq ?_
    refine t_region ?_
    refine mvI rfl ?_
    refine r_bin rfl rfl rfl ?_
    refine r_nil ?_
    refine i_then ?_
    refine t_cond_dec rfl (fun hc1 => ?_) (fun hc1 => ?_)
    ·
      refine t_skip ?_
      refine i_then ?_
      refine t_seq ?_
      refine t_block ?_
      refine t_seq ?_
      refine t_region ?_
      refine r_load_ptrN rfl rfl (by decide) rfl rfl (by exact Nat.le_of_ble_eq_true rfl) ?_
      refine mvI rfl ?_
      refine r_call (c_Rounds b hs (k.1 : Nat)) rfl rfl rfl rfl rfl ?_
      refine mvT rfl ?_
      refine r_extract rfl rfl ?_
      refine r_extract rfl rfl ?_
      refine asS rfl ?_
      refine asI rfl ?_
      refine r_nil ?_
      refine i_then ?_
      refine t_seq ?_
      refine t_region ?_
      refine r_load_ptrN rfl rfl (by decide) rfl rfl (by exact Nat.le_of_ble_eq_true rfl) ?_
      refine mvI rfl ?_
      refine r_call (c_Least b hs (k.1 : Nat)) rfl rfl rfl rfl rfl ?_
      refine mvT rfl ?_
      refine r_extract rfl rfl ?_
      refine r_extract rfl rfl ?_
      refine asI rfl ?_
      refine asI rfl ?_
      refine r_nil ?_
      refine i_then ?_
      refine t_seq ?_
      refine t_seq ?_
      have hS := (rnds hr (show 1 ≤ ((k.1 : Nat) : Int) ∧ ((k.1 : Nat) : Int) ≤ 3 by omega)).same h6 (by omega) hO
      refine t_as (s := 9) rfl (Ty.sub_int hS) ?_
      refine t_as (s := 11) rfl (Ty.sub_int hS) ?_
      refine t_region ?_
      refine mvI rfl ?_
      refine mvI rfl ?_
      refine r_bin rfl rfl rfl ?_
      refine mvB rfl ?_
      apply r_guard (s := 44) rfl rfl rfl
      · intro hg; apply opT_of; (refine mvI rfl ?_); refine r_nil ?_; exact rfl
      · exact rfl
      · exact rfl
      apply r_guard (s := 44) rfl rfl rfl
      · intro hg; apply opT_of; (refine mvI rfl ?_); refine r_nil ?_; exact rfl
      · exact rfl
      · exact rfl
      apply r_guard (s := 44) rfl rfl rfl
      · intro hg; apply opT_strip (s := 45) rfl (by (rw [hg]; rfl)); apply opT_strip (s := 46) rfl (by (rw [hg]; rfl)); apply opT_of; (refine r_bin rfl rfl rfl ?_); refine r_nil ?_; exact rfl
      · exact rfl
      · exact rfl
      refine r_or rfl rfl ?_
      refine r_nil ?_
      refine i_then ?_
      refine t_cond_ff rfl (by simp) ?_
      refine t_skip ?_
      refine i_then ?_
      refine t_seq ?_
      refine t_seq ?_
      refine t_region ?_
      refine mvI rfl ?_
      refine r_bin rfl rfl rfl ?_
      refine r_nil ?_
      refine i_then ?_
      refine t_cond_ndec rfl (fun hc3 => ?_) (fun hc3 => ?_)
      ·
        refine t_exit ?_
        refine i_then_exit ?_
        refine i_block_exit rfl ?_
        refine i_then ?_
        refine t_region ?_
        refine mvI rfl ?_
        refine r_add rfl rfl (by omega) (by omega) ?_
        refine asI rfl ?_
        refine r_nil ?_
        refine i_round (⟨k.1 + 1, by omega⟩) ?_ (by show 4 - (k.1 + 1) < 4 - k.1; omega)
        (refine Ent.mk' ?_ ?_ <;> (repeat' (first | exact allSub_zero | exact allTags_nil | refine allSub_succ' ?_ (Ty.sub_any _) | refine allSub_succ' ?_ (Ty.sub_refl _) | refine allTags_cons rfl (Cont.sub_refl _) ?_ | refine allSub_succ' ?_ ?_)))
        all_goals skip
        all_goals exact Ty.sub_int (last_stay k.1 hc3)
      ·
        refine t_skip ?_
        refine i_then ?_
        refine t_seq ?_
        have hG := gang hr hb5 hl4 (show 1 ≤ k.1 ∧ k.1 ≤ 3 by omega) hc3
        have hGm := hG.mul
        have hGl := hG.len
        refine t_region ?_
        refine r_load_ptrN rfl rfl (by decide) rfl rfl (by exact Nat.le_of_ble_eq_true rfl) ?_
        refine mvI rfl ?_
        refine mvS rfl ?_
        refine r_call (c_Works b hs (k.1 : Nat) (roundsV b (k.1 : Nat)) hG.small) rfl rfl rfl rfl rfl ?_
        refine mvT rfl ?_
        refine r_extract rfl rfl ?_
        refine r_extract rfl rfl ?_
        refine asB rfl ?_
        refine asI rfl ?_
        refine r_nil ?_
        refine i_then ?_
        refine t_seq ?_
        refine t_seq ?_
        refine t_as (s := 12) rfl (Ty.sub_bool (congrArg Prod.fst hG.works)) ?_
        refine t_as (s := 13) rfl (Ty.sub_int (congrArg Prod.snd hG.works)) ?_
        refine t_draw mixed rfl ?_
        refine mvI rfl ?_
        refine r_bin rfl rfl rfl ?_
        refine mvB rfl ?_
        apply r_guard (s := 60) rfl rfl rfl
        · intro hg; apply opT_of; (refine mvB rfl ?_); refine r_nil ?_; exact rfl
        · exact rfl
        · exact rfl
        apply r_guard (s := 60) rfl rfl rfl
        · intro hg; apply opT_strip (s := 61) rfl (by (rw [hg]; rfl)); apply opT_of; (refine r_not rfl ?_); refine r_nil ?_; exact rfl
        · exact rfl
        · exact rfl
        refine r_or rfl rfl ?_
        refine mvB rfl ?_
        apply r_guard (s := 64) rfl rfl rfl
        · intro hg; apply opT_of; (refine mvS rfl ?_); refine r_nil ?_; exact rfl
        · exact rfl
        · exact rfl
        apply r_guard (s := 64) rfl rfl rfl
        · intro hg; apply opT_strip (s := 65) rfl (by (rw [hg]; rfl)); apply opT_of; (refine r_len rfl rfl rfl ?_); refine r_nil ?_; exact rfl
        · exact rfl
        · exact rfl
        apply r_guard (s := 64) rfl rfl rfl
        · intro hg; apply opT_of; (refine mvI rfl ?_); refine r_nil ?_; exact rfl
        · exact rfl
        · exact rfl
        apply r_guard (s := 64) rfl rfl rfl
        · intro hg; apply opT_strip (s := 66) rfl (by (rw [hg]; rfl)); apply opT_strip (s := 67) rfl (by (rw [hg]; rfl)); apply opT_of; (refine r_bin rfl rfl rfl ?_); refine r_nil ?_; exact rfl
        · exact rfl
        · exact rfl
        refine r_or rfl rfl ?_
        refine mvB rfl ?_
        apply r_guard (s := 70) rfl rfl rfl
        · intro hg; apply opT_of; (refine mvI rfl ?_); refine r_nil ?_; exact rfl
        · exact rfl
        · exact rfl
        apply r_guard (s := 70) rfl rfl rfl
        · intro hg; apply opT_of; (refine mvI rfl ?_); refine r_nil ?_; exact rfl
        · exact rfl
        · exact rfl
        apply r_guard (s := 70) rfl rfl rfl
        · intro hg; apply opT_strip (s := 71) rfl (by (rw [hg]; rfl)); apply opT_strip (s := 72) rfl (by (rw [hg]; rfl)); apply opT_of; (refine r_bin rfl rfl rfl ?_); refine r_nil ?_; exact rfl
        · exact rfl
        · exact rfl
        refine r_or rfl rfl ?_
        refine mvB rfl ?_
        apply r_guard (s := 75) rfl rfl rfl
        · intro hg; apply opT_of; (refine mvI rfl ?_); refine r_nil ?_; exact rfl
        · exact rfl
        · exact rfl
        apply r_guard (s := 75) rfl rfl rfl
        · intro hg; apply opT_strip (s := 76) rfl (by (rw [hg]; rfl)); apply opT_of; (refine r_bin rfl rfl rfl ?_); refine r_nil ?_; exact rfl
        · exact rfl
        · exact rfl
        apply r_guard (s := 75) rfl rfl rfl
        · intro hg; apply opT_strip (s := 77) rfl (by (rw [hg]; rfl)); apply opT_of; (refine mvB rfl ?_); refine r_nil ?_; exact rfl
        · exact rfl
        · exact rfl
        apply r_guardG (s := 78) rfl rfl rfl
        · intro hg1 hg2; apply opT_of; (refine mvI rfl ?_); refine r_nil ?_; exact rfl
        · exact rfl
        · exact rfl
        apply r_guardG (s := 78) rfl rfl rfl
        · intro hg1 hg2; apply opT_of; (refine mvI rfl ?_); refine r_nil ?_; exact rfl
        · exact rfl
        · exact rfl
        apply r_guardG (s := 78) rfl rfl rfl
        · intro hg1 hg2; apply opT_strip (s := 79) rfl (by (rw [hg1, hg2]; rfl)); apply opT_strip (s := 80) rfl (by (rw [hg1, hg2]; rfl)); apply opT_of; (refine r_bin rfl rfl rfl ?_); refine r_nil ?_; exact rfl
        · exact rfl
        · exact rfl
        apply r_guard (s := 75) rfl rfl rfl
        · intro hg; apply opT_strip (s := 78) rfl (by (rw [hg]; rfl)); apply opT_stripG (s := 81) rfl (by (rw [hg]; rfl)); apply opT_of; (refine r_and rfl rfl ?_); refine r_nil ?_; exact rfl
        · exact rfl
        · exact rfl
        refine r_or rfl rfl ?_
        refine mvB rfl ?_
        apply r_guard (s := 84) rfl rfl rfl
        · intro hg; apply opT_of; (refine mvI rfl ?_); refine r_nil ?_; exact rfl
        · exact rfl
        · exact rfl
        apply r_guard (s := 84) rfl rfl rfl
        · intro hg; apply opT_of; (refine mvI rfl ?_); refine r_nil ?_; exact rfl
        · exact rfl
        · exact rfl
        apply r_guard (s := 84) rfl rfl rfl
        · intro hg; apply opT_strip (s := 85) rfl (by (rw [hg]; rfl)); apply opT_strip (s := 86) rfl (by (rw [hg]; rfl)); apply opT_of; (refine r_mul rfl rfl (by omega) (by omega) ?_); refine r_nil ?_; exact rfl
        · exact rfl
        · exact rfl
        apply r_guard (s := 84) rfl rfl rfl
        · intro hg; apply opT_of; (refine mvI rfl ?_); refine r_nil ?_; exact rfl
        · exact rfl
        · exact rfl
        apply r_guard (s := 84) rfl rfl rfl
        · intro hg; apply opT_strip (s := 87) rfl (by (rw [hg]; rfl)); apply opT_strip (s := 88) rfl (by (rw [hg]; rfl)); apply opT_of; (refine r_bin rfl rfl rfl ?_); refine r_nil ?_; exact rfl
        · exact rfl
        · exact rfl
        refine r_or rfl rfl ?_
        refine mvB rfl ?_
        apply r_guard (s := 91) rfl rfl rfl
        · intro hg; apply opT_of; (refine r_load_ptrN rfl rfl (by decide) rfl rfl (by exact Nat.le_of_ble_eq_true rfl) ?_); refine r_nil ?_; exact rfl
        · exact rfl
        · exact rfl
        apply r_guard (s := 91) rfl rfl rfl
        · intro hg; apply opT_of; (refine mvS rfl ?_); refine r_nil ?_; exact rfl
        · exact rfl
        · exact rfl
        apply r_guard (s := 91) rfl rfl rfl
        · intro hg; apply opT_strip (s := 93) rfl (by (rw [hg]; rfl)); apply opT_of; (refine r_call (c_Concat_tur (roundsV b (k.1 : Nat)) hG.flat) rfl rfl rfl rfl rfl ?_); refine r_nil ?_; exact rfl
        · exact rfl
        · exact rfl
        apply r_guard (s := 91) rfl rfl rfl
        · intro hg; apply opT_strip (s := 92) rfl (by (rw [hg]; rfl)); apply opT_strip (s := 94) rfl (by (rw [hg]; rfl)); apply opT_of; (refine r_call (c_lright b hs h6 (roundsV b (k.1 : Nat)).flatten hG.flat) rfl rfl rfl rfl rfl ?_); refine r_nil ?_; exact rfl
        · exact rfl
        · exact rfl
        apply r_guard (s := 91) rfl rfl rfl
        · intro hg; apply opT_strip (s := 95) rfl (by (rw [hg]; rfl)); apply opT_of; (refine r_not rfl ?_); refine r_nil ?_; exact rfl
        · exact rfl
        · exact rfl
        refine r_or rfl rfl ?_
        refine r_nil ?_
        refine ⟨by kernel_rfl, ?_⟩
        refine i_then ?_
        refine t_cond_ff rfl (lgg hG) ?_
        refine t_skip ?_
        refine i_then ?_
        refine t_seq ?_
        refine t_seq ?_
        refine t_region ?_
        refine mvS rfl ?_
        refine r_len rfl rfl rfl ?_
        refine mvI rfl ?_
        refine r_nil ?_
        refine i_then ?_
        refine t_block ?_
        refine t_loop (fun (j : {j : Nat // j ≤ (roundsV b (k.1 : Nat)).length}) => live [(3, Ty.ptr 4 0), (4, Ty.int .i64 (costR b oneC)), (5, Ty.int .i64 (planE b oneC)), (7, Ty.int .i64 (k.1 : Nat)), (10, Ty.int .i64 (roundsV b (k.1 : Nat)).length), (98, Ty.sl RowT (roundsV b (k.1 : Nat))), (99, Ty.int .i64 (roundsV b (k.1 : Nat)).length), (100, Ty.int .i64 (j.1 : Nat))] [(4, Cont.cells 25 (barnTys b))]) (fun j => (roundsV b (k.1 : Nat)).length - j.1) (⟨0, by omega⟩) ?_ fun j => ?_
        · (refine Ent.mk' ?_ ?_ <;> (repeat' (first | exact allSub_zero | exact allTags_nil | refine allSub_succ' ?_ (Ty.sub_any _) | refine allSub_succ' ?_ (Ty.sub_refl _) | refine allTags_cons rfl (Cont.sub_refl _) ?_)))
        ·
          have hj := j.2
          refine t_seq ?_
          refine t_region ?_
          refine r_bin rfl rfl rfl ?_
          refine r_nil ?_
          refine i_then ?_
          refine t_seq ?_
          refine t_cond_dec rfl (fun hc5 => ?_) (fun hc5 => ?_)
          ·
            refine t_skip ?_
            refine i_then ?_
            refine t_seq ?_
            refine t_block ?_
            refine t_seq ?_
            refine t_region ?_
            refine r_index_slN rfl rfl rfl rfl rfl rfl (by omega) ?_
            refine r_load_pp rfl rfl rfl rfl ?_
            refine asS rfl ?_
            refine r_nil ?_
            refine i_then ?_
            refine t_seq ?_
            refine t_region ?_
            refine mvS rfl ?_
            refine r_len rfl rfl rfl ?_
            refine mvI rfl ?_
            refine r_bin rfl rfl rfl ?_
            refine mvB rfl ?_
            apply r_guard (s := 108) rfl rfl rfl
            · intro hg; apply opT_of; (refine mvS rfl ?_); refine r_nil ?_; exact rfl
            · exact rfl
            · exact rfl
            apply r_guard (s := 108) rfl rfl rfl
            · intro hg; apply opT_strip (s := 109) rfl (by (rw [hg]; rfl)); apply opT_of; (refine r_len rfl rfl rfl ?_); refine r_nil ?_; exact rfl
            · exact rfl
            · exact rfl
            apply r_guard (s := 108) rfl rfl rfl
            · intro hg; apply opT_strip (s := 110) rfl (by (rw [hg]; rfl)); apply opT_of; (refine r_bin rfl rfl rfl ?_); refine r_nil ?_; exact rfl
            · exact rfl
            · exact rfl
            refine r_or rfl rfl ?_
            refine r_nil ?_
            refine i_then ?_
            refine t_cond_ff rfl (lgr hG (by omega)) ?_
            refine t_skip ?_
            refine i_block ?_
            refine i_then ?_
            refine t_region ?_
            refine r_add rfl rfl (by omega) (by omega) ?_
            refine mvI rfl ?_
            refine r_nil ?_
            refine i_round (⟨j.1 + 1, by omega⟩) ?_ (by show (roundsV b (k.1 : Nat)).length - (j.1 + 1) < (roundsV b (k.1 : Nat)).length - j.1; omega)
            (refine Ent.mk' ?_ ?_ <;> (repeat' (first | exact allSub_zero | exact allTags_nil | refine allSub_succ' ?_ (Ty.sub_any _) | refine allSub_succ' ?_ (Ty.sub_refl _) | refine allTags_cons rfl (Cont.sub_refl _) ?_)))
            all_goals skip
          ·
            refine t_exit ?_
            refine i_then_exit ?_
            refine i_then_exit ?_
            refine i_block_exit rfl ?_
            refine i_then ?_
            refine t_region ?_
            refine mvI rfl ?_
            refine asI rfl ?_
            refine r_nil ?_
            refine i_block ?_
            refine i_then ?_
            refine t_region ?_
            refine mvI rfl ?_
            refine r_add rfl rfl (by omega) (by omega) ?_
            refine asI rfl ?_
            refine r_nil ?_
            refine i_round (⟨k.1 + 1, by omega⟩) ?_ (by show 4 - (k.1 + 1) < 4 - k.1; omega)
            (refine Ent.mk' ?_ ?_ <;> (repeat' (first | exact allSub_zero | exact allTags_nil | refine allSub_succ' ?_ (Ty.sub_any _) | refine allSub_succ' ?_ (Ty.sub_refl _) | refine allTags_cons rfl (Cont.sub_refl _) ?_ | refine allSub_succ' ?_ ?_)))
            all_goals skip
            all_goals exact Ty.sub_int (last_next hk.1 hc3)
    ·
      refine t_exit ?_
      refine i_then_exit ?_
      refine i_then_exit ?_
      refine i_block_exit rfl ?_
      refine i_then ?_
      refine t_seq ?_
      refine t_region ?_
      refine mvI rfl ?_
      refine r_bin rfl rfl rfl ?_
      refine mvB rfl ?_
      apply r_guard (s := 117) rfl rfl rfl
      · intro hg; apply opT_of; (refine mvI rfl ?_); refine r_nil ?_; exact rfl
      · exact rfl
      · exact rfl
      apply r_guard (s := 117) rfl rfl rfl
      · intro hg; apply opT_strip (s := 118) rfl (by (rw [hg]; rfl)); apply opT_of; (refine r_bin rfl rfl rfl ?_); refine r_nil ?_; exact rfl
      · exact rfl
      · exact rfl
      refine r_or rfl rfl ?_
      refine mvB rfl ?_
      apply r_guard (s := 121) rfl rfl rfl
      · intro hg; apply opT_of; (refine r_call (c_awake) rfl rfl rfl rfl rfl ?_); refine r_nil ?_; exact rfl
      · exact rfl
      · exact rfl
      refine r_and rfl rfl ?_
      refine asB rfl ?_
      refine r_nil ?_
      refine i_then ?_
      refine t_ret ?_
      refine i_rp1 rfl rfl ?_
      all_goals skip
      all_goals exact ret_eq rfl rfl (congrArg Ty.bool (lge hO.err))
end Go.Proofs.Ytpnndljmhpepgaa

namespace Go.T
open Go Go.RowKit Go.ChangeShapes Go.WideShapes Go.ChangeAt
def pubs : Tags := fun _ => none
theorem wf_pubs (w : World) : Wf w pubs := ⟨fun _ _ h => (by cases h), fun _ _ _ _ h => (by cases h)⟩
theorem pubs_zero : ∀ b t, pubs b = some t → t = 0 := fun _ _ h => by cases h
structure Rd {α : Type} (P : Program) (e : TypeId) (E : El α) : Prop where
  size : P.cellsOf e = E.size
  pos : 0 < E.size
  rd : ∀ {H : Type} {enc : TypeId × Value → H} {w : World} {base : Nat} {held : Bool} {n : Nat} {cs : List Value} {y : DataW H × List MemPlace}, DataW.trod enc P w base (fun _ => true) held n e cs = some y → ∃ x, dens w pubs (E.tys x) cs
section
variable {H : Type} {enc : TypeId × Value → H} {P : Program} {w : World} {base : Nat} {held : Bool} {α : Type} {E : El α} {t e : TypeId} {n : Nat} {cs : List Value} {y : DataW H × List MemPlace}
theorem rd_sl (hR : Rd P e E) (ht : P.underlying t = some (.slice e)) (h : DataW.trod enc P w base (fun _ => true) held n t cs = some y) : ∃ v xs, cs = [v] ∧ (Ty.sl E xs).den w pubs v := by
  rcases Go.Deep.open_slice ht h with ⟨rfl, _⟩ | ⟨a, len, cap, m, k, D, Pl, rfl, _, hl, hm, hmm, _, hel⟩
  · exact ⟨_, [], rfl, none, 0, rfl, Nat.le_refl _, Nat.zero_le _, fun h => absurd h (Nat.lt_irrefl _)⟩
  have hlm : len ≤ m := by rw [hmm]; simpa using hl
  have hX : ∀ i : Fin len, ∃ x : α, ∃ cs', w.cells? base (a.add (i.1 * P.cellsOf e)) (P.cellsOf e) = some cs' ∧ dens w pubs (E.tys x) cs' := fun i => by
    obtain ⟨cs', h1, h2⟩ := hel i.1 (Nat.lt_of_lt_of_le i.2 hlm)
    obtain ⟨x, hx⟩ := hR.rd h2
    exact ⟨x, cs', h1, hx⟩
  let X : Fin len → α := fun i => (hX i).choose
  have hXs : ∀ i : Fin len, ∃ cs', w.cells? base (a.add (i.1 * P.cellsOf e)) (P.cellsOf e) = some cs' ∧ dens w pubs (E.tys (X i)) cs' := fun i => (hX i).choose_spec
  have hlen : (List.ofFn X).length = len := by simp
  refine ⟨_, List.ofFn X, rfl, some a, cap, by rw [hlen], by rw [hlen]; exact hl, hm, fun h0 => ?_⟩
  rw [hlen] at h0
  have hcell : ∀ (i : Fin len) (j : Nat) (u : Ty), (E.tys (X i))[j]? = some u → ∃ v, w.cell? (a.add (i.1 * E.size + j)) = some v ∧ u.den w pubs v := fun i j u hu => by
    obtain ⟨cs', h1, h2⟩ := hXs i
    obtain ⟨v, hv, hd⟩ := dens_get h2 j u hu
    obtain ⟨_, g1, g2⟩ := World.cells?_some h1
    have hj : j < P.cellsOf e := by
      rw [hR.size, ← E.len (X i)]
      exact (List.getElem?_eq_some_iff.1 hu).1
    refine ⟨v, ?_, hd⟩
    have := g2 j hj
    rw [Go.Deep.add_add, hv, hR.size] at this
    exact this
  have hsz := hR.pos
  have hfirst : ∃ v, w.cell? (a.add 0) = some v := by
    obtain ⟨u, hu⟩ : ∃ u, (E.tys (X ⟨0, h0⟩))[0]? = some u := ⟨_, List.getElem?_eq_getElem (by rw [E.len]; exact hsz)⟩
    obtain ⟨v, hv, _⟩ := hcell ⟨0, h0⟩ 0 u hu
    exact ⟨v, by simpa using hv⟩
  obtain ⟨b, off, sp⟩ := a
  obtain ⟨v0, hv0⟩ := hfirst
  have hsp : sp = none := by simpa [Addr.add] using World.cell?_spot hv0
  subst hsp
  have hb : b < w.heap.size := by
    obtain ⟨cs', h1, _⟩ := hXs ⟨0, h0⟩
    have := World.cells?_block h1 (by rw [hR.size]; exact hsz)
    simpa [Addr.add] using this
  refine ⟨b, off, rfl, rfl, hb, fun i u hu => ?_⟩
  have hi : i < len * E.size := by
    have := (List.getElem?_eq_some_iff.1 hu).1
    rw [flat_len, hlen] at this; exact this
  have hk : i / E.size < len := Nat.div_lt_of_lt_mul (by rw [Nat.mul_comm]; exact hi)
  have hj : i % E.size < E.size := Nat.mod_lt _ hsz
  have hij : i / E.size * E.size + i % E.size = i := by rw [Nat.mul_comm]; exact Nat.div_add_mod i E.size
  have hu2 := hu
  rw [← hij, flat_get E _ _ _ (by rw [hlen]; exact hk) hj, List.getElem?_ofFn, dif_pos hk] at hu2
  obtain ⟨v, hv, hd⟩ := hcell ⟨i / E.size, hk⟩ (i % E.size) u hu2
  refine ⟨v, ?_, hd⟩
  rw [← Go.WideShapes.add_plain]
  rw [hij] at hv
  exact hv
theorem rd_sl1 {c : Value} (hR : Rd P e E) (ht : P.underlying t = some (.slice e)) (h : DataW.trod enc P w base (fun _ => true) held n t [c] = some y) : ∃ xs, (Ty.sl E xs).den w pubs c := by
  obtain ⟨v, xs, e, hd⟩ := rd_sl hR ht h
  exact ⟨xs, by rw [show c = v by simpa using e]; exact hd⟩
end
section
variable {w w' : World} {S K : Nat → Prop} {M' : Tags}
theorem le_block (le : Le S K w pubs w' M') {b : Nat} (hb : b < w.heap.size) : w'.heap[b]? = w.heap[b]? := (le.pub b hb rfl).2
theorem le_same (le : Le S K w pubs w' M') {p : MemPlace} (hp : p.block < w.heap.size) : w.sameAt w' p := by
  cases p with
  | cell b o => exact World.cell?_of_block (w := w) (le_block le hp)
  | map b => exact le_block le hp
theorem le_kept (le : Le S K w pubs w' M') (may : MemPlace → Prop) : w.keptBut w' may := by
  refine ⟨le.os, le.out, fun i hi => ?_⟩
  have e := le_block le hi
  rw [e]
  split
  · rename_i h1 h2
    rw [h1] at h2
    simp only [Option.some.injEq, Obj.cells.injEq] at h2
    obtain ⟨rfl, rfl, rfl⟩ := h2
    exact ⟨rfl, rfl, rfl, fun _ _ => rfl⟩
  · rename_i h1 h2
    rw [h1] at h2
    simp only [Option.some.injEq, Obj.map.injEq] at h2
    exact Or.inr ⟨h2.1.symm, h2.2.symm⟩
  · rfl
theorem le_frozen (le : Le S K w pubs w' M') {a : Addr} (ha : a.block < w.heap.size) : w'.frozen? a = w.frozen? a := by
  unfold World.frozen?
  rw [le_block le ha]
end
section
variable {H : Type} {enc : TypeId × Value → H} {P : Program}
theorem trodAll_stays (hl : laidOutB P = true) {w w' : World} {sp : Nat → Bool} : ∀ {ts : List TypeId} {vs : List Value} {ds : List (DataW H)} {ps : List MemPlace}, (∀ t ∈ ts, P.readableRec t = true ∧ t < P.types.size) →
    DataW.TrodAll enc P w 0 (fun _ => true) true ts vs ds ps → (∀ p ∈ ps, w.sameAt w' p) → (∀ p ∈ ps, sp p.block = true) → DataW.TrodAll enc P w' 0 sp true ts vs ds ps
  | [], [], [], _, _, h, _, _ => h
  | t :: ts, v :: vs, d :: ds, _, ht, ⟨p, q, h1, h2, e⟩, hs, hsp => by
    subst e
    have h0 := ht t List.mem_cons_self
    exact ⟨p, q, Go.WideElems.Trod_stays hl h0.1 h0.2 h1 (fun x hx => hs x (List.mem_append_left _ hx)) (fun x hx => hsp x (List.mem_append_left _ hx)),
      trodAll_stays hl (fun t h => ht t (List.mem_cons_of_mem _ h)) h2 (fun x hx => hs x (List.mem_append_right _ hx)) (fun x hx => hsp x (List.mem_append_right _ hx)), rfl⟩
theorem post_true {f : Func} {s : ChangeSpec} {apart fresh handsOn again : Bool} {W W' : World} {args : Array Value} {ds : List (DataW H)} {before : List MemPlace} {S K : Nat → Prop} {M' : Tags}
    (hl : laidOutB P = true) (hv : s.vars = []) (hrd : ∀ t ∈ f.params.toList, P.readableRec t = true ∧ t < P.types.size) {tb : TypeId} (htb : P.underlying tb = some .bool) (hrt : f.resultTypes = #[tb])
    (hW : DataW.Whole enc P f.params.toList s.vars apart W args.toList ds [] before) (hres : (s.fn H (ds ++ [])).results = [.lit (.bool true)]) (hargs : (s.fn H (ds ++ [])).args = ds) (hvars : (s.fn H (ds ++ [])).vars = [])
    (le : Le S K W pubs W' M') : s.post enc P f apart fresh handsOn again W args (.bool true) W' := by
  have hW0 := hW
  obtain ⟨p, q, hA, hV, hb, hfz, hn⟩ := hW0
  have hlt := DataW.TrodAll.lt hA
  have hq : q = [] := by rw [hv] at hV; exact (trodVars_none hV).2
  subst hq
  have hbp : before = p := by rw [hb]; simp
  have hre : ∀ (b : Nat) (sp : Nat → Bool) (hd : Bool), DataW.TrodAll enc P W' b sp hd f.resultTypes.toList ((Value.bool true).resultList f.resultTypes.size) (s.fn H (ds ++ [])).results [] := fun b sp hd => by
    rw [hrt, hres]; exact trodAll_mk1 (shut_bool htb true)
  have har : ∀ sp : Nat → Bool, (∀ x ∈ p, sp x.block = true) → DataW.TrodAll enc P W' 0 sp true f.params.toList args.toList (s.fn H (ds ++ [])).args p := fun sp hsp => by
    rw [hargs]; exact trodAll_stays hl hrd hA (fun x hx => le_same le (hlt x hx)) hsp
  have hva : ∀ sp : Nat → Bool, DataW.TrodVars enc P W' sp s.vars (s.fn H (ds ++ [])).vars [] := fun sp => by
    rw [hvars, hv]; exact rfl
  have hok : ∀ (j : Nat) (t : TypeId) (r : Value), f.resultTypes[j]? = some t → ((Value.bool true).resultList f.resultTypes.size)[j]? = some r → Value.okWide P W' .any 0 t r := by
    exact ok_one (by rw [hrt]) rfl (okWide_bool_mk htb true)
  refine ⟨ds, [], before, [], p, [], hW, hre _ _ _, har _ (fun x hx => by simpa using hlt x hx), hva _, World.keptBut_mono (fun x hx => hx) (le_kept le _), fun _ => ?_⟩
  refine ⟨hok, _, _, ([] ++ p) ++ [], ⟨[] ++ p, [], trodAll_append (har _ (fun _ _ => rfl)) (hre _ _ _), hva _, rfl, ?_, ?_⟩, ?_⟩
  · intro b off hp
    have hp' : MemPlace.cell b off ∈ p := by simpa using hp
    rw [le_frozen le (hlt _ hp')]
    exact hfz b off (by rw [hbp]; exact hp')
  · intro ha
    have := hn ha
    rw [hbp] at this
    simpa using this
  · intro x hx _
    rw [hbp]
    simpa using hx
end
end Go.T

namespace Go.Proofs.Ytpnndljmhpepgaa
open Go Go.T Go.RowKit Go.ChangeShapes Go.WideShapes Go.ChangeAt
theorem rdU8 : Rd Try.prog 5 U8 := ⟨by kernel_rfl, by decide, fun h => by
  obtain ⟨i, rfl, _⟩ := DataW.trod_int Try.underlying5 h
  exact ⟨i, rfl, trivial⟩⟩
section
variable {H : Type} {enc : TypeId × Value → H} {W : World} {base : Nat} {held : Bool} {v : Value} {d : DataW H} {p : List MemPlace}
set_option maxRecDepth 100000 in
theorem rd_bytes (hv : Value.okWide Try.prog W .any base 83 v) (h : DataW.Trod enc Try.prog W 0 (fun _ => true) held 83 v d p) : ∃ l, (Ty.sl U8 l).den W pubs v := by
  obtain ⟨a, len, cap, rfl⟩ := okWide_slice Try.underlying83 hv
  obtain ⟨n, hn⟩ := h
  exact rd_sl1 rdU8 Try.underlying83 (by simpa [Value.cells] using hn)
end
end Go.Proofs.Ytpnndljmhpepgaa
