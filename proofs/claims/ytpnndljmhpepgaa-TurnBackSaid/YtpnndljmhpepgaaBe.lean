/- Lemmas: the program and the reference walked, plain laws. -/
import Derived.Test.YtpnndljmhpepgaaBd
namespace Go.Proofs.Ytpnndljmhpepgaa
open Go Go.T
def innL (b : Barn) : List Int := b.lots.map fun l => l.inn
def noT (b : Barn) (p : List Int) (t : Tur) : Bool := decide (t.lot < 0) || decide (t.lot ≥ p.length) || decide (t.aim < 0) || decide (t.aim ≥ b.sizes.length) || decide (t.aim ∈ p) || decide (nth b.sizes t.aim.toNat < (nth b.lots t.lot.toNat).sacks)
theorem noT_false {b : Barn} {p : List Int} {t : Tur} : noT b p t = false ↔ (0 ≤ t.lot ∧ t.lot < p.length) ∧ (0 ≤ t.aim ∧ t.aim < b.sizes.length) ∧ t.aim ∉ p ∧ (nth b.lots t.lot.toNat).sacks ≤ nth b.sizes t.aim.toNat := by
  unfold noT
  simp only [Bool.or_eq_false_iff, decide_eq_false_iff_not]
  constructor
  · rintro ⟨⟨⟨⟨⟨h1, h2⟩, h3⟩, h4⟩, h5⟩, h6⟩; exact ⟨by omega, by omega, h5, by omega⟩
  · rintro ⟨h1, h2, h3, h4⟩; exact ⟨⟨⟨⟨⟨by omega, by omega⟩, by omega⟩, by omega⟩, h3⟩, by omega⟩
def lawGo (b : Barn) : List Int → List Tur → Option (List Int)
  | p, [] => some p
  | p, t :: l => if noT b p t = true then none else lawGo b (p.set t.lot.toNat t.aim) l
def lawV (b : Barn) (plan : List Tur) : List Int × Bool := match lawGo b (innL b) plan with
  | some p => (p, true)
  | none => ([], false)
structure LIx (b : Barn) (plan : List Tur) (k : Nat) (p : List Int) : Prop where
  same : lawGo b (innL b) plan = lawGo b p (plan.drop k)
  len : p.length = b.lots.length
  le : k ≤ plan.length
theorem lix0 (b : Barn) (plan : List Tur) : LIx b plan 0 (innL b) := ⟨by rw [List.drop_zero], by unfold innL; rw [List.length_map], Nat.zero_le _⟩
section
variable {b : Barn} {plan : List Tur} {k : Nat} {p : List Int}
theorem LIx.stop (h : LIx b plan k p) (hk : k < plan.length) (hn : noT b p (nth plan k) = true) : lawV b plan = ([], false) := by
  have e : lawGo b (innL b) plan = none := by rw [h.same, drop_nth hk]; exact if_pos hn
  unfold lawV; rw [e]
theorem LIx.next (h : LIx b plan k p) (hk : k < plan.length) (hn : noT b p (nth plan k) = false) : LIx b plan (k + 1) (p.set (nth plan k).lot.toNat (nth plan k).aim) := by
  refine ⟨?_, by rw [List.length_set]; exact h.len, hk⟩
  rw [h.same, drop_nth hk]
  exact if_neg (by rw [hn]; decide)
theorem LIx.end (h : LIx b plan k p) (hk : plan.length ≤ k) : lawV b plan = (p, true) := by
  unfold lawV
  rw [h.same, List.drop_of_length_le hk]; rfl
end
theorem takenP_not {b : Barn} {P : Pl} {x : Int} : takenP b P x = false ↔ x ∉ P.1.take b.lots.length := by
  unfold takenP; rw [List.any_eq_false]; simp only [decide_eq_true_eq]
  exact ⟨fun h hm => h _ hm rfl, fun h y hy e => h (e ▸ hy)⟩
theorem noT_turns {b : Barn} {P : Pl} (h6 : b.lots.length ≤ 6) {t : Tur} : noT b (P.1.take b.lots.length) t = false ↔ t ∈ turnsL b P := by
  rw [noT_false, mem_turnsL]
  have hl : (P.1.take b.lots.length).length = b.lots.length := by rw [List.length_take, P.2]; omega
  rw [hl, takenP_not]; unfold Barn.hold; rw [decide_eq_true_eq]
  constructor
  · rintro ⟨⟨h1, h2⟩, ⟨h3, h4⟩, h5, h6⟩; exact ⟨h1, h2, h3, h4, h5, h6⟩
  · rintro ⟨h1, h2, h3, h4, h5, h6⟩; exact ⟨⟨h1, h2⟩, ⟨h3, h4⟩, h5, h6⟩
theorem set_take {P : Pl} {t : Tur} {n : Nat} : (P.1.take n).set t.lot.toNat t.aim = (moved P t).1.take n := by
  unfold moved; rw [List.take_set]
theorem go_law {b : Barn} (h6 : b.lots.length ≤ 6) : ∀ (l : List Tur) (P : Pl), lawGo b (P.1.take b.lots.length) l = (goP b P l).map fun q => q.1.take b.lots.length
  | [], P => rfl
  | t :: l, P => by
    show (if noT b (P.1.take b.lots.length) t = true then none else lawGo b ((P.1.take b.lots.length).set t.lot.toNat t.aim) l) = Option.map _ (if t ∈ turnsL b P then goP b (moved P t) l else none)
    by_cases h : t ∈ turnsL b P
    · rw [if_pos h, if_neg (by rw [(noT_turns h6).2 h]; decide), set_take, go_law h6 l]
    · rw [if_neg h, if_pos (by
        cases e : noT b (P.1.take b.lots.length) t with
        | true => rfl
        | false => exact absurd ((noT_turns h6).1 e) h)]; rfl
theorem first_inn {b : Barn} (h6 : b.lots.length ≤ 6) : (firstP b).1.take b.lots.length = innL b := by
  unfold firstP innL
  show List.take _ (List.take 6 _) = _
  rw [List.take_take, Nat.min_eq_left h6, List.take_append_of_le_length (by simp)]
  exact List.take_of_length_le (by simp)
theorem law_go {b : Barn} (h6 : b.lots.length ≤ 6) (l : List Tur) : lawGo b (innL b) l = (goP b (firstP b) l).map fun q => q.1.take b.lots.length := by rw [← first_inn h6, go_law h6]
theorem lawV_iff {b : Barn} (h6 : b.lots.length ≤ 6) {l : List Tur} : (lawV b l).2 = true ↔ ∃ q, goP b (firstP b) l = some q := by
  unfold lawV
  rw [law_go h6]
  cases goP b (firstP b) l with
  | none => exact ⟨(fun h => by cases h), fun ⟨_, h⟩ => by cases h⟩
  | some q => exact ⟨fun _ => ⟨q, rfl⟩, fun _ => rfl⟩
theorem lawV_some {b : Barn} (h6 : b.lots.length ≤ 6) {l : List Tur} {q : Pl} (h : goP b (firstP b) l = some q) : lawV b l = (q.1.take b.lots.length, true) := by
  unfold lawV; rw [law_go h6, h]; rfl
theorem lawV_none {b : Barn} (h6 : b.lots.length ≤ 6) {l : List Tur} (h : goP b (firstP b) l = none) : lawV b l = ([], false) := by
  unfold lawV; rw [law_go h6, h]; rfl
theorem lawV_len {b : Barn} (h6 : b.lots.length ≤ 6) (l : List Tur) : (lawV b l).1.length ≤ b.lots.length := by
  cases h : goP b (firstP b) l with
  | none => rw [lawV_none h6 h]; exact Nat.zero_le _
  | some q => rw [lawV_some h6 h]; exact Nat.le_trans (List.length_take_le _ _) (Nat.le_refl _)
def okI (b : Barn) (p : List Int) (i : Nat) : Bool := decide ((nth b.lots i).aim = -1) || decide ((nth b.lots i).aim = nth p i)
def isUp (b : Barn) (plan : List Tur) (k : Nat) : Bool := (lawV b plan).2 && (List.range k).all (okI b (lawV b plan).1)
def rightV (b : Barn) (plan : List Tur) : Bool := isUp b plan (lawV b plan).1.length
theorem isUp_zero (b : Barn) (plan : List Tur) : isUp b plan 0 = (lawV b plan).2 := by unfold isUp; simp
theorem isUp_succ (b : Barn) (plan : List Tur) (k : Nat) : isUp b plan (k + 1) = (isUp b plan k && okI b (lawV b plan).1 k) := by
  unfold isUp; rw [List.range_succ, List.all_append]; simp [Bool.and_assoc]
theorem nth_take {l : List Int} {n i : Nat} (h : i < n) : nth (l.take n) i = nth l i := by
  unfold nth; rw [List.getD_eq_getElem?_getD, List.getD_eq_getElem?_getD, List.getElem?_take_of_lt h]
theorem right_iff {b : Barn} (h6 : b.lots.length ≤ 6) {l : List Tur} : rightV b l = true ↔ ∃ q, goP b (firstP b) l = some q ∧ madeP b q = true := by
  unfold rightV isUp
  cases h : goP b (firstP b) l with
  | none => rw [lawV_none h6 h]; exact ⟨(fun h => by cases h), fun ⟨_, h, _⟩ => by cases h⟩
  | some q =>
    rw [lawV_some h6 h]
    have hl : (q.1.take b.lots.length).length = b.lots.length := by rw [List.length_take, q.2]; omega
    have e : (true && (List.range (q.1.take b.lots.length).length).all (okI b (q.1.take b.lots.length))) = madeP b q := by
      rw [hl, Bool.true_and]
      unfold madeP
      rw [Bool.eq_iff_iff, List.all_eq_true, List.all_eq_true]
      have key : ∀ i, i ∈ List.range b.lots.length → okI b (q.1.take b.lots.length) i = (decide ((nth b.lots i).aim = -1) || decide ((nth b.lots i).aim = nth q.1 i)) := fun i hi => by
        unfold okI; rw [nth_take (List.mem_range.1 hi)]
      exact ⟨fun H i hi => by rw [← key i hi]; exact H i hi, fun H i hi => by rw [key i hi]; exact H i hi⟩
    show (true && _) = true ↔ _
    rw [e]
    exact ⟨fun h => ⟨q, rfl, h⟩, fun ⟨q', h1, h2⟩ => by injection h1 with h1; rw [h1]; exact h2⟩
def tryT (b : Barn) (s : Sk) : Tur := ⟨skBelow s b.lots.length, skBelow (skNext s) b.sizes.length⟩
def walkS (b : Barn) (s : Sk) : Nat → List Tur × Sk
  | 0 => ([], s)
  | k + 1 => (if (lawV b ((walkS b s k).1 ++ [tryT b (walkS b s k).2])).2 = true then (walkS b s k).1 ++ [tryT b (walkS b s k).2] else (walkS b s k).1, skNext (skNext (walkS b s k).2))
def walkN (s : Sk) (most : Int) : Nat := (skBelow s (most + 1)).toNat
def walkP (b : Barn) (s : Sk) (most : Int) : List Tur := (walkS b (skNext s) (walkN s most)).1
def walkE (b : Barn) (s : Sk) (most : Int) : Sk := (walkS b (skNext s) (walkN s most)).2
theorem walk_yes {b : Barn} {s : Sk} {k : Nat} (h : (lawV b ((walkS b s k).1 ++ [tryT b (walkS b s k).2])).2 = true) : (walkS b s k).1 ++ [tryT b (walkS b s k).2] = (walkS b s (k + 1)).1 := (if_pos h).symm
theorem walk_no {b : Barn} {s : Sk} {k : Nat} (h : (lawV b ((walkS b s k).1 ++ [tryT b (walkS b s k).2])).2 = false) : (walkS b s k).1 = (walkS b s (k + 1)).1 := (if_neg (by rw [h]; decide)).symm
theorem walkN_eq (s : Sk) {most : Int} : ((walkN s most : Nat) : Int) = skBelow s (most + 1) := by
  have := skBelow_bound s (most + 1)
  unfold walkN; omega
theorem walkN_le (s : Sk) {most : Int} (h : 0 ≤ most) : (walkN s most : Int) ≤ most := by
  have := skBelow_bound s (most + 1)
  unfold walkN; omega
theorem walkS_ok (b : Barn) (s : Sk) : ∀ k, (walkS b s k).1.length ≤ k ∧ (walkS b s k).2.taken = s.taken + 2 * k ∧ (lawV b (walkS b s k).1).2 = true
  | 0 => ⟨Nat.le_refl _, by simp [walkS], rfl⟩
  | k + 1 => by
    obtain ⟨h1, h2, h3⟩ := walkS_ok b s k
    have h4 : (walkS b s (k + 1)).2.taken = s.taken + 2 * ((k + 1 : Nat) : Int) := by
      show (skNext (skNext (walkS b s k).2)).taken = _
      rw [skNext_taken, skNext_taken, h2]; omega
    cases e : (lawV b ((walkS b s k).1 ++ [tryT b (walkS b s k).2])).2 with
    | true => rw [← walk_yes e]; exact ⟨by rw [List.length_append, List.length_singleton]; omega, h4, e⟩
    | false => rw [← walk_no e]; exact ⟨by omega, h4, h3⟩
structure WalkOk (b : Barn) (s : Sk) (most : Int) (l : List Tur) (e : Sk) : Prop where
  len : (l.length : Int) ≤ most
  taken : s.taken ≤ e.taken ∧ e.taken ≤ s.taken + 1 + 2 * most
  ok : (lawV b l).2 = true
theorem walk_ok (b : Barn) (s : Sk) {most : Int} (h : 0 ≤ most) : WalkOk b s most (walkP b s most) (walkE b s most) := by
  obtain ⟨h1, h2, h3⟩ := walkS_ok b (skNext s) (walkN s most)
  have h4 := walkN_le s h
  have h5 := skNext_taken s
  unfold walkP walkE
  exact ⟨by omega, by omega, h3⟩
theorem go_rng {b : Barn} : ∀ (l : List Tur) {p q : Pl}, goP b p l = some q → ∀ t ∈ l, (0 ≤ t.lot ∧ t.lot < b.lots.length) ∧ 0 ≤ t.aim ∧ t.aim < b.sizes.length
  | [], p, q, _, t, ht => by cases ht
  | u :: l, p, q, h, t, ht => by
    have h : (if u ∈ turnsL b p then goP b (moved p u) l else none) = some q := h
    by_cases hu : u ∈ turnsL b p
    · rw [if_pos hu] at h
      rcases List.mem_cons.1 ht with rfl | ht
      · have := mem_turnsL.1 hu
        exact ⟨⟨this.1, this.2.1⟩, this.2.2.1, this.2.2.2.1⟩
      · exact go_rng l h t ht
    · rw [if_neg hu] at h; cases h
end Go.Proofs.Ytpnndljmhpepgaa

namespace Go.Proofs.Ytpnndljmhpepgaa
open Go Go.T
set_option maxHeartbeats 4000000
def innU (b : Barn) (k : Nat) : List Int := (b.lots.take k).map fun l => l.inn
theorem innU_len (b : Barn) {k : Nat} (h : k ≤ b.lots.length) : (innU b k).length = k := by unfold innU; rw [List.length_map, List.length_take]; omega
theorem innU_succ {b : Barn} {k : Nat} (h : k < b.lots.length) : innU b k ++ [(nth b.lots k).inn] = innU b (k + 1) := by
  unfold innU; rw [take_nth h, List.map_append]; rfl
theorem innU_all {b : Barn} {k : Nat} (h : b.lots.length ≤ k) : innU b k = innL b := by unfold innU innL; rw [List.take_of_length_le h]
theorem lix_at {b : Barn} {plan : List Tur} {k : Nat} (h : b.lots.length ≤ k) : LIx b plan 0 (innU b k) := by rw [innU_all h]; exact lix0 b plan
theorem no_rng {b : Barn} {p : List Int} {t : Tur} (h : (decide (t.lot < 0) || decide (t.lot ≥ (p.length : Int)) || decide (t.aim < 0) || decide (t.aim ≥ (b.sizes.length : Int)) || decide (t.aim ∈ p)) = false) : (0 ≤ t.lot ∧ t.lot < p.length) ∧ 0 ≤ t.aim ∧ t.aim < b.sizes.length := by
  simp only [Bool.or_eq_false_iff, decide_eq_false_iff_not] at h
  omega
theorem plain_TurE (x : Tur) : ∀ t ∈ TurE.tys x, t.Plain := plain_cons (plain_int _ _) (plain_cons (plain_int _ _) plain_nil)
attribute [local irreducible] dInt dBool dSl dPp dPtr dAgg dTup dClo dAny dEx dStr dGd dCells dVec dVs dRow dOp nth Tri Into TOps Ctr bodyPost Exit.then Exit.inBlock Code.wp Code.wpIn dWhen dPa dPe dAo dArr dMp dPm dMap dCJ CtrG CtrI OpY keepPost iterPost bodyPostM roundQ
set_option maxRecDepth 100000 in
theorem c_ldone (b : Barn) (hs : b.Small) (plan : List Tur) (hp : plan.length ≤ 400000000) : Ctr Try.prog 56 [barnT b, Ty.sl TurE plan] (Ty.tup [Ty.sl I64 (lawV b plan).1, Ty.bool (lawV b plan).2]) := by
  refine fn_intro Try.func56 rfl (by decide) Try.ntmps56 (by exact Nat.le_of_ble_eq_true rfl) fun w0 M0 => ?_
  have hs1 := hs.lots
  refine t_seq ?_
  refine t_region ?_
  refine r_box_agg rfl ?_
  refine asX rfl ?_
  refine asB rfl ?_
  refine r_nil ?_
  refine i_then ?_
  refine t_seq ?_
  refine t_region ?_
  refine asX rfl ?_
  refine r_nil ?_
  refine i_then ?_
  refine t_seq ?_
  refine t_seq ?_
  refine t_region ?_
  refine r_field_pp rfl rfl rfl rfl rfl (by decide) ?_
  refine r_load_pp rfl rfl rfl rfl ?_
  refine r_len rfl rfl rfl ?_
  refine mvI rfl ?_
  refine r_nil ?_
  refine i_then ?_
  refine t_block ?_
  refine t_loop (fun (k : {k : Nat // k ≤ b.lots.length}) => live [(1, Ty.sl TurE plan), (2, Ty.pp (barnTys b)), (6, Ty.row I64 3 23 (innU b k.1)), (12, Ty.sl LotE b.lots), (13, Ty.int .i64 b.lots.length), (14, Ty.int .i64 (k.1 : Nat))] []) (fun k => b.lots.length - k.1) (⟨0, by omega⟩) ?_ fun k => ?_
  · (refine Ent.mk' ?_ ?_ <;> (repeat' (first | exact allSub_zero | exact allTags_nil | refine allSub_succ' ?_ (Ty.sub_any _) | refine allSub_succ' ?_ (Ty.sub_refl _) | refine allSub_succ' ?_ Ty.nil_row)))
    all_goals trace_state
  ·
    have hk := k.2
    have hl := innU_len b hk
    refine t_seq ?_
    refine t_region ?_
    refine r_bin rfl rfl rfl ?_
    refine r_nil ?_
    refine i_then ?_
    refine t_seq ?_
    refine t_cond_dec rfl (fun hc1 => ?_) (fun hc1 => ?_)
    ·
      refine t_skip ?_
      refine i_then ?_
      refine t_seq ?_
      refine t_block ?_
      refine t_seq ?_
      refine t_region ?_
      refine r_index_slN rfl rfl rfl rfl rfl rfl (by omega) ?_
      refine r_load_ppN rfl rfl rfl (by exact Nat.le_of_ble_eq_true rfl) ?_
      refine r_alloc rfl (by exact List.cons_ne_nil _ _) rfl ?_
      refine r_storeN rfl rfl (by decide) rfl rfl rfl rfl rfl rfl ?_
      refine r_nil ?_
      refine i_then ?_
      refine t_region ?_
      refine mvR rfl ?_
      refine r_field_ptr rfl rfl rfl rfl rfl (by decide) ?_
      refine r_load_ptr rfl rfl (by decide) rfl rfl rfl ?_
      refine r_buildSlice (E := I64) (xs := [_]) rfl rfl rfl rfl rfl (by decide) (by decide) (by repeat (first | exact (Parts.nil : Parts _ _ [] _) | (show Parts _ _ ((_, _) :: _) _; apply Parts.one; (· exact (rfl : _ = Ty.int _ _)); (· exact rfl)))) (by exact rfl) rfl ?_
      refine r_append rfl rfl (by decide) rfl rfl rfl rfl rfl rfl (by decide) (by (simp <;> omega)) (by (simp <;> omega)) ?_
      refine asR rfl ?_
      refine r_nil ?_
      refine i_block ?_
      refine i_then ?_
      refine t_region ?_
      refine r_add rfl rfl (by omega) (by omega) ?_
      refine mvI rfl ?_
      refine r_nil ?_
      refine i_round (⟨k.1 + 1, by omega⟩) ?_ (by show b.lots.length - (k.1 + 1) < b.lots.length - k.1; omega)
      (refine Ent.mk' ?_ ?_ <;> (repeat' (first | exact allSub_zero | exact allTags_nil | refine allSub_succ' ?_ (Ty.sub_any _) | refine allSub_succ' ?_ (Ty.sub_refl _) | refine allSub_succ' ?_ ?_)))
      all_goals skip
      all_goals exact Ty.sub_row (innU_succ (by omega))
    ·
      refine t_exit ?_
      refine i_then_exit ?_
      refine i_then_exit ?_
      refine i_block_exit rfl ?_
      refine i_then ?_
      refine t_seq ?_
      refine t_seq ?_
      have hke : k.1 = b.lots.length := by have := k.2; omega
      have hil : (innU b k.1).length = b.lots.length := by rw [innU_len b k.2, hke]
      refine t_own (s := 6) rfl rfl ?_
      refine t_region ?_
      refine mvS rfl ?_
      refine r_len rfl rfl rfl ?_
      refine mvI rfl ?_
      refine r_nil ?_
      refine i_then ?_
      refine t_block ?_
      refine t_loop (fun (x : {x : Nat × List Int // LIx b plan x.1 x.2}) => live [(2, Ty.pp (barnTys b)), (6, Ty.vs 23 x.1.2.length), (24, Ty.sl TurE plan), (25, Ty.int .i64 plan.length), (26, Ty.int .i64 (x.1.1 : Nat))] [(23, Cont.vec I64 3 x.1.2)]) (fun x => plan.length - x.1.1) (⟨(0, innU b k.1), lix_at (by omega)⟩) ?_ fun x => ?_
      · (refine Ent.mk' ?_ ?_ <;> (repeat' (first | exact allSub_zero | exact allTags_nil | refine allSub_succ' ?_ (Ty.sub_any _) | refine allSub_succ' ?_ (Ty.sub_refl _) | refine allTags_cons rfl (Cont.sub_refl _) ?_)))
      ·
        have hxl := x.2.len
        have hxe := x.2.le
        refine t_seq ?_
        refine t_region ?_
        refine r_bin rfl rfl rfl ?_
        refine r_nil ?_
        refine i_then ?_
        refine t_seq ?_
        refine t_cond_dec rfl (fun hc2 => ?_) (fun hc2 => ?_)
        ·
          refine t_skip ?_
          refine i_then ?_
          refine t_seq ?_
          refine t_block ?_
          refine t_seq ?_
          refine t_region ?_
          refine r_index_slN rfl rfl rfl rfl rfl rfl (by omega) ?_
          refine r_load_ppN rfl rfl rfl (by exact Nat.le_of_ble_eq_true rfl) ?_
          refine r_alloc rfl (by exact List.cons_ne_nil _ _) rfl ?_
          refine r_storeN rfl rfl (by decide) rfl rfl rfl rfl rfl rfl ?_
          refine r_nil ?_
          refine i_then ?_
          refine t_seq ?_
          refine t_seq ?_
          refine t_draw mixed rfl ?_
          refine r_field_ptr rfl rfl rfl rfl rfl (by decide) ?_
          refine r_load_ptr rfl rfl (by decide) rfl rfl rfl ?_
          refine r_bin rfl rfl rfl ?_
          refine mvB rfl ?_
          apply r_guard (s := 33) rfl rfl rfl
          · intro hg; apply opT_of; (refine r_field_ptr rfl rfl rfl rfl rfl (by decide) ?_); refine r_nil ?_; exact rfl
          · exact rfl
          · exact rfl
          apply r_guard (s := 33) rfl rfl rfl
          · intro hg; apply opT_strip (s := 34) rfl (by (rw [hg]; rfl)); apply opT_of; (refine r_load_ptr rfl rfl (by decide) rfl rfl rfl ?_); refine r_nil ?_; exact rfl
          · exact rfl
          · exact rfl
          apply r_guard (s := 33) rfl rfl rfl
          · intro hg; apply opT_of; (refine mvV rfl ?_); refine r_nil ?_; exact rfl
          · exact rfl
          · exact rfl
          apply r_guard (s := 33) rfl rfl rfl
          · intro hg; apply opT_strip (s := 36) rfl (by (rw [hg]; rfl)); apply opT_of; (refine r_len_vs rfl rfl rfl ?_); refine r_nil ?_; exact rfl
          · exact rfl
          · exact rfl
          apply r_guard (s := 33) rfl rfl rfl
          · intro hg; apply opT_strip (s := 35) rfl (by (rw [hg]; rfl)); apply opT_strip (s := 37) rfl (by (rw [hg]; rfl)); apply opT_of; (refine r_bin rfl rfl rfl ?_); refine r_nil ?_; exact rfl
          · exact rfl
          · exact rfl
          refine r_or rfl rfl ?_
          refine mvB rfl ?_
          apply r_guard (s := 40) rfl rfl rfl
          · intro hg; apply opT_of; (refine r_field_ptr rfl rfl rfl rfl rfl (by decide) ?_); refine r_nil ?_; exact rfl
          · exact rfl
          · exact rfl
          apply r_guard (s := 40) rfl rfl rfl
          · intro hg; apply opT_strip (s := 41) rfl (by (rw [hg]; rfl)); apply opT_of; (refine r_load_ptr rfl rfl (by decide) rfl rfl rfl ?_); refine r_nil ?_; exact rfl
          · exact rfl
          · exact rfl
          apply r_guard (s := 40) rfl rfl rfl
          · intro hg; apply opT_strip (s := 42) rfl (by (rw [hg]; rfl)); apply opT_of; (refine r_bin rfl rfl rfl ?_); refine r_nil ?_; exact rfl
          · exact rfl
          · exact rfl
          refine r_or rfl rfl ?_
          refine mvB rfl ?_
          apply r_guard (s := 45) rfl rfl rfl
          · intro hg; apply opT_of; (refine r_field_ptr rfl rfl rfl rfl rfl (by decide) ?_); refine r_nil ?_; exact rfl
          · exact rfl
          · exact rfl
          apply r_guard (s := 45) rfl rfl rfl
          · intro hg; apply opT_strip (s := 46) rfl (by (rw [hg]; rfl)); apply opT_of; (refine r_load_ptr rfl rfl (by decide) rfl rfl rfl ?_); refine r_nil ?_; exact rfl
          · exact rfl
          · exact rfl
          apply r_guard (s := 45) rfl rfl rfl
          · intro hg; apply opT_of; (refine r_field_pp rfl rfl rfl rfl rfl (by decide) ?_); refine r_nil ?_; exact rfl
          · exact rfl
          · exact rfl
          apply r_guard (s := 45) rfl rfl rfl
          · intro hg; apply opT_strip (s := 48) rfl (by (rw [hg]; rfl)); apply opT_of; (refine r_load_pp rfl rfl rfl rfl ?_); refine r_nil ?_; exact rfl
          · exact rfl
          · exact rfl
          apply r_guard (s := 45) rfl rfl rfl
          · intro hg; apply opT_strip (s := 49) rfl (by (rw [hg]; rfl)); apply opT_of; (refine r_len rfl rfl rfl ?_); refine r_nil ?_; exact rfl
          · exact rfl
          · exact rfl
          apply r_guard (s := 45) rfl rfl rfl
          · intro hg; apply opT_strip (s := 47) rfl (by (rw [hg]; rfl)); apply opT_strip (s := 50) rfl (by (rw [hg]; rfl)); apply opT_of; (refine r_bin rfl rfl rfl ?_); refine r_nil ?_; exact rfl
          · exact rfl
          · exact rfl
          refine r_or rfl rfl ?_
          refine mvB rfl ?_
          apply r_guard (s := 53) rfl rfl rfl
          · intro hg; apply opT_of; (refine mvV rfl ?_); refine r_nil ?_; exact rfl
          · exact rfl
          · exact rfl
          apply r_guard (s := 53) rfl rfl rfl
          · intro hg; apply opT_of; (refine r_field_ptr rfl rfl rfl rfl rfl (by decide) ?_); refine r_nil ?_; exact rfl
          · exact rfl
          · exact rfl
          apply r_guard (s := 53) rfl rfl rfl
          · intro hg; apply opT_strip (s := 55) rfl (by (rw [hg]; rfl)); apply opT_of; (refine r_load_ptr rfl rfl (by decide) rfl rfl rfl ?_); refine r_nil ?_; exact rfl
          · exact rfl
          · exact rfl
          apply r_guard (s := 53) rfl rfl rfl
          · intro hg; apply opT_strip (s := 54) rfl (by (rw [hg]; rfl)); apply opT_strip (s := 56) rfl (by (rw [hg]; rfl)); apply opT_of; (refine r_callLC [23] (c_Contains_int x.1.2 (nth plan x.1.1).aim) rfl (by repeat (first | exact lendcs_nil | refine lendcs_cons (lendc_of (lend_pub rfl rfl)) ?_ | refine lendcs_cons (lendc_vs rfl (by exact rfl) (by decide) rfl) ?_)) (by exact plain_bool _) ?_); refine r_nil ?_; exact rfl
          · exact rfl
          · exact rfl
          refine r_or rfl rfl ?_
          refine mvB rfl ?_
          apply r_guard (s := 59) rfl rfl rfl
          · intro hg; apply opT_of; (refine r_field_pp rfl rfl rfl rfl rfl (by decide) ?_); refine r_nil ?_; exact rfl
          · exact rfl
          · exact rfl
          apply r_guard (s := 59) rfl rfl rfl
          · intro hg; apply opT_strip (s := 60) rfl (by (rw [hg]; rfl)); apply opT_of; (refine r_load_pp rfl rfl rfl rfl ?_); refine r_nil ?_; exact rfl
          · exact rfl
          · exact rfl
          apply r_guard (s := 59) rfl rfl rfl
          · intro hg; apply opT_of; (refine r_field_ptr rfl rfl rfl rfl rfl (by decide) ?_); refine r_nil ?_; exact rfl
          · exact rfl
          · exact rfl
          apply r_guard (s := 59) rfl rfl rfl
          · intro hg; apply opT_strip (s := 62) rfl (by (rw [hg]; rfl)); apply opT_of; (refine r_load_ptr rfl rfl (by decide) rfl rfl rfl ?_); refine r_nil ?_; exact rfl
          · exact rfl
          · exact rfl
          apply r_guard (s := 59) rfl rfl rfl
          · intro hg; apply opT_strip (s := 61) rfl (by (rw [hg]; rfl)); apply opT_strip (s := 63) rfl (by (rw [hg]; rfl)); apply opT_of; (refine r_index_sl rfl rfl rfl rfl rfl rfl (no_rng hg).2.1 (by have := (no_rng hg).2; omega) ?_); refine r_nil ?_; exact rfl
          · exact rfl
          · exact rfl
          apply r_guard (s := 59) rfl rfl rfl
          · intro hg; apply opT_strip (s := 64) rfl (by (rw [hg]; rfl)); apply opT_of; (refine r_load_pp rfl rfl rfl rfl ?_); refine r_nil ?_; exact rfl
          · exact rfl
          · exact rfl
          apply r_guard (s := 59) rfl rfl rfl
          · intro hg; apply opT_of; (refine r_field_pp rfl rfl rfl rfl rfl (by decide) ?_); refine r_nil ?_; exact rfl
          · exact rfl
          · exact rfl
          apply r_guard (s := 59) rfl rfl rfl
          · intro hg; apply opT_strip (s := 66) rfl (by (rw [hg]; rfl)); apply opT_of; (refine r_load_pp rfl rfl rfl rfl ?_); refine r_nil ?_; exact rfl
          · exact rfl
          · exact rfl
          apply r_guard (s := 59) rfl rfl rfl
          · intro hg; apply opT_of; (refine r_field_ptr rfl rfl rfl rfl rfl (by decide) ?_); refine r_nil ?_; exact rfl
          · exact rfl
          · exact rfl
          apply r_guard (s := 59) rfl rfl rfl
          · intro hg; apply opT_strip (s := 68) rfl (by (rw [hg]; rfl)); apply opT_of; (refine r_load_ptr rfl rfl (by decide) rfl rfl rfl ?_); refine r_nil ?_; exact rfl
          · exact rfl
          · exact rfl
          apply r_guard (s := 59) rfl rfl rfl
          · intro hg; apply opT_strip (s := 67) rfl (by (rw [hg]; rfl)); apply opT_strip (s := 69) rfl (by (rw [hg]; rfl)); apply opT_of; (refine r_index_sl rfl rfl rfl rfl rfl rfl (no_rng hg).1.1 (by have := no_rng hg; omega) ?_); refine r_nil ?_; exact rfl
          · exact rfl
          · exact rfl
          apply r_guard (s := 59) rfl rfl rfl
          · intro hg; apply opT_strip (s := 70) rfl (by (rw [hg]; rfl)); apply opT_of; (refine r_field_pp rfl rfl rfl rfl rfl (by decide) ?_); refine r_nil ?_; exact rfl
          · exact rfl
          · exact rfl
          apply r_guard (s := 59) rfl rfl rfl
          · intro hg; apply opT_strip (s := 71) rfl (by (rw [hg]; rfl)); apply opT_of; (refine r_load_pp rfl rfl rfl rfl ?_); refine r_nil ?_; exact rfl
          · exact rfl
          · exact rfl
          apply r_guard (s := 59) rfl rfl rfl
          · intro hg; apply opT_strip (s := 65) rfl (by (rw [hg]; rfl)); apply opT_strip (s := 72) rfl (by (rw [hg]; rfl)); apply opT_of; (refine r_bin rfl rfl rfl ?_); refine r_nil ?_; exact rfl
          · exact rfl
          · exact rfl
          refine r_or rfl rfl ?_
          refine r_nil ?_
          refine ⟨by kernel_rfl, ?_⟩
          refine i_then ?_
          refine t_cond rfl (fun hc3 => ?_) (fun hc3 => ?_)
          ·
            refine t_seq ?_
            refine t_region ?_
            refine asX rfl ?_
            refine asB rfl ?_
            refine r_nil ?_
            refine i_then ?_
            refine t_ret ?_
            refine i_then_ret ?_
            refine i_block_ret ?_
            refine i_then_ret ?_
            refine i_then_ret ?_
            refine i_block_ret ?_
            refine i_then_ret ?_
            refine i_rp2 rfl rfl rfl ?_ ?_
            all_goals skip
            all_goals first | exact ret_nil_eq (congrArg Prod.fst (x.2.stop (by omega) hc3)) | exact ret_eq rfl rfl (congrArg (fun z : List Int × Bool => Ty.bool z.2) (x.2.stop (by omega) hc3).symm)
          ·
            refine t_skip ?_
            refine i_then ?_
            have hno := noT_false.1 (show noT b x.1.2 (nth plan x.1.1) = false from hc3)
            refine t_region ?_
            refine mvV rfl ?_
            refine r_field_ptr rfl rfl rfl rfl rfl (by decide) ?_
            refine r_load_ptr rfl rfl (by decide) rfl rfl rfl ?_
            refine r_field_ptr rfl rfl rfl rfl rfl (by decide) ?_
            refine r_load_ptr rfl rfl (by decide) rfl rfl rfl ?_
            refine r_index_vsI rfl rfl rfl rfl rfl (by omega) (by omega) ?_
            refine r_store_vecB rfl rfl rfl (by decide) rfl rfl (by exact (rfl : _ = Ty.int _ _)) rfl (by omega) (by decide) rfl rfl ?_
            refine r_nil ?_
            refine i_block ?_
            refine i_then ?_
            refine t_region ?_
            refine r_add rfl rfl (by omega) (by omega) ?_
            refine mvI rfl ?_
            refine r_nil ?_
            refine i_round (⟨(x.1.1 + 1, x.1.2.set (nth plan x.1.1).lot.toNat (nth plan x.1.1).aim), x.2.next (by omega) hc3⟩) ?_ (by show plan.length - (x.1.1 + 1) < plan.length - x.1.1; omega)
            (refine Ent.mk' ?_ ?_ <;> (repeat' (first | exact allSub_zero | exact allTags_nil | refine allSub_succ' ?_ (Ty.sub_any _) | refine allSub_succ' ?_ (Ty.sub_refl _) | refine allTags_cons rfl (Cont.sub_refl _) ?_ | refine allSub_succ' ?_ ?_)))
            all_goals skip
            all_goals exact Ty.sub_eq (congrArg (Ty.vs 23) List.length_set.symm)
        ·
          refine t_exit ?_
          refine i_then_exit ?_
          refine i_then_exit ?_
          refine i_block_exit rfl ?_
          refine i_then ?_
          refine t_seq ?_
          refine t_pub (tg := 23) [(6, Ty.sl I64 x.1.2)] (by decide) rfl ⟨pub_vs rfl rfl rfl (by decide), trivial⟩ ?_
          refine t_region ?_
          refine mvS rfl ?_
          refine asS rfl ?_
          refine asB rfl ?_
          refine r_nil ?_
          refine i_then ?_
          refine t_ret ?_
          refine i_rp2 rfl rfl rfl ?_ ?_
          all_goals skip
          all_goals first | exact ret_eq rfl rfl (congrArg (fun z : List Int × Bool => Ty.sl I64 z.1) (x.2.end (by omega)).symm) | exact ret_eq rfl rfl (congrArg (fun z : List Int × Bool => Ty.bool z.2) (x.2.end (by omega)).symm)
set_option maxRecDepth 100000 in
theorem c_lright (b : Barn) (hs : b.Small) (h6 : b.lots.length ≤ 6) (plan : List Tur) (hp : plan.length ≤ 400000000) : Ctr Try.prog 52 [barnT b, Ty.sl TurE plan] (Ty.bool (rightV b plan)) := by
  refine fn_intro Try.func52 rfl (by decide) Try.ntmps52 (by exact Nat.le_of_ble_eq_true rfl) fun w0 M0 => ?_
  have hvl := lawV_len h6 plan
  refine t_seq ?_
  refine t_region ?_
  refine r_box_agg rfl ?_
  refine asB rfl ?_
  refine r_nil ?_
  refine i_then ?_
  refine t_seq ?_
  refine t_region ?_
  refine r_load_ppN rfl rfl rfl (by exact Nat.le_of_ble_eq_true rfl) ?_
  refine mvS rfl ?_
  refine r_call (c_ldone b hs plan hp) rfl rfl rfl rfl rfl ?_
  refine mvT rfl ?_
  refine r_extract rfl rfl ?_
  refine r_extract rfl rfl ?_
  refine asS rfl ?_
  refine asB rfl ?_
  refine r_nil ?_
  refine i_then ?_
  refine t_seq ?_
  refine t_seq ?_
  refine t_region ?_
  refine mvS rfl ?_
  refine r_len rfl rfl rfl ?_
  refine mvI rfl ?_
  refine r_nil ?_
  refine i_then ?_
  refine t_block ?_
  refine t_loop (fun (k : {k : Nat // k ≤ (lawV b plan).1.length}) => live [(2, Ty.pp (barnTys b)), (6, Ty.bool (isUp b plan k.1)), (15, Ty.sl I64 (lawV b plan).1), (16, Ty.int .i64 (lawV b plan).1.length), (17, Ty.int .i64 (k.1 : Nat))] []) (fun k => (lawV b plan).1.length - k.1) (⟨0, by omega⟩) ?_ fun k => ?_
  · (refine Ent.mk' ?_ ?_ <;> (repeat' (first | exact allSub_zero | exact allTags_nil | refine allSub_succ' ?_ (Ty.sub_any _) | refine allSub_succ' ?_ (Ty.sub_refl _) | refine allSub_succ' ?_ ?_)))
    all_goals exact Ty.sub_bool (isUp_zero b plan).symm
  ·
    have hk := k.2
    refine t_seq ?_
    refine t_region ?_
    refine r_bin rfl rfl rfl ?_
    refine r_nil ?_
    refine i_then ?_
    refine t_seq ?_
    refine t_cond_dec rfl (fun hc1 => ?_) (fun hc1 => ?_)
    ·
      refine t_skip ?_
      refine i_then ?_
      refine t_seq ?_
      refine t_block ?_
      refine t_seq ?_
      refine t_region ?_
      refine mvI rfl ?_
      refine r_index_slN rfl rfl rfl rfl rfl rfl (by omega) ?_
      refine r_load_pp rfl rfl rfl rfl ?_
      refine asI rfl ?_
      refine asI rfl ?_
      refine r_nil ?_
      refine i_then ?_
      refine t_region ?_
      refine mvB rfl ?_
      refine mvB rfl ?_
      apply r_guard (s := 23) rfl rfl rfl
      · intro hg; apply opT_of; (refine r_field_pp rfl rfl rfl rfl rfl (by decide) ?_); refine r_nil ?_; exact rfl
      · exact rfl
      · exact rfl
      apply r_guard (s := 23) rfl rfl rfl
      · intro hg; apply opT_strip (s := 24) rfl (by (rw [hg]; rfl)); apply opT_of; (refine r_load_pp rfl rfl rfl rfl ?_); refine r_nil ?_; exact rfl
      · exact rfl
      · exact rfl
      apply r_guard (s := 23) rfl rfl rfl
      · intro hg; apply opT_of; (refine mvI rfl ?_); refine r_nil ?_; exact rfl
      · exact rfl
      · exact rfl
      apply r_guard (s := 23) rfl rfl rfl
      · intro hg; apply opT_strip (s := 25) rfl (by (rw [hg]; rfl)); apply opT_strip (s := 26) rfl (by (rw [hg]; rfl)); apply opT_of; (refine r_index_sl rfl rfl rfl rfl rfl rfl (by omega) (by omega) ?_); refine r_nil ?_; exact rfl
      · exact rfl
      · exact rfl
      apply r_guard (s := 23) rfl rfl rfl
      · intro hg; apply opT_strip (s := 27) rfl (by (rw [hg]; rfl)); apply opT_of; (refine r_field_pp rfl rfl rfl rfl rfl (by decide) ?_); refine r_nil ?_; exact rfl
      · exact rfl
      · exact rfl
      apply r_guard (s := 23) rfl rfl rfl
      · intro hg; apply opT_strip (s := 28) rfl (by (rw [hg]; rfl)); apply opT_of; (refine r_load_pp rfl rfl rfl rfl ?_); refine r_nil ?_; exact rfl
      · exact rfl
      · exact rfl
      apply r_guard (s := 23) rfl rfl rfl
      · intro hg; apply opT_strip (s := 29) rfl (by (rw [hg]; rfl)); apply opT_of; (refine r_bin rfl rfl rfl ?_); refine r_nil ?_; exact rfl
      · exact rfl
      · exact rfl
      apply r_guard (s := 23) rfl rfl rfl
      · intro hg; apply opT_strip (s := 30) rfl (by (rw [hg]; rfl)); apply opT_of; (refine mvB rfl ?_); refine r_nil ?_; exact rfl
      · exact rfl
      · exact rfl
      apply r_guardG (s := 31) rfl rfl rfl
      · intro hg1 hg2; apply opT_of; (refine r_field_pp rfl rfl rfl rfl rfl (by decide) ?_); refine r_nil ?_; exact rfl
      · exact rfl
      · exact rfl
      apply r_guardG (s := 31) rfl rfl rfl
      · intro hg1 hg2; apply opT_strip (s := 32) rfl (by (rw [hg1, hg2]; rfl)); apply opT_of; (refine r_load_pp rfl rfl rfl rfl ?_); refine r_nil ?_; exact rfl
      · exact rfl
      · exact rfl
      apply r_guardG (s := 31) rfl rfl rfl
      · intro hg1 hg2; apply opT_of; (refine mvI rfl ?_); refine r_nil ?_; exact rfl
      · exact rfl
      · exact rfl
      apply r_guardG (s := 31) rfl rfl rfl
      · intro hg1 hg2; apply opT_strip (s := 33) rfl (by (rw [hg1, hg2]; rfl)); apply opT_strip (s := 34) rfl (by (rw [hg1, hg2]; rfl)); apply opT_of; (refine r_index_sl rfl rfl rfl rfl rfl rfl (by omega) (by omega) ?_); refine r_nil ?_; exact rfl
      · exact rfl
      · exact rfl
      apply r_guardG (s := 31) rfl rfl rfl
      · intro hg1 hg2; apply opT_strip (s := 35) rfl (by (rw [hg1, hg2]; rfl)); apply opT_of; (refine r_field_pp rfl rfl rfl rfl rfl (by decide) ?_); refine r_nil ?_; exact rfl
      · exact rfl
      · exact rfl
      apply r_guardG (s := 31) rfl rfl rfl
      · intro hg1 hg2; apply opT_strip (s := 36) rfl (by (rw [hg1, hg2]; rfl)); apply opT_of; (refine r_load_pp rfl rfl rfl rfl ?_); refine r_nil ?_; exact rfl
      · exact rfl
      · exact rfl
      apply r_guardG (s := 31) rfl rfl rfl
      · intro hg1 hg2; apply opT_of; (refine mvI rfl ?_); refine r_nil ?_; exact rfl
      · exact rfl
      · exact rfl
      apply r_guardG (s := 31) rfl rfl rfl
      · intro hg1 hg2; apply opT_strip (s := 37) rfl (by (rw [hg1, hg2]; rfl)); apply opT_strip (s := 38) rfl (by (rw [hg1, hg2]; rfl)); apply opT_of; (refine r_bin rfl rfl rfl ?_); refine r_nil ?_; exact rfl
      · exact rfl
      · exact rfl
      apply r_guard (s := 23) rfl rfl rfl
      · intro hg; apply opT_strip (s := 31) rfl (by (rw [hg]; rfl)); apply opT_stripG (s := 39) rfl (by (rw [hg]; rfl)); apply opT_of; (refine r_or rfl rfl ?_); refine r_nil ?_; exact rfl
      · exact rfl
      · exact rfl
      refine r_and rfl rfl ?_
      refine asB rfl ?_
      refine r_nil ?_
      refine i_block ?_
      refine i_then ?_
      refine t_region ?_
      refine r_add rfl rfl (by omega) (by omega) ?_
      refine mvI rfl ?_
      refine r_nil ?_
      refine i_round (⟨k.1 + 1, by omega⟩) ?_ (by show (lawV b plan).1.length - (k.1 + 1) < (lawV b plan).1.length - k.1; omega)
      (refine Ent.mk' ?_ ?_ <;> (repeat' (first | exact allSub_zero | exact allTags_nil | refine allSub_succ' ?_ (Ty.sub_any _) | refine allSub_succ' ?_ (Ty.sub_refl _) | refine allSub_succ' ?_ ?_)))
      all_goals skip
      all_goals exact Ty.sub_bool (isUp_succ b plan k.1).symm
    ·
      refine t_exit ?_
      refine i_then_exit ?_
      refine i_then_exit ?_
      refine i_block_exit rfl ?_
      refine i_then ?_
      refine t_seq ?_
      refine t_region ?_
      refine mvB rfl ?_
      refine asB rfl ?_
      refine r_nil ?_
      refine i_then ?_
      refine t_ret ?_
      refine i_rp1 rfl rfl ?_
      all_goals skip
      all_goals exact ret_eq rfl rfl (congrArg Ty.bool (show isUp b plan k.1 = rightV b plan by rw [show k.1 = (lawV b plan).1.length by have := k.2; omega]; rfl))
theorem c_ldoneP (b : Barn) (hs : b.Small) (plan : List Tur) (hp : plan.length ≤ 400000000) : Ctr Try.prog 56 [barnT b, Ty.sl TurE plan] (Ty.tup [Ty.any, Ty.bool (lawV b plan).2]) :=
  (c_ldone b hs plan hp).mono Ty.tup_any2
set_option maxRecDepth 100000 in
theorem c_walk (b : Barn) (hs : b.Small) (s : Sk) (most : Int) (hm : 0 ≤ most ∧ most ≤ 900) (h : s.Ok 2000) : CtrG Try.prog 53 [1000] [(1000, Cont.cells 141 (skTys s))] [Ty.ptr 1000 0, barnT b, Ty.int .i64 most] [(1000, Cont.cells 141 (skTys (walkE b s most)))] (Ty.sl TurE (walkP b s most)) := by
  refine fnG_intro Try.func53 rfl (by decide) Try.ntmps53 (by exact Nat.le_of_ble_eq_true rfl) fun w0 M0 => ?_
  have h0 : 0 ≤ s.taken ∧ s.taken + 2000 ≤ 4611686018427387904 := h
  have hs1 := skNext_taken s
  have hn := walkN_le s hm.1
  have hne := walkN_eq s (most := most)
  have hws := fun k => walkS_ok b (skNext s) k
  refine t_seq ?_
  refine t_region ?_
  refine r_box_agg rfl ?_
  refine asX rfl ?_
  refine r_nil ?_
  refine i_then ?_
  refine t_seq ?_
  refine t_region ?_
  refine asX rfl ?_
  refine r_nil ?_
  refine i_then ?_
  refine t_seq ?_
  refine t_seq ?_
  refine t_region ?_
  refine mvO rfl ?_
  refine mvI rfl ?_
  refine r_add rfl rfl (by omega) (by omega) ?_
  refine r_callG [(1000, 1000)] [] [(1000, Cont.cells 141 (skTys (skNext s)))] (c_Below s ⟨by omega, by omega⟩ _) rfl rfl (by repeat (first | exact cv_nil | refine cv_cons ?_ ?_ | exact cv_ptr List.mem_cons_self | exact cv_pub rfl rfl)) (pre_cons (a := 1000) (b := 1000) (by exact List.mem_cons_self) rfl (cc_cells_eq (by exact List.mem_cons_self) rfl rfl rfl) pre_nil) (post_cons (a := 1000) (b := 1000) (by exact List.mem_cons_self) rfl (cc_cells_eq (by exact List.mem_cons_self) rfl rfl rfl) post_nil) (cv_pub rfl rfl) ?_
  refine mvI rfl ?_
  refine r_nil ?_
  refine i_then ?_
  refine t_block ?_
  refine t_loop (fun (k : {k : Nat // k ≤ walkN s most}) => live [(0, Ty.ptr 1000 0), (4, Ty.pp (barnTys b)), (7, Ty.row TurE 55 43 (walkS b (skNext s) k.1).1), (14, Ty.int .i64 (walkN s most : Nat)), (15, Ty.int .i64 (k.1 : Nat))] [(1000, Cont.cells 141 (skTys (walkS b (skNext s) k.1).2))]) (fun k => walkN s most - k.1) (⟨0, by omega⟩) ?_ fun k => ?_
  · (refine Ent.mk' ?_ ?_ <;> (repeat' (first | exact allSub_zero | exact allTags_nil | refine allSub_succ' ?_ (Ty.sub_any _) | refine allSub_succ' ?_ (Ty.sub_refl _) | refine allSub_succ' ?_ Ty.nil_row | refine allTags_cons rfl (Cont.sub_refl _) ?_ | refine allSub_succ' ?_ ?_)))
    all_goals exact Ty.sub_int hne.symm
  ·
    have hk := k.2
    have hw1 := (hws k.1).1
    have hw2 := (hws k.1).2.1
    have hw3 : (skNext (walkS b (skNext s) k.1).2).Ok 1 := ⟨by rw [skNext_taken]; omega, by rw [skNext_taken]; omega⟩
    refine t_seq ?_
    refine t_region ?_
    refine r_bin rfl rfl rfl ?_
    refine r_nil ?_
    refine i_then ?_
    refine t_seq ?_
    refine t_cond_dec rfl (fun hc1 => ?_) (fun hc1 => ?_)
    ·
      refine t_skip ?_
      refine i_then ?_
      refine t_seq ?_
      refine t_block ?_
      refine t_seq ?_
      refine t_draw mixed rfl ?_
      refine mvO rfl ?_
      refine r_field_pp rfl rfl rfl rfl rfl (by decide) ?_
      refine r_load_pp rfl rfl rfl rfl ?_
      refine r_len rfl rfl rfl ?_
      refine r_callG [(1000, 1000)] [] [(1000, Cont.cells 141 (skTys (skNext (walkS b (skNext s) k.1).2)))] (c_Below (walkS b (skNext s) k.1).2 ⟨by omega, by omega⟩ _) rfl rfl (by repeat (first | exact cv_nil | refine cv_cons ?_ ?_ | exact cv_ptr List.mem_cons_self | exact cv_pub rfl rfl)) (pre_cons (a := 1000) (b := 1000) (by exact List.mem_cons_self) rfl (cc_cells_eq (by exact List.mem_cons_self) rfl rfl rfl) pre_nil) (post_cons (a := 1000) (b := 1000) (by exact List.mem_cons_self) rfl (cc_cells_eq (by exact List.mem_cons_self) rfl rfl rfl) post_nil) (cv_pub rfl rfl) ?_
      refine mvO rfl ?_
      refine r_field_pp rfl rfl rfl rfl rfl (by decide) ?_
      refine r_load_pp rfl rfl rfl rfl ?_
      refine r_len rfl rfl rfl ?_
      refine r_callG [(1000, 1000)] [] [(1000, Cont.cells 141 (skTys (skNext (skNext (walkS b (skNext s) k.1).2))))] (c_Below (skNext (walkS b (skNext s) k.1).2) hw3 _) rfl rfl (by repeat (first | exact cv_nil | refine cv_cons ?_ ?_ | exact cv_ptr List.mem_cons_self | exact cv_pub rfl rfl)) (pre_cons (a := 1000) (b := 1000) (by exact List.mem_cons_self) rfl (cc_cells_eq (by exact List.mem_cons_self) rfl rfl rfl) pre_nil) (post_cons (a := 1000) (b := 1000) (by exact List.mem_cons_self) rfl (cc_cells_eq (by exact List.mem_cons_self) rfl rfl rfl) post_nil) (cv_pub rfl rfl) ?_
      refine r_build rfl rfl (by exact List.cons_ne_nil _ _) rfl (by repeat (first | exact (Parts.nil : Parts _ _ [] _) | (show Parts _ _ ((_, _) :: _) _; apply Parts.one; (· exact (rfl : _ = Ty.int _ _)); (· exact rfl)))) (by exact (rfl : _ = some [_, _])) ?_
      refine r_alloc rfl (by exact List.cons_ne_nil _ _) rfl ?_
      refine r_storeN rfl rfl (by decide) rfl rfl rfl rfl rfl rfl ?_
      refine r_nil ?_
      refine ⟨by kernel_rfl, ?_⟩
      refine i_then ?_
      refine t_seq ?_
      refine t_draw mixed rfl ?_
      refine r_load_ppN rfl rfl rfl (by exact Nat.le_of_ble_eq_true rfl) ?_
      refine mvR rfl ?_
      refine r_callGL [43] 32 (k_Clone_tur (walkS b (skNext s) k.1).1 (by omega)) rfl (by repeat (first | exact lends_nil | refine lends_cons (lend_row rfl) ?_)) plain_TurE (by decide) (by decide) rfl ?_
      refine r_load_ptrN rfl rfl (by decide) rfl rfl (by exact Nat.le_of_ble_eq_true rfl) ?_
      refine r_buildSlice (E := TurE) (xs := [tryT b (walkS b (skNext s) k.1).2]) rfl rfl rfl rfl rfl (by decide) (by decide) (by repeat (first | exact (Parts.nil : Parts _ _ [] _) | (show Parts _ _ ((_, _) :: _) _; apply Parts.agg; (· exact (rfl : _ = Ty.agg _))))) (by exact rfl) rfl ?_
      refine r_append rfl rfl (by decide) rfl rfl rfl rfl rfl rfl (by decide) (by (simp <;> omega)) (by (simp <;> omega)) ?_
      refine r_callL [32] (c_ldoneP b hs ((walkS b (skNext s) k.1).1 ++ [tryT b (walkS b (skNext s) k.1).2]) (by rw [List.length_append, List.length_singleton]; omega)) rfl (by repeat (first | exact lends_nil | refine lends_cons (lend_pub rfl rfl) ?_ | refine lends_cons (lend_row rfl) ?_)) (plain_tup (plain_cons plain_any (plain_cons (plain_bool _) plain_nil))) ?_
      refine mvT rfl ?_
      refine r_extract rfl rfl ?_
      refine r_extract rfl rfl ?_
      refine r_assign (ty := Ty.any) rfl ?_
      refine asB rfl ?_
      refine r_nil ?_
      refine ⟨by kernel_rfl, ?_⟩
      refine i_then ?_
      refine t_seq ?_
      refine t_forget (B := live [(0, Ty.ptr 1000 0), (4, Ty.pp (barnTys b)), (7, Ty.row TurE 55 43 (walkS b (skNext s) k.1).1), (8, Ty.ptr 9 0), (10, Ty.bool (lawV b ((walkS b (skNext s) k.1).1 ++ [tryT b (walkS b (skNext s) k.1).2])).2), (14, Ty.int .i64 (walkN s most : Nat)), (15, Ty.int .i64 (k.1 : Nat))] [(9, Cont.cells 55 (TurE.tys (tryT b (walkS b (skNext s) k.1).2))), (1000, Cont.cells 141 (skTys (walkS b (skNext s) (k.1 + 1)).2))]) ?_ ?_
      · (refine Ent.mk' ?_ ?_ <;> (repeat' (first | exact allSub_zero | exact allTags_nil | refine allSub_succ' ?_ (Ty.sub_any _) | refine allSub_succ' ?_ (Ty.sub_refl _) | refine allTags_cons rfl (Cont.sub_refl _) ?_)))
      refine t_region ?_
      refine mvB rfl ?_
      refine r_nil ?_
      refine i_then ?_
      refine t_cond rfl (fun hc2 => ?_) (fun hc2 => ?_)
      ·
        refine t_region ?_
        refine mvR rfl ?_
        refine r_load_ptrN rfl rfl (by decide) rfl rfl (by exact Nat.le_of_ble_eq_true rfl) ?_
        refine r_buildSlice (E := TurE) (xs := [tryT b (walkS b (skNext s) k.1).2]) rfl rfl rfl rfl rfl (by decide) (by decide) (by repeat (first | exact (Parts.nil : Parts _ _ [] _) | (show Parts _ _ ((_, _) :: _) _; apply Parts.agg; (· exact (rfl : _ = Ty.agg _))))) (by exact rfl) rfl ?_
        refine r_append rfl rfl (by decide) rfl rfl rfl rfl rfl rfl (by decide) (by (simp <;> omega)) (by (simp <;> omega)) ?_
        refine asR rfl ?_
        refine r_nil ?_
        refine i_block ?_
        refine i_then ?_
        refine t_region ?_
        refine r_add rfl rfl (by omega) (by omega) ?_
        refine mvI rfl ?_
        refine r_nil ?_
        refine i_round (⟨k.1 + 1, by omega⟩) ?_ (by show walkN s most - (k.1 + 1) < walkN s most - k.1; omega)
        (refine Ent.mk' ?_ ?_ <;> (repeat' (first | exact allSub_zero | exact allTags_nil | refine allSub_succ' ?_ (Ty.sub_any _) | refine allSub_succ' ?_ (Ty.sub_refl _) | refine allTags_cons rfl (Cont.sub_refl _) ?_ | refine allSub_succ' ?_ ?_)))
        all_goals skip
        all_goals exact Ty.sub_row (walk_yes hc2)
      ·
        refine t_skip ?_
        refine i_block ?_
        refine i_then ?_
        refine t_region ?_
        refine r_add rfl rfl (by omega) (by omega) ?_
        refine mvI rfl ?_
        refine r_nil ?_
        refine i_round (⟨k.1 + 1, by omega⟩) ?_ (by show walkN s most - (k.1 + 1) < walkN s most - k.1; omega)
        (refine Ent.mk' ?_ ?_ <;> (repeat' (first | exact allSub_zero | exact allTags_nil | refine allSub_succ' ?_ (Ty.sub_any _) | refine allSub_succ' ?_ (Ty.sub_refl _) | refine allTags_cons rfl (Cont.sub_refl _) ?_ | refine allSub_succ' ?_ ?_)))
        all_goals skip
        all_goals exact Ty.sub_row (walk_no hc2)
    ·
      refine t_exit ?_
      refine i_then_exit ?_
      refine i_then_exit ?_
      refine i_block_exit rfl ?_
      refine i_then ?_
      refine t_seq ?_
      obtain ⟨k, hk⟩ := k
      obtain rfl : k = walkN s most := by have h1 : ¬ (k : Int) < (walkN s most : Int) := hc1; have h2 : k ≤ walkN s most := hk; omega
      refine t_region ?_
      refine mvR rfl ?_
      refine asR rfl ?_
      refine r_nil ?_
      refine i_then ?_
      refine t_ret ?_
      refine g_ret1 [1000] rfl rfl (by decide) (by repeat (first | exact rc_nil | refine rc_cons rfl (cc_cells_eq (by decide) rfl rfl rfl) ?_)) ?_
      all_goals exact rg_row (by decide) rfl rfl
      all_goals trace_state
end Go.Proofs.Ytpnndljmhpepgaa

namespace Go.Proofs.Ytpnndljmhpepgaa
open Go Go.T
def apartP (b : Barn) (p : Pl) : Prop := ∀ i k, i < b.lots.length → k < b.lots.length → nth p.1 i = nth p.1 k → i = k
theorem apart_moved {b : Barn} (h6 : b.lots.length ≤ 6) {p : Pl} {t : Tur} (h : apartP b p) (ht : t ∈ turnsL b p) : apartP b (moved p t) := fun i k hi hk e => by
  rw [moved_nth (by omega), moved_nth (by omega)] at e
  have h1 := mem_turnsL.1 ht
  have hn : ∀ j, j < b.lots.length → nth p.1 j ≠ t.aim := fun j hj e => by
    have := (taken_iff h6).2 ⟨j, hj, e⟩
    rw [h1.2.2.2.2.1] at this; cases this
  by_cases e1 : t.lot.toNat = i
  · by_cases e2 : t.lot.toNat = k
    · omega
    · rw [if_pos e1, if_neg e2] at e; exact absurd e.symm (hn k hk)
  · by_cases e2 : t.lot.toNat = k
    · rw [if_neg e1, if_pos e2] at e; exact absurd e (hn i hi)
    · rw [if_neg e1, if_neg e2] at e; exact h i k hi hk e
theorem goP_cons {b : Barn} {p q : Pl} {t : Tur} {l : List Tur} (h : goP b p (t :: l) = some q) : t ∈ turnsL b p ∧ goP b (moved p t) l = some q := by
  have h : (if t ∈ turnsL b p then goP b (moved p t) l else none) = some q := h
  by_cases hu : t ∈ turnsL b p
  · rw [if_pos hu] at h; exact ⟨hu, h⟩
  · rw [if_neg hu] at h; cases h
theorem goP_cons' {b : Barn} {p : Pl} {t : Tur} {l : List Tur} (h : t ∈ turnsL b p) : goP b p (t :: l) = goP b (moved p t) l := if_pos h
theorem first_nth {b : Barn} (h6 : b.lots.length ≤ 6) {i : Nat} (hi : i < b.lots.length) : nth (firstP b).1 i = (nth b.lots i).inn := by
  rw [← nth_take (n := b.lots.length) hi, first_inn h6]
  unfold innL
  rw [nth_lt (by rw [List.length_map]; exact hi), nth_lt hi, List.getElem_map]
theorem apart_first {b : Barn} (hr : b.Right) : apartP b (firstP b) := fun i k hi hk e => by
  rw [first_nth hr.lots hi, first_nth hr.lots hk] at e
  rcases Nat.lt_trichotomy i k with h | h | h
  · exact absurd e.symm (hr.apart k i h hk).1
  · exact h
  · exact absurd e (hr.apart i k h hi).1
structure Cheap (b : Barn) (c : Tur → Int) (e : Int) (l : List Tur) (n : Int) : Prop where
  err : e = 0 ∨ e = 7
  yes : e = 0 → rightV b l = true ∧ costL c l = n ∧ ∀ x, rightV b x = true → n ≤ costL c x
  no : e = 7 → l = [] ∧ n = 0 ∧ ∀ x, rightV b x = false
theorem cheap {b : Barn} {c : Tur → Int} (hr : b.Right) (hc : CostOk b c) : Cheap b c (planE b c) (planR b c) (costR b c) := by
  have h0 := right_check hr
  have hp := plan_spec hr hc
  have h6 := hr.lots
  unfold planE planR costR
  rw [if_pos h0, if_pos h0, if_pos h0]
  cases hi : (searchM b c false).is with
  | true =>
    rw [if_pos rfl]
    refine ⟨.inl rfl, fun _ => ?_, fun e => by cases e⟩
    obtain ⟨q, h1, h2, h3, h4⟩ := hp.yes hi
    refine ⟨(right_iff h6).2 ⟨q, h1, h2⟩, h3, fun x hx => ?_⟩
    obtain ⟨q', g1, g2⟩ := (right_iff h6).1 hx
    exact h4 x q' g1 g2
  | false =>
    rw [if_neg (by decide)]
    refine ⟨.inr rfl, (fun e => by cases e), fun _ => ⟨if_neg (by rw [hi]; decide), if_neg (by rw [hi]; decide), fun x => ?_⟩⟩
    rw [Bool.eq_false_iff]; intro hx
    obtain ⟨q', g1, g2⟩ := (right_iff h6).1 hx
    have := hp.no hi x q' g1
    rw [g2] at this; cases this
theorem cost_one (l : List Tur) : costL oneC l = l.length := by
  unfold costL oneC
  induction l with
  | nil => rfl
  | cons t l ih => rw [List.map_cons, List.sum_cons, ih, List.length_cons]; omega
theorem right_rng {b : Barn} (h6 : b.lots.length ≤ 6) {l : List Tur} (h : (lawV b l).2 = true) : ∀ t ∈ l, (0 ≤ t.lot ∧ t.lot < b.lots.length) ∧ 0 ≤ t.aim ∧ t.aim < b.sizes.length := by
  obtain ⟨q, hq⟩ := (lawV_iff h6).1 h
  exact go_rng l hq
def leastUp (b : Barn) (l : List Int) (k : Nat) : Int := ((l.take k).map fun (i : Int) => (nth b.lots i.toNat).sacks).sum
theorem sumUp_all (b : Barn) (l : List Tur) : sumUp b l l.length = costL (sackC b) l := by unfold sumUp; rw [List.take_length]
theorem sack_bound {b : Barn} (hr : b.Right) {i : Int} (hi : 0 ≤ i ∧ i < b.lots.length) : 1 ≤ (nth b.lots i.toNat).sacks ∧ (nth b.lots i.toNat).sacks ≤ 300 := hr.sacks _ (nth_mem (by omega))
theorem sumUp_in {b : Barn} (hr : b.Right) {l : List Tur} (h : (lawV b l).2 = true) : ∀ k, k ≤ l.length → 0 ≤ sumUp b l k ∧ sumUp b l k ≤ 300 * k
  | 0, _ => by unfold sumUp; rw [List.take_zero]; exact ⟨Int.le_refl _, Int.le_refl _⟩
  | k + 1, hk => by
    have h1 := sumUp_in hr h k (by omega)
    have h2 := right_rng hr.lots h _ (nth_mem (xs := l) (k := k) (by omega))
    have h3 := sack_bound hr h2.1
    rw [sumUp_succ (by omega)]; omega
end Go.Proofs.Ytpnndljmhpepgaa

namespace Go.Proofs.Ytpnndljmhpepgaa
open Go Go.T
set_option maxHeartbeats 4000000
theorem fill_ok8 (g : List Int) : (skFill g).Ok 1000 := by have h := skFill_ok g; unfold Sk.Ok at *; omega
theorem made8 (g : List Int) (bins lots : Int) (hb : 2 ≤ bins ∧ bins ≤ 7) (hl : 0 ≤ lots ∧ lots ≤ 6) : ∃ b s', b.Right ∧ (b.sizes.length : Int) ≤ bins ∧ (b.lots.length : Int) ≤ lots ∧ CtrG Try.prog 50 [1000] [(1000, Cont.cells 141 (skTys (skFill g)))] [Ty.ptr 1000 0, Ty.int .i64 bins, Ty.int .i64 lots, Ty.bool false] [(1000, Cont.cells 141 (skTys s'))] (barnT b) :=
  have hd : Md.Ok ⟨skFill g, bins, lots⟩ := ⟨hb, hl⟩
  ⟨_, _, Md.right hd, by have h := (Md.n_in hd).2.2.1; have e := (Md.sizes_ok ⟨skFill g, bins, lots⟩).1; exact Int.le_trans (Int.ofNat_le.2 (Nat.le_of_eq e)) h, by have h := (Md.many_in hd).2.1; have e := (Md.lt_len ⟨skFill g, bins, lots⟩ (Md.many ⟨skFill g, bins, lots⟩)).1; exact Int.le_trans (Int.ofNat_le.2 (Nat.le_of_eq e)) h, c_Made ⟨skFill g, bins, lots⟩ hd (fill_ok8 g)⟩
def walksE (b : Barn) (s : Sk) (most : Int) : Nat → Sk
  | 0 => s
  | k + 1 => walkE b (walksE b s most k) most
theorem walks_taken (b : Barn) (s : Sk) {most : Int} (hm : 0 ≤ most) : ∀ k : Nat, s.taken ≤ (walksE b s most k).taken ∧ (walksE b s most k).taken ≤ s.taken + k * (1 + 2 * most)
  | 0 => ⟨Int.le_refl _, by simp [walksE]⟩
  | k + 1 => by
    have h1 := walks_taken b s hm k
    have h2 := (walk_ok b (walksE b s most k) hm).taken
    have e : ((k + 1 : Nat) : Int) * (1 + 2 * most) = (k : Int) * (1 + 2 * most) + (1 + 2 * most) := by rw [Int.natCast_add, Int.add_mul]; simp
    show s.taken ≤ (walkE b (walksE b s most k) most).taken ∧ (walkE b (walksE b s most k) most).taken ≤ _
    omega
theorem walks_ok (b : Barn) (t : List Int) {k : Nat} (hk : k ≤ 10) : (walksE b (skFill t) 9 k).Ok 2000 := by
  have h1 := walks_taken b (skFill t) (most := 9) (by omega) k
  have h2 := skFill_ok t
  unfold Sk.Ok at *; omega
theorem sumUp_zero (b : Barn) (l : List Tur) : sumUp b l 0 = 0 := by unfold sumUp; rw [List.take_zero]; rfl
theorem planR_len {b : Barn} {c : Tur → Int} (hr : b.Right) (hc : CostOk b c) : (planR b c).length ≤ 400000000 := by
  unfold planR planV
  rw [if_pos (right_check hr)]
  cases hi : (searchM b c false).is with
  | true => rw [if_pos rfl]; exact plan_len hr hc hi
  | false => rw [if_neg (by decide)]; simp
attribute [local irreducible] planR planE costR walkP walkE sumUp leastUp rightV mustL checkB
attribute [local irreducible] dInt dBool dSl dPp dPtr dAgg dTup dClo dAny dEx dStr dGd dCells dVec dVs dRow dOp nth Tri Into TOps Ctr bodyPost Exit.then Exit.inBlock Code.wp Code.wpIn dWhen dPa dPe dAo dArr dMp dPm dMap dCJ CtrG CtrI OpY keepPost iterPost bodyPostM roundQ
end Go.Proofs.Ytpnndljmhpepgaa

namespace Go.Proofs.Ytpnndljmhpepgaa
open Go Go.T
variable {b : Barn} {g : Int}
theorem goR_cons {p q : Pl} {l : List Tur} {rs : List (List Tur)} (h : goR b g p (l :: rs) = some q) : l ∈ allR b p g ∧ goR b g (movedAll p l) rs = some q := by
  have h : (if l ∈ allR b p g then goR b g (movedAll p l) rs else none) = some q := h
  by_cases hu : l ∈ allR b p g
  · rw [if_pos hu] at h; exact ⟨hu, h⟩
  · rw [if_neg hu] at h; cases h
theorem goR_cons' {p : Pl} {l : List Tur} {rs : List (List Tur)} (h : l ∈ allR b p g) : goR b g p (l :: rs) = goR b g (movedAll p l) rs := if_pos h
theorem goR_flat (h6 : b.lots.length ≤ 6) (hg : 0 ≤ g) : ∀ (rs : List (List Tur)) {p q : Pl}, goR b g p rs = some q → goP b p rs.flatten = some q
  | [], p, q, h => h
  | l :: rs, p, q, h => by
    obtain ⟨h1, h2⟩ := goR_cons h
    rw [List.flatten_cons, goP_append, round_go h6 l ((mem_allR hg).1 h1)]
    exact goR_flat h6 hg rs h2
theorem one_round {p : Pl} {t : Tur} (hg : 1 ≤ g) (h : t ∈ turnsL b p) : [t] ∈ allR b p g := by
  rw [mem_allR (by omega)]
  have := mem_turnsL.1 h
  refine ⟨by simpa using hg, fun u hu => ?_, List.pairwise_singleton _ _⟩
  rw [List.mem_singleton.1 hu]
  exact ⟨⟨this.1, this.2.1⟩, ⟨this.2.2.1, this.2.2.2.1⟩, this.2.2.2.2.1, this.2.2.2.2.2⟩
theorem goR_singles (hg : 1 ≤ g) : ∀ (l : List Tur) {p q : Pl}, goP b p l = some q → goR b g p (l.map fun t => [t]) = some q
  | [], p, q, h => h
  | t :: l, p, q, h => by
    obtain ⟨h1, h2⟩ := goP_cons h
    rw [List.map_cons, goR_cons' (one_round hg h1)]
    exact goR_singles hg l h2
theorem goR_rows (hg : 0 ≤ g) : ∀ (rs : List (List Tur)) {p q : Pl}, goR b g p rs = some q → ∀ l ∈ rs, (l.length : Int) ≤ g
  | [], p, q, _, l, hl => by cases hl
  | r :: rs, p, q, h, l, hl => by
    obtain ⟨h1, h2⟩ := goR_cons h
    rcases List.mem_cons.1 hl with rfl | hl
    · exact ((mem_allR hg).1 h1).len
    · exact goR_rows hg rs h2 l hl
theorem flat_le (hg : 0 ≤ g) : ∀ (rs : List (List Tur)), (∀ l ∈ rs, (l.length : Int) ≤ g) → (rs.flatten.length : Int) ≤ rs.length * g
  | [], _ => by simp
  | l :: rs, h => by
    have h1 := h l List.mem_cons_self
    have h2 := flat_le hg rs fun r hr => h r (List.mem_cons_of_mem _ hr)
    rw [List.flatten_cons, List.length_append, List.length_cons]
    have e : (((rs.length + 1 : Nat) : Int)) * g = rs.length * g + g := by rw [Int.natCast_add, Int.add_mul]; simp
    rw [e]; omega
structure Rnds (b : Barn) (g e : Int) (rs : List (List Tur)) : Prop where
  err : e = 0 ∨ e = 7
  yes : e = 0 → ∃ q, goR b g (firstP b) rs = some q ∧ madeP b q = true ∧ ∀ rs' q', goR b g (firstP b) rs' = some q' → madeP b q' = true → rs.length ≤ rs'.length
  no : e = 7 → rs = [] ∧ ∀ rs' q, goR b g (firstP b) rs' = some q → madeP b q = false
section
variable {e e' n : Int} {l : List Tur} {rs rs' : List (List Tur)}
theorem Rnds.same (h : Rnds b g e' rs) (h6 : b.lots.length ≤ 6) (hg : 1 ≤ g) (hc : Cheap b oneC e l n) : e' = e := by
  rcases h.err with rfl | rfl
  · rcases hc.err with rfl | rfl
    · rfl
    · obtain ⟨q, h1, h2, _⟩ := h.yes rfl
      have := (hc.no rfl).2.2 rs.flatten
      rw [(right_iff h6).2 ⟨q, goR_flat h6 (by omega) rs h1, h2⟩] at this; cases this
  · rcases hc.err with rfl | rfl
    · obtain ⟨q, h1, h2⟩ := (right_iff h6).1 (hc.yes rfl).1
      have := (h.no rfl).2 _ q (goR_singles hg l h1)
      rw [h2] at this; cases this
    · rfl
theorem Rnds.right (h : Rnds b g 0 rs) (h6 : b.lots.length ≤ 6) (hg : 1 ≤ g) : rightV b rs.flatten = true := by
  obtain ⟨q, h1, h2, _⟩ := h.yes rfl
  exact (right_iff h6).2 ⟨q, goR_flat h6 (by omega) rs h1, h2⟩
theorem Rnds.few (h : Rnds b g 0 rs) (h6 : b.lots.length ≤ 6) (hg : 1 ≤ g) (hc : Cheap b oneC 0 l n) : n ≤ rs.length * g ∧ (rs.length : Int) ≤ n := by
  obtain ⟨q, h1, h2, h3⟩ := h.yes rfl
  obtain ⟨c1, c2, c3⟩ := hc.yes rfl
  rw [cost_one] at c2
  constructor
  · have h4 := c3 _ (h.right h6 hg)
    rw [cost_one] at h4
    have := flat_le (by omega) rs (goR_rows (by omega) rs h1)
    omega
  · obtain ⟨q', g1, g2⟩ := (right_iff h6).1 c1
    have := h3 _ q' (goR_singles hg l g1) g2
    rw [List.length_map] at this; omega
end
def listsM (m : Nat) : Nat → List (List Int)
  | 0 => [[]]
  | n + 1 => (List.range m).flatMap fun (k : Nat) => (listsM m n).map fun l => (k : Int) :: l
theorem go_tail {b : Barn} : ∀ (l : List Tur) {p q : Pl}, goP b p l = some q → q.1.drop b.lots.length = p.1.drop b.lots.length
  | [], p, q, h => by injection h with h; rw [h]
  | t :: l, p, q, h => by
    obtain ⟨h1, h2⟩ := goP_cons h
    have h3 := mem_turnsL.1 h1
    rw [go_tail l h2]
    unfold moved
    exact List.drop_set_of_lt (by omega)
theorem first_named {b : Barn} (hr : b.Right) : ∀ i, i < b.lots.length → 0 ≤ nth (firstP b).1 i ∧ nth (firstP b).1 i < b.sizes.length := fun i hi => by
  rw [first_nth hr.lots hi]; exact hr.inn _ (nth_mem hi)
def ordB (l : List Tur) : Bool := (List.range (l.length - 1)).any fun i => decide ((nth l (i + 1)).lot ≤ (nth l i).lot)
def twI (b : Barn) (p : Pl) (l : List Tur) (i : Nat) : Bool := takenP b p (nth l i).aim || (l.take i).any fun u => decide (u.aim = (nth l i).aim)
def twB (b : Barn) (p : Pl) (l : List Tur) : Bool := (List.range l.length).any fun i => twI b p l i
def roundE (b : Barn) (p : Pl) (g : Int) (l : List Tur) : Int :=
  if (!l.all fun t => b.lot t.lot && b.bin t.aim) = true then 1 else if ordB l = true then 4 else if twB b p l = true then 5 else if (!l.all fun t => b.hold t.aim t.lot) = true then 9 else if (l.length : Int) > g then 2 else 0
def worksGo (b : Barn) (g : Int) : Pl → List (List Tur) → Bool × Int
  | p, [] => (madeP b p, 0)
  | p, l :: rs => if roundE b p g l = 0 then worksGo b g (movedAll p l) rs else (false, roundE b p g l)
def worksV (b : Barn) (g : Int) (rs : List (List Tur)) : Bool × Int := if askE b g = 0 then if (rs.length : Int) > 6000 then (false, 2) else worksGo b g (firstP b) rs else (false, askE b g)
structure WIx (b : Barn) (g : Int) (rs : List (List Tur)) (k : Nat) (p : Pl) : Prop where
  same : worksGo b g (firstP b) rs = worksGo b g p (rs.drop k)
  le : k ≤ rs.length
theorem WIx.end {rs : List (List Tur)} {k : Nat} {p : Pl} (h : WIx b g rs k p) (hk : rs.length ≤ k) : worksGo b g (firstP b) rs = (madeP b p, 0) := by
  rw [h.same, List.drop_of_length_le hk]; rfl
end Go.Proofs.Ytpnndljmhpepgaa

namespace Go.Proofs.Ytpnndljmhpepgaa
open Go Go.T
def putP (b : Barn) (p : Pl) : Barn := ⟨b.sizes, (List.range b.lots.length).map fun i => ⟨(nth b.lots i).sacks, nth p.1 i, (nth b.lots i).aim⟩⟩
variable {b : Barn} {p q : Pl} {t : Tur}
theorem put_len (b : Barn) (p : Pl) : (putP b p).lots.length = b.lots.length := by simp [putP]
theorem put_nth {i : Nat} (hi : i < b.lots.length) : nth (putP b p).lots i = ⟨(nth b.lots i).sacks, nth p.1 i, (nth b.lots i).aim⟩ := by
  unfold putP
  show nth ((List.range b.lots.length).map _) i = _
  rw [nth_lt (by simpa using hi), List.getElem_map, List.getElem_range]
theorem put_first (h6 : b.lots.length ≤ 6) : putP b (firstP b) = b := by
  have e : (putP b (firstP b)).lots = b.lots := ext_nth (put_len _ _) fun i hi => by
    rw [put_len] at hi
    rw [put_nth hi, first_nth h6 hi]
  cases b with
  | mk s l => exact congrArg (Barn.mk s) e
theorem put_mem (r : Pl) : t ∈ turnsL (putP b p) r ↔ t ∈ turnsL b r := by
  rw [mem_turnsL, mem_turnsL, put_len]
  have e : takenP (putP b p) r t.aim = takenP b r t.aim := by unfold takenP; rw [put_len]
  rw [e]
  constructor
  · rintro ⟨h1, h2, h3, h4, h5, h6⟩
    refine ⟨h1, h2, h3, h4, h5, ?_⟩
    unfold Barn.hold at h6 ⊢
    rw [put_nth (by omega)] at h6; exact h6
  · rintro ⟨h1, h2, h3, h4, h5, h6⟩
    refine ⟨h1, h2, h3, h4, h5, ?_⟩
    unfold Barn.hold at h6 ⊢
    rw [put_nth (by omega)]; exact h6
theorem goP_same {b c : Barn} (h : ∀ t r, t ∈ turnsL c r ↔ t ∈ turnsL b r) : ∀ (l : List Tur) (r : Pl), goP c r l = goP b r l
  | [], r => rfl
  | t :: l, r => by
    by_cases e : t ∈ turnsL b r
    · rw [goP_cons' e, goP_cons' ((h t r).2 e)]; exact goP_same h l _
    · have h1 : goP b r (t :: l) = none := if_neg e
      have h2 : goP c r (t :: l) = none := if_neg fun h' => e ((h t r).1 h')
      rw [h1, h2]
theorem goP_put (l : List Tur) (r : Pl) : goP (putP b p) r l = goP b r l := goP_same (fun _ r => put_mem r) l r
theorem made_put (r : Pl) : madeP (putP b p) r = madeP b r := by
  unfold madeP
  rw [put_len, Bool.eq_iff_iff, List.all_eq_true, List.all_eq_true]
  have key : ∀ i, i ∈ List.range b.lots.length → (decide ((nth (putP b p).lots i).aim = -1) || decide ((nth (putP b p).lots i).aim = nth r.1 i)) = (decide ((nth b.lots i).aim = -1) || decide ((nth b.lots i).aim = nth r.1 i)) := fun i hi => by
    rw [put_nth (List.mem_range.1 hi)]
  exact ⟨fun H i hi => by rw [← key i hi]; exact H i hi, fun H i hi => by rw [key i hi]; exact H i hi⟩
theorem rightB_put (_ : b.lots.length ≤ 6) : rightB (putP b p) = madeP b p := by
  unfold rightB madeP
  rw [Bool.eq_iff_iff, List.all_eq_true, List.all_eq_true]
  constructor
  · intro H i hi
    have hi := List.mem_range.1 hi
    have := H _ (nth_mem (xs := (putP b p).lots) (k := i) (by rw [put_len]; exact hi))
    rw [put_nth hi] at this; exact this
  · intro H l hl
    obtain ⟨i, hi, rfl⟩ := mem_nth hl
    rw [put_len] at hi
    rw [put_nth hi]; exact H i (List.mem_range.2 hi)
theorem turned_put (h6 : b.lots.length ≤ 6) (ht : t ∈ turnsL b p) : turnedB (putP b p) t = (putP b (moved p t), 0) := by
  obtain ⟨h1, h2, h3, h4, h5, h7⟩ := mem_turnsL.1 ht
  rw [turned_0]
  · congr 1
    have e : lotsTo (putP b p) t = (putP b (moved p t)).lots := ext_nth (by unfold lotsTo; rw [List.length_set, put_len, put_len]) fun i hi => by
      unfold lotsTo at hi ⊢
      rw [List.length_set, put_len] at hi
      rw [nthA_set (by rw [put_len]; exact hi), put_nth hi, put_nth hi, moved_nth (by omega)]
      by_cases e : t.lot.toNat = i
      · rw [if_pos e, if_pos e, put_nth (by omega), e]
      · rw [if_neg e, if_neg e]
    rw [e]; rfl
  · simp only [Bool.or_eq_false_iff, Bool.not_eq_false', Barn.lot, Barn.bin, inB_true, put_len]
    refine ⟨by omega, ?_⟩
    show 0 ≤ t.aim ∧ t.aim ≤ (b.sizes.length : Int) - 1
    omega
  · unfold Barn.free
    rw [List.all_eq_true]
    intro l hl
    obtain ⟨i, hi, rfl⟩ := mem_nth hl
    rw [put_len] at hi
    rw [put_nth hi, Bool.not_eq_true', decide_eq_false_iff_not]
    intro e
    have := (taken_iff h6).2 ⟨i, hi, e⟩
    rw [h5] at this; cases this
  · unfold Barn.hold at h7 ⊢
    rw [put_nth (by omega)]; exact h7
def backL : Pl → List Tur → List Tur
  | _, [] => []
  | p, t :: l => ⟨t.lot, nth p.1 t.lot.toNat⟩ :: backL (moved p t) l
theorem backL_append : ∀ (l l' : List Tur) (p : Pl), backL p (l ++ l') = backL p l ++ backL (movedAll p l) l'
  | [], l', p => rfl
  | t :: l, l', p => by
    show _ :: backL (moved p t) (l ++ l') = _
    rw [backL_append l l' (moved p t)]; rfl
theorem backL_len : ∀ (l : List Tur) (p : Pl), (backL p l).length = l.length
  | [], _ => rfl
  | t :: l, p => by show (backL (moved p t) l).length + 1 = _; rw [backL_len l]; rfl
theorem go_all : ∀ (l : List Tur) {p q : Pl}, goP b p l = some q → q = movedAll p l
  | [], p, q, h => by injection h with h; exact h.symm
  | t :: l, p, q, h => go_all l (goP_cons h).2
theorem done_put (h6 : b.lots.length ≤ 6) : ∀ (l : List Tur) {p q : Pl} (acc : List Tur), goP b p l = some q → doneGo (putP b p) acc l = (putP b q, (acc ++ backL p l).reverse, 0)
  | [], p, q, acc, h => by injection h with h; subst h; show (putP b p, acc.reverse, 0) = _; rw [show backL p [] = [] from rfl, List.append_nil]
  | t :: l, p, q, acc, h => by
    obtain ⟨h1, h2⟩ := goP_cons h
    have e := turned_put h6 h1
    have h3 := mem_turnsL.1 h1
    show (if (turnedB (putP b p) t).2 = 0 then doneGo (turnedB (putP b p) t).1 (acc ++ [⟨t.lot, (nth (putP b p).lots t.lot.toNat).inn⟩]) l else _) = _
    rw [e, if_pos rfl, put_nth (by omega), done_put h6 l _ h2, List.append_assoc]; rfl
structure VP (b : Barn) (p : Pl) : Prop where
  apart : apartP b p
  named : ∀ i, i < b.lots.length → 0 ≤ nth p.1 i ∧ nth p.1 i < b.sizes.length
  holds : ∀ i, i < b.lots.length → (nth b.lots i).sacks ≤ nth b.sizes (nth p.1 i).toNat
theorem vp_first (hr : b.Right) : VP b (firstP b) := ⟨apart_first hr, first_named hr, fun i hi => by rw [first_nth hr.lots hi]; exact (hr.holds i hi).1⟩
theorem vp_moved (h6 : b.lots.length ≤ 6) (h : VP b p) (ht : t ∈ turnsL b p) : VP b (moved p t) := by
  have h3 := mem_turnsL.1 ht
  refine ⟨apart_moved h6 h.apart ht, fun i hi => ?_, fun i hi => ?_⟩
  · rw [moved_nth (by omega)]
    by_cases e : t.lot.toNat = i
    · rw [if_pos e]; exact ⟨h3.2.2.1, h3.2.2.2.1⟩
    · rw [if_neg e]; exact h.named i hi
  · rw [moved_nth (by omega)]
    by_cases e : t.lot.toNat = i
    · rw [if_pos e]
      have := h3.2.2.2.2.2
      unfold Barn.hold at this
      rw [e] at this
      exact of_decide_eq_true this
    · rw [if_neg e]; exact h.holds i hi
theorem vp_go (h6 : b.lots.length ≤ 6) : ∀ (l : List Tur) {p q : Pl}, VP b p → goP b p l = some q → VP b q
  | [], p, q, h, e => by injection e with e; rw [← e]; exact h
  | t :: l, p, q, h, e => vp_go h6 l (vp_moved h6 h (goP_cons e).1) (goP_cons e).2
theorem back_one (h6 : b.lots.length ≤ 6) (h : VP b p) (ht : t ∈ turnsL b p) : (⟨t.lot, nth p.1 t.lot.toNat⟩ : Tur) ∈ turnsL b (moved p t) ∧ moved (moved p t) ⟨t.lot, nth p.1 t.lot.toNat⟩ = p := by
  obtain ⟨h1, h2, h3, h4, h5, h7⟩ := mem_turnsL.1 ht
  have hlot : t.lot.toNat < b.lots.length := by omega
  have hna : ∀ j, j < b.lots.length → nth p.1 j ≠ t.aim := fun j hj e => by
    have := (taken_iff h6).2 ⟨j, hj, e⟩
    rw [h5] at this; cases this
  constructor
  · refine mem_turnsL.2 ⟨h1, h2, (h.named _ hlot).1, (h.named _ hlot).2, ?_, ?_⟩
    · rw [Bool.eq_false_iff]
      intro hc
      obtain ⟨j, hj, e⟩ := (taken_iff h6).1 hc
      rw [moved_nth (by omega)] at e
      by_cases e1 : t.lot.toNat = j
      · rw [if_pos e1] at e; exact hna _ hlot e.symm
      · rw [if_neg e1] at e; exact e1 (h.apart _ _ hlot hj e.symm)
    · unfold Barn.hold
      exact decide_eq_true (h.holds _ hlot)
  · apply Subtype.ext
    refine ext_nth ((moved (moved p t) ⟨t.lot, nth p.1 t.lot.toNat⟩).2.trans p.2.symm) fun i hi => ?_
    have hi : i < 6 := (moved (moved p t) ⟨t.lot, nth p.1 t.lot.toNat⟩).2 ▸ hi
    rw [moved_nth hi, moved_nth hi]
    by_cases e : t.lot.toNat = i
    · rw [if_pos e, e]
    · rw [if_neg e, if_neg e]
theorem go_back (h6 : b.lots.length ≤ 6) : ∀ (l : List Tur) {p q : Pl}, VP b p → goP b p l = some q → goP b q (backL p l).reverse = some p
  | [], p, q, _, h => by injection h with h; rw [h]; rfl
  | t :: l, p, q, hv, h => by
    obtain ⟨h1, h2⟩ := goP_cons h
    obtain ⟨h3, h4⟩ := back_one h6 hv h1
    show goP b q (_ :: backL (moved p t) l).reverse = _
    rw [List.reverse_cons]
    have := goP_snoc (go_back h6 l (vp_moved h6 hv h1) h2) h3
    rw [h4] at this; exact this
theorem back_back (h6 : b.lots.length ≤ 6) : ∀ (l : List Tur) {p q : Pl}, VP b p → goP b p l = some q → (backL q (backL p l).reverse).reverse = l
  | [], p, q, _, h => rfl
  | t :: l, p, q, hv, h => by
    obtain ⟨h1, h2⟩ := goP_cons h
    have hv2 := vp_moved h6 hv h1
    have h3 := mem_turnsL.1 h1
    show (backL q (_ :: backL (moved p t) l).reverse).reverse = _
    rw [List.reverse_cons, backL_append, ← go_all _ (go_back h6 l hv2 h2), List.reverse_append, back_back h6 l hv2 h2]
    show [(⟨t.lot, nth (moved p t).1 t.lot.toNat⟩ : Tur)] ++ l = _
    rw [moved_nth (by omega), if_pos rfl]; rfl
theorem right_put (hr : b.Right) (hv : VP b p) : (putP b p).Right := by
  have hl := put_len b p
  have key : ∀ l ∈ (putP b p).lots, ∃ i, i < b.lots.length ∧ l = ⟨(nth b.lots i).sacks, nth p.1 i, (nth b.lots i).aim⟩ := fun l h => by
    obtain ⟨i, hi, rfl⟩ := mem_nth h
    rw [hl] at hi
    exact ⟨i, hi, put_nth hi⟩
  refine ⟨hr.bins, by rw [hl]; exact hr.lots, hr.size, fun l h => ?_, fun l h => ?_, fun l h => ?_, fun i k hk hi => ?_, fun i hi => ?_⟩
  · obtain ⟨i, hi, rfl⟩ := key l h; exact hr.sacks (nth b.lots i) (nth_mem hi)
  · obtain ⟨i, hi, rfl⟩ := key l h; exact hv.named i hi
  · obtain ⟨i, hi, rfl⟩ := key l h; exact hr.aim (nth b.lots i) (nth_mem hi)
  · rw [hl] at hi
    rw [put_nth hi, put_nth (by omega)]
    exact ⟨fun e => by have := hv.apart i k hi (by omega) e; omega, (hr.apart i k hk hi).2⟩
  · rw [hl] at hi
    rw [put_nth hi]
    exact ⟨hv.holds i hi, (hr.holds i hi).2⟩
theorem firstP_put (hr : b.Right) {l : List Tur} (h : goP b (firstP b) l = some q) : firstP (putP b q) = q := by
  have h6 := hr.lots
  apply Subtype.ext
  have e1 : (firstP (putP b q)).1.take b.lots.length = q.1.take b.lots.length := by
    have := first_inn (b := putP b q) (by rw [put_len]; exact h6)
    rw [put_len] at this
    rw [this]
    unfold innL putP
    refine ext_nth (by rw [List.length_map, List.length_map, List.length_range, List.length_take, q.2]; omega) fun i hi => ?_
    simp only [List.length_map, List.length_range] at hi
    rw [nth_take hi, nth_lt (by simpa using hi)]
    simp
  have e2 : (firstP (putP b q)).1.drop b.lots.length = q.1.drop b.lots.length := by
    rw [go_tail l h]
    have hd : ∀ c : Barn, c.lots.length = b.lots.length → (firstP c).1.drop b.lots.length = (List.replicate 6 (0 : Int)).take (6 - b.lots.length) := fun c hc => by
      unfold firstP
      show List.drop _ (List.take 6 _) = _
      rw [List.drop_take, List.drop_append_of_le_length (by simp [hc]), List.drop_of_length_le (by simp [hc]), List.nil_append]
    rw [hd _ (put_len b q), hd b rfl]
  rw [← List.take_append_drop b.lots.length (firstP (putP b q)).1, e1, e2, List.take_append_drop]
theorem places_of {c : Barn} (hr : c.Right) {L : List Pl} (hn : L.Nodup) (h : ∀ r, r ∈ L ↔ ∃ l, goP c (firstP c) l = some r) : placesV c = (L.length : Nat) := by
  unfold placesV
  rw [if_pos (right_check hr)]
  obtain ⟨hs, _⟩ := search_spec hr (one_ok c) true
  have hw := (hs.whole rfl).2
  have e1 := nodup_sub hs.keys (L := L) fun r hr' => by
    obtain ⟨w, hw'⟩ := mem_mget hr'
    obtain ⟨l, hl, _⟩ := hs.walk r w hw'
    exact (h r).2 ⟨l, hl⟩
  have e2 := nodup_sub hn (L := (searchM c oneC true).ways.map Prod.fst) fun r hr' => by
    obtain ⟨l, hl⟩ := (h r).1 hr'
    obtain ⟨w, hw'⟩ := hw l r hl
    exact mget_some_mem hw'
  rw [List.length_map] at e1 e2
  congr 1
  omega
theorem reached (hr : b.Right) : ∃ L : List Pl, L.Nodup ∧ (∀ r, r ∈ L ↔ ∃ l, goP b (firstP b) l = some r) ∧ placesV b = (L.length : Nat) := by
  obtain ⟨hs, _⟩ := search_spec hr (one_ok b) true
  have hw := (hs.whole rfl).2
  have h : ∀ r, r ∈ (searchM b oneC true).ways.map Prod.fst ↔ ∃ l, goP b (firstP b) l = some r := fun r => by
    constructor
    · intro hr'
      obtain ⟨w, hw'⟩ := mem_mget hr'
      obtain ⟨l, hl, _⟩ := hs.walk r w hw'
      exact ⟨l, hl⟩
    · rintro ⟨l, hl⟩
      obtain ⟨w, hw'⟩ := hw l r hl
      exact mget_some_mem hw'
  exact ⟨_, hs.keys, h, places_of hr hs.keys h⟩
structure Backs (b : Barn) (plan : List Tur) (a : Barn) (back : List Tur) (p : List Int) : Prop where
  done : doneV b plan = (a, back, 0)
  home : doneV a back = (b, plan, 0)
  right : a.Right
  cost : costL (sackC a) back = costL (sackC b) plan
  ok : (lawV a back).2 = true
  at_ : lawV b plan = (p, true)
  sizes : a.sizes = b.sizes
  len : a.lots.length = b.lots.length
  plen : p.length = b.lots.length
  lot : ∀ i, i < b.lots.length → nth a.lots i = ⟨(nth b.lots i).sacks, nth p i, (nth b.lots i).aim⟩
  places : placesV a = placesV b
  one : 1 ≤ placesV b
  makes : makesB b plan = rightV b plan
  few : ∀ e l n e' l' n', Cheap b oneC e l n → Cheap a oneC e' l' n' → e = e' ∧ (e = 0 → n ≤ n' + plan.length ∧ n' ≤ n + plan.length)
theorem sack_put {i : Nat} (hi : i < b.lots.length) : (nth (putP b p).lots i).sacks = (nth b.lots i).sacks := by rw [put_nth hi]
theorem cost_put : ∀ (l : List Tur), (∀ t ∈ l, 0 ≤ t.lot ∧ t.lot < b.lots.length) → costL (sackC (putP b p)) l = costL (sackC b) l
  | [], _ => rfl
  | t :: l, h => by
    have h1 := h t List.mem_cons_self
    have h2 := cost_put l fun u hu => h u (List.mem_cons_of_mem _ hu)
    unfold costL at h2 ⊢
    rw [List.map_cons, List.map_cons, List.sum_cons, List.sum_cons, h2]
    unfold sackC
    rw [sack_put (by omega)]
theorem cost_rev (c : Tur → Int) : ∀ (l : List Tur), costL c l.reverse = costL c l
  | [] => rfl
  | t :: l => by
    rw [List.reverse_cons, costL_append, cost_rev c l, costL_one]
    unfold costL; rw [List.map_cons, List.sum_cons]; omega
theorem cost_back : ∀ (l : List Tur) (p : Pl), costL (sackC b) (backL p l) = costL (sackC b) l
  | [], _ => rfl
  | t :: l, p => by
    have := cost_back l (moved p t)
    unfold costL at this ⊢
    show (List.map _ (_ :: backL (moved p t) l)).sum = _
    rw [List.map_cons, List.map_cons, List.sum_cons, List.sum_cons, this]; rfl
theorem backs (hr : b.Right) {plan : List Tur} (hp : plan.length ≤ 6000) (h : (lawV b plan).2 = true) : ∃ a back p, Backs b plan a back p ∧ back.length = plan.length := by
  have h6 := hr.lots
  obtain ⟨q, hq⟩ := (lawV_iff h6).1 h
  have hv := vp_first hr
  have hvq := vp_go h6 plan hv hq
  have hb := go_back h6 plan hv hq
  have hra := right_put hr hvq
  have hf := firstP_put hr hq
  have hrl : (backL (firstP b) plan).reverse.length = plan.length := by rw [List.length_reverse, backL_len]
  have h6a : (putP b q).lots.length ≤ 6 := by rw [put_len]; exact h6
  have hd : doneV b plan = (putP b q, (backL (firstP b) plan).reverse, 0) := by
    refine doneV_go (right_check hr) (by omega) ?_
    have := done_put h6 plan [] hq
    rw [put_first h6] at this; exact this
  have hgo : ∀ l r, goP (putP b q) r l = goP b r l := goP_put
  refine ⟨putP b q, _, q.1.take b.lots.length, ⟨hd, ?_, hra, ?_, ?_, lawV_some h6 hq, rfl, put_len b q, by rw [List.length_take, q.2]; omega, fun i hi => by rw [put_nth hi, nth_take hi], ?_, ?_, ?_, ?_⟩, hrl⟩
  · refine doneV_go (right_check hra) (by rw [hrl]; omega) ?_
    have h1 := done_put h6 (backL (firstP b) plan).reverse [] hb
    rw [List.nil_append, back_back h6 plan hv hq, put_first h6] at h1
    exact h1
  · have h2 : ∀ t ∈ (backL (firstP b) plan).reverse, 0 ≤ t.lot ∧ t.lot < b.lots.length := fun t ht => (go_rng _ hb t ht).1
    rw [cost_put _ h2, cost_rev, cost_back]
  · exact (lawV_iff h6a).2 ⟨firstP b, by rw [hf, hgo]; exact hb⟩
  · obtain ⟨L, h1, h2, h3⟩ := reached hr
    rw [h3, places_of hra h1 fun r => ?_]
    rw [h2, hf]
    constructor
    · rintro ⟨l, hl⟩
      exact ⟨(backL (firstP b) plan).reverse ++ l, by rw [hgo, goP_append, hb]; exact hl⟩
    · rintro ⟨l, hl⟩
      rw [hgo] at hl
      exact ⟨plan ++ l, by rw [goP_append, hq]; exact hl⟩
  · obtain ⟨L, h1, h2, h3⟩ := reached hr
    have : firstP b ∈ L := (h2 _).2 ⟨[], rfl⟩
    have := List.length_pos_of_mem this
    omega
  · unfold makesB
    rw [hd]
    show (decide ((0 : Int) = 0) && rightB (putP b q)) = _
    rw [rightB_put h6, decide_eq_true rfl, Bool.true_and, Bool.eq_iff_iff, right_iff h6]
    exact ⟨fun h => ⟨q, hq, h⟩, fun ⟨q', h1, h2⟩ => by rw [hq] at h1; injection h1 with h1; rw [h1]; exact h2⟩
  · intro e l n e' l' n' hc hc'
    have to : ∀ x, rightV (putP b q) x = true → rightV b (plan ++ x) = true := fun x hx => by
      obtain ⟨r, g1, g2⟩ := (right_iff h6a).1 hx
      rw [hf, hgo] at g1
      rw [made_put] at g2
      exact (right_iff h6).2 ⟨r, by rw [goP_append, hq]; exact g1, g2⟩
    have fro : ∀ x, rightV b x = true → rightV (putP b q) ((backL (firstP b) plan).reverse ++ x) = true := fun x hx => by
      obtain ⟨r, g1, g2⟩ := (right_iff h6).1 hx
      refine (right_iff h6a).2 ⟨r, ?_, by rw [made_put]; exact g2⟩
      rw [hf, hgo, goP_append, hb]; exact g1
    rcases hc.err with rfl | rfl
    · have h1 := hc.yes rfl
      rcases hc'.err with rfl | rfl
      · have h2 := hc'.yes rfl
        refine ⟨rfl, fun _ => ?_⟩
        have g1 := h1.2.2 _ (to l' h2.1)
        have g2 := h2.2.2 _ (fro l h1.1)
        rw [costL_append, h2.2.1, cost_one] at g1
        rw [costL_append, h1.2.1, cost_one, hrl] at g2
        omega
      · have := (hc'.no rfl).2.2 ((backL (firstP b) plan).reverse ++ l)
        rw [fro l h1.1] at this; cases this
    · rcases hc'.err with rfl | rfl
      · have := (hc.no rfl).2.2 (plan ++ l')
        rw [to l' (hc'.yes rfl).1] at this; cases this
      · exact ⟨rfl, fun e => by cases e⟩
end Go.Proofs.Ytpnndljmhpepgaa

namespace Go.Proofs.Ytpnndljmhpepgaa
open Go Go.T
set_option maxHeartbeats 4000000
theorem und4 : Try.prog.underlying 4 = some .bool := Try.underlying4
theorem doneGo_rng : ∀ (l : List Tur) {cur : Barn} {back : List Tur}, (doneGo cur back l).2.2 = 0 → ∀ t ∈ l, 0 ≤ t.lot ∧ t.lot < cur.lots.length
  | [], _, _, _, t, ht => by cases ht
  | u :: l, cur, back, h, t, ht => by
    have h : (if (turnedB cur u).2 = 0 then doneGo (turnedB cur u).1 (back ++ [⟨u.lot, (nth cur.lots u.lot.toNat).inn⟩]) l else (noB, [], (turnedB cur u).2)).2.2 = 0 := h
    by_cases c : (turnedB cur u).2 = 0
    · rw [if_pos c] at h
      obtain ⟨h1, _, _, _, e⟩ := turned_err c
      rcases List.mem_cons.1 ht with rfl | ht
      · exact h1
      · have := doneGo_rng l h t ht
        rw [e] at this
        have e2 : (lotsTo cur u).length = cur.lots.length := by unfold lotsTo; rw [List.length_set]
        rw [← e2]; exact this
    · rw [if_neg c] at h; exact absurd h c
theorem done_rng {b : Barn} {plan : List Tur} (h : (doneV b plan).2.2 = 0) : checkB b = 0 ∧ plan.length ≤ 6000 ∧ ∀ t ∈ plan, 0 ≤ t.lot ∧ t.lot < b.lots.length := by
  by_cases c : checkB b = 0
  · by_cases c2 : (plan.length : Int) > 6000
    · rw [doneV_long c c2] at h; cases h
    · rw [doneV_go c c2 rfl] at h
      exact ⟨c, by omega, doneGo_rng plan h⟩
  · rw [doneV_bad c] at h; exact absurd h c
theorem sumUp_rng {b : Barn} (hr : b.Right) {l : List Tur} (h : ∀ t ∈ l, 0 ≤ t.lot ∧ t.lot < b.lots.length) : ∀ k, k ≤ l.length → 0 ≤ sumUp b l k ∧ sumUp b l k ≤ 300 * k
  | 0, _ => by rw [sumUp_zero]; exact ⟨Int.le_refl _, Int.le_refl _⟩
  | k + 1, hk => by
    have h1 := sumUp_rng hr h k (by omega)
    have h3 := sack_bound hr (h _ (nth_mem (xs := l) (k := k) (by omega)))
    rw [sumUp_succ (by omega)]; omega
def sackV (b : Barn) (plan : List Tur) : Int × Int := if (doneV b plan).2.2 = 0 then (costL (sackC b) plan, 0) else (0, (doneV b plan).2.2)
theorem sackV_1 {b : Barn} {plan : List Tur} (h : ¬ (doneV b plan).2.2 = 0) : sackV b plan = (0, (doneV b plan).2.2) := if_neg h
theorem sackV_2 {b : Barn} {plan : List Tur} (h : (doneV b plan).2.2 = 0) {k : Nat} (hk : plan.length ≤ k) : sackV b plan = (sumUp b plan k, 0) := by
  unfold sackV sumUp; rw [if_pos h, List.take_of_length_le hk]
theorem costR_in {b : Barn} (hr : b.Right) : 0 ≤ costR b oneC ∧ costR b oneC ≤ 400000000 := by
  have h := cheap hr (one_ok b)
  have hl := planR_len hr (one_ok b)
  rcases h.err with e | e
  · have := (h.yes e).2.1
    rw [cost_one] at this; omega
  · have := (h.no e).2.1; omega
def sameV (a b : Barn) : Bool := decide (a.sizes = b.sizes) && decide (a.lots = b.lots)
theorem sameV_self (b : Barn) : sameV b b = true := by unfold sameV; simp
section
variable {b a : Barn} {P back : List Tur} {p : List Int}
theorem lbk1 (h : Backs b P a back p) : (((((((((!decide ((0 : Int) = 0) || !decide ((0 : Int) = 0)) || !decide ((0 : Int) = 0)) || !decide ((0 : Int) = 0)) || !decide ((0 : Int) = 0)) || !decide ((0 : Int) = 0)) || !sameV b b) || !decide (P = P)) || !decide (costL (sackC b) P = costL (sackC a) back))) = false := by
  rw [sameV_self, h.cost, decide_eq_true (rfl : P = P)]; simp
theorem lbk3 (h : Backs b P a back p) : ((!true || !decide (costL (sackC b) P = costL (sackC b) P)) || !decide ((a.lots.length : Int) = p.length)) = false := by
  rw [h.len, h.plen]; simp
theorem lbk5 (h : Backs b P a back p) {k : Nat} (hk : k < p.length) : ((!decide ((nth a.lots k).inn = nth p k) || !decide ((nth a.lots k).aim = (nth b.lots k).aim)) || !decide ((nth a.lots k).sacks = (nth b.lots k).sacks)) = false := by
  have := h.lot k (by have := h.plen; omega)
  rw [this]; simp
theorem lbk7 (h : Backs b P a back p) (hr : b.Right) : ((((((!decide (checkB b = 0) || !decide (checkB a = 0)) || !decide (placesV b = placesV a)) || decide (placesV b < 1)) || !decide (planE b oneC = planE a oneC)) || !decide ((0 : Int) = 0)) || !(makesB b P == rightV b P)) = false := by
  have h1 := (h.few _ _ _ _ _ _ (cheap hr (one_ok b)) (cheap h.right (one_ok a))).1
  have h2 := h.one
  rw [decide_eq_true (right_check hr), decide_eq_true (right_check h.right), h.places, decide_eq_false (show ¬ placesV b < 1 by omega), decide_eq_true h1, h.makes]; simp
theorem lbk8 (h : Backs b P a back p) (hr : b.Right) : ((!decide (planE b oneC = 0) || (decide (costR b oneC ≤ costR a oneC + P.length) && decide (costR a oneC ≤ costR b oneC + P.length))) && true) = true := by
  have h1 := (h.few _ _ _ _ _ _ (cheap hr (one_ok b)) (cheap h.right (one_ok a))).2
  by_cases c : planE b oneC = 0
  · have := h1 c
    rw [decide_eq_true this.1, decide_eq_true this.2]; simp
  · rw [decide_eq_false c]; rfl
end
attribute [local irreducible] planE costR placesV checkB doneV costL sackC walkP walkE rightV makesB lawV sumUp sameV
attribute [local irreducible] dInt dBool dSl dPp dPtr dAgg dTup dClo dAny dEx dStr dGd dCells dVec dVs dRow dOp nth Tri Into TOps Ctr bodyPost Exit.then Exit.inBlock Code.wp Code.wpIn dWhen dPa dPe dAo dArr dMp dPm dMap dCJ CtrG CtrI OpY keepPost iterPost bodyPostM roundQ
set_option maxRecDepth 100000 in
theorem c_same (a b : Barn) : Ctr Try.prog 24 [barnT a, barnT b] (Ty.bool (sameV a b)) := by
  refine fn_intro Try.func24 rfl (by decide) Try.ntmps24 (by exact Nat.le_of_ble_eq_true rfl) fun w0 M0 => ?_
  refine t_seq ?_
  refine t_region ?_
  refine r_box_agg rfl ?_
  refine r_box_agg rfl ?_
  refine asB rfl ?_
  refine r_nil ?_
  refine i_then ?_
  refine t_seq ?_
  refine t_region ?_
  refine r_field_pp rfl rfl rfl rfl rfl (by decide) ?_
  refine r_load_pp rfl rfl rfl rfl ?_
  refine r_field_pp rfl rfl rfl rfl rfl (by decide) ?_
  refine r_load_pp rfl rfl rfl rfl ?_
  refine r_call (c_Eq_int a.sizes b.sizes) rfl rfl rfl rfl rfl ?_
  refine mvB rfl ?_
  apply r_guard (s := 10) rfl rfl rfl
  · intro hg; apply opT_of; (refine r_field_pp rfl rfl rfl rfl rfl (by decide) ?_); refine r_nil ?_; exact rfl
  · exact rfl
  · exact rfl
  apply r_guard (s := 10) rfl rfl rfl
  · intro hg; apply opT_strip (s := 11) rfl (by (rw [hg]; rfl)); apply opT_of; (refine r_load_pp rfl rfl rfl rfl ?_); refine r_nil ?_; exact rfl
  · exact rfl
  · exact rfl
  apply r_guard (s := 10) rfl rfl rfl
  · intro hg; apply opT_of; (refine r_field_pp rfl rfl rfl rfl rfl (by decide) ?_); refine r_nil ?_; exact rfl
  · exact rfl
  · exact rfl
  apply r_guard (s := 10) rfl rfl rfl
  · intro hg; apply opT_strip (s := 13) rfl (by (rw [hg]; rfl)); apply opT_of; (refine r_load_pp rfl rfl rfl rfl ?_); refine r_nil ?_; exact rfl
  · exact rfl
  · exact rfl
  apply r_guard (s := 10) rfl rfl rfl
  · intro hg; apply opT_strip (s := 12) rfl (by (rw [hg]; rfl)); apply opT_strip (s := 14) rfl (by (rw [hg]; rfl)); apply opT_of; (refine r_call (c_Eq_lot a.lots b.lots) rfl rfl rfl rfl rfl ?_); refine r_nil ?_; exact rfl
  · exact rfl
  · exact rfl
  refine r_and rfl rfl ?_
  refine asB rfl ?_
  refine r_nil ?_
  refine i_then ?_
  refine t_ret ?_
  refine i_rp1 rfl rfl ?_
  all_goals skip
  all_goals exact ret_eq rfl rfl (congrArg Ty.bool (by unfold sameV; rfl))
set_option maxRecDepth 100000 in
theorem c_Sacks (b : Barn) (hs : b.Small) (plan : List Tur) (hp : plan.length ≤ 1000000) : Ctr Try.prog 33 [barnT b, Ty.sl TurE plan] (Ty.tup [Ty.int .i64 (sackV b plan).1, Ty.int .i64 (sackV b plan).2]) := by
  refine fn_intro Try.func33 rfl (by decide) Try.ntmps33 (by exact Nat.le_of_ble_eq_true rfl) fun w0 M0 => ?_
  refine t_seq ?_
  refine t_region ?_
  refine r_box_agg rfl ?_
  refine asI rfl ?_
  refine asI rfl ?_
  refine r_nil ?_
  refine i_then ?_
  refine t_seq ?_
  refine t_seq ?_
  refine t_region ?_
  refine r_load_ppN rfl rfl rfl (by exact Nat.le_of_ble_eq_true rfl) ?_
  refine mvS rfl ?_
  refine r_call (c_done b hs plan hp) rfl rfl rfl rfl rfl ?_
  refine mvT rfl ?_
  refine r_extract rfl rfl ?_
  refine r_extract rfl rfl ?_
  refine r_extract rfl rfl ?_
  refine r_alloc rfl (by exact List.cons_ne_nil _ _) rfl ?_
  refine r_storeN rfl rfl (by decide) rfl rfl rfl rfl rfl rfl ?_
  refine asS rfl ?_
  refine asI rfl ?_
  refine r_nil ?_
  refine i_then ?_
  refine t_seq ?_
  refine t_region ?_
  refine mvI rfl ?_
  refine r_bin rfl rfl rfl ?_
  refine r_nil ?_
  refine i_then ?_
  refine t_cond_ndec rfl (fun hc1 => ?_) (fun hc1 => ?_)
  ·
    refine t_seq ?_
    refine t_region ?_
    refine mvI rfl ?_
    refine asI rfl ?_
    refine asI rfl ?_
    refine r_nil ?_
    refine i_then ?_
    refine t_ret ?_
    refine i_then_ret ?_
    refine i_rp2 rfl rfl rfl ?_ ?_
    all_goals skip
    all_goals first | exact ret_eq rfl rfl (congrArg (fun z : Int × Int => Ty.int .i64 z.1) (sackV_1 hc1).symm) | exact ret_eq rfl rfl (congrArg (fun z : Int × Int => Ty.int .i64 z.2) (sackV_1 hc1).symm)
  ·
    refine t_skip ?_
    refine i_then ?_
    refine t_seq ?_
    obtain ⟨hd1, hd2, hd3⟩ := done_rng hc1
    have hr := check_right hd1
    refine t_region ?_
    refine asI rfl ?_
    refine r_nil ?_
    refine i_then ?_
    refine t_seq ?_
    refine t_seq ?_
    refine t_region ?_
    refine mvS rfl ?_
    refine r_len rfl rfl rfl ?_
    refine mvI rfl ?_
    refine r_nil ?_
    refine i_then ?_
    refine t_block ?_
    refine t_loop (fun (k : {k : Nat // k ≤ plan.length}) => live [(2, Ty.pp (barnTys b)), (9, Ty.int .i64 (sumUp b plan k.1)), (22, Ty.sl TurE plan), (23, Ty.int .i64 plan.length), (24, Ty.int .i64 (k.1 : Nat))] []) (fun k => plan.length - k.1) (⟨0, by omega⟩) ?_ fun k => ?_
    · (refine Ent.mk' ?_ ?_ <;> (repeat' (first | exact allSub_zero | exact allTags_nil | refine allSub_succ' ?_ (Ty.sub_any _) | refine allSub_succ' ?_ (Ty.sub_refl _) | refine allSub_succ' ?_ ?_)))
      all_goals exact Ty.sub_int (sumUp_zero b _).symm
    ·
      have hk := k.2
      have hsu := sumUp_rng hr hd3 k.1 hk
      refine t_seq ?_
      refine t_region ?_
      refine r_bin rfl rfl rfl ?_
      refine r_nil ?_
      refine i_then ?_
      refine t_seq ?_
      refine t_cond_dec rfl (fun hc2 => ?_) (fun hc2 => ?_)
      ·
        refine t_skip ?_
        refine i_then ?_
        refine t_seq ?_
        refine t_block ?_
        refine t_seq ?_
        refine t_region ?_
        refine r_index_slN rfl rfl rfl rfl rfl rfl (by omega) ?_
        refine r_load_ppN rfl rfl rfl (by exact Nat.le_of_ble_eq_true rfl) ?_
        refine r_alloc rfl (by exact List.cons_ne_nil _ _) rfl ?_
        refine r_storeN rfl rfl (by decide) rfl rfl rfl rfl rfl rfl ?_
        refine r_nil ?_
        refine i_then ?_
        have hlo := hd3 _ (nth_mem (xs := plan) (k := k.1) (by omega))
        have hsb := sack_bound hr hlo
        refine t_region ?_
        refine mvI rfl ?_
        refine r_field_pp rfl rfl rfl rfl rfl (by decide) ?_
        refine r_load_pp rfl rfl rfl rfl ?_
        refine r_field_ptr rfl rfl rfl rfl rfl (by decide) ?_
        refine r_load_ptr rfl rfl (by decide) rfl rfl rfl ?_
        refine r_index_sl rfl rfl rfl rfl rfl rfl hlo.1 (by omega) ?_
        refine r_field_pp rfl rfl rfl rfl rfl (by decide) ?_
        refine r_load_pp rfl rfl rfl rfl ?_
        refine r_add rfl rfl (by omega) (by omega) ?_
        refine asI rfl ?_
        refine r_nil ?_
        refine i_block ?_
        refine i_then ?_
        refine t_region ?_
        refine r_add rfl rfl (by omega) (by omega) ?_
        refine mvI rfl ?_
        refine r_nil ?_
        refine i_round (⟨k.1 + 1, by omega⟩) ?_ (by show plan.length - (k.1 + 1) < plan.length - k.1; omega)
        (refine Ent.mk' ?_ ?_ <;> (repeat' (first | exact allSub_zero | exact allTags_nil | refine allSub_succ' ?_ (Ty.sub_any _) | refine allSub_succ' ?_ (Ty.sub_refl _) | refine allSub_succ' ?_ ?_)))
        all_goals skip
        all_goals exact Ty.sub_int (sumUp_succ (by omega)).symm
      ·
        refine t_exit ?_
        refine i_then_exit ?_
        refine i_then_exit ?_
        refine i_block_exit rfl ?_
        refine i_then ?_
        refine t_seq ?_
        refine t_region ?_
        refine mvI rfl ?_
        refine asI rfl ?_
        refine asI rfl ?_
        refine r_nil ?_
        refine i_then ?_
        refine t_ret ?_
        refine i_rp2 rfl rfl rfl ?_ ?_
        all_goals skip
        all_goals first | exact ret_eq rfl rfl (congrArg (fun z : Int × Int => Ty.int .i64 z.1) (sackV_2 hc1 (by omega)).symm) | exact ret_eq rfl rfl (congrArg (fun z : Int × Int => Ty.int .i64 z.2) (sackV_2 hc1 (Nat.le_refl _)).symm)
section
variable {b a : Barn} {P back : List Tur}
theorem c_AfterOk (hs : b.Small) (hp : P.length ≤ 1000000) (h : doneV b P = (a, back, 0)) : Ctr Try.prog 30 [barnT b, Ty.sl TurE P] (Ty.tup [barnT a, Ty.int .i64 0]) := by
  have h1 := c_After b hs P hp
  rw [h] at h1; exact h1
theorem c_BackOk (hs : b.Small) (hp : P.length ≤ 1000000) (h : doneV b P = (a, back, 0)) : Ctr Try.prog 32 [barnT b, Ty.sl TurE P] (Ty.tup [Ty.sl TurE back, Ty.int .i64 0]) := by
  have h1 := c_Back b hs P hp
  rw [h] at h1; exact h1
theorem c_MakesOk (hs : b.Small) (hp : P.length ≤ 1000000) (h : doneV b P = (a, back, 0)) : Ctr Try.prog 31 [barnT b, Ty.sl TurE P] (Ty.tup [Ty.bool (makesB b P), Ty.int .i64 0]) := by
  have h1 := c_Makes b hs P hp
  rw [h] at h1; exact h1
theorem c_SacksOk (hs : b.Small) (hp : P.length ≤ 1000000) (h : doneV b P = (a, back, 0)) : Ctr Try.prog 33 [barnT b, Ty.sl TurE P] (Ty.tup [Ty.int .i64 (costL (sackC b) P), Ty.int .i64 0]) := by
  have h1 := c_Sacks b hs P hp
  have e : sackV b P = (costL (sackC b) P, 0) := by unfold sackV; rw [h]; rfl
  rw [e] at h1; exact h1
theorem c_ldoneOk (hs : b.Small) (hp : P.length ≤ 400000000) {p : List Int} (h : lawV b P = (p, true)) : Ctr Try.prog 56 [barnT b, Ty.sl TurE P] (Ty.tup [Ty.sl I64 p, Ty.bool true]) := by
  have h1 := c_ldone b hs P hp
  rw [h] at h1; exact h1
end
set_option maxRecDepth 100000 in
theorem c_TurnBack (g t : List Int) : Ctr Try.prog 8 [Ty.sl U8 g, Ty.sl U8 t] (Ty.bool true) := by
  refine fn_intro Try.func8 rfl (by decide) Try.ntmps8 (by exact Nat.le_of_ble_eq_true rfl) fun w0 M0 => ?_
  refine t_seq ?_
  refine t_region ?_
  refine asB rfl ?_
  refine r_nil ?_
  refine i_then ?_
  refine t_seq ?_
  obtain ⟨b, s1, hr, _, _, hM⟩ := made8 g 5 4 ⟨by decide, by decide⟩ ⟨by decide, by decide⟩
  have h0 := right_check hr
  have hs := small_right hr
  have h6 := hr.lots
  have hwo := walk_ok b (skFill t) (most := 8) (by omega)
  have hwl := hwo.len
  obtain ⟨a, back, p, hB, hbl⟩ := backs hr (plan := walkP b (skFill t) 8) (by omega) hwo.ok
  have hra := hB.right
  have hsa := small_right hra
  have hpl := hB.plen
  have hal := hB.len
  have hPi := fun k (hk : k < (walkP b (skFill t) 8).length) => (right_rng h6 hwo.ok _ (nth_mem hk)).1
  have hcb := costR_in hr
  have hca := costR_in hra
  refine t_region ?_
  refine mvS rfl ?_
  refine r_callG [(34, 10)] [34] [(34, Cont.cells 141 (skTys (skFill g)))] (c_Fill g) rfl rfl (by repeat (first | exact cv_nil | refine cv_cons ?_ ?_ | exact cv_pub rfl rfl)) pre_nil (post_cons (a := 34) (b := 10) (by exact List.mem_cons_self) rfl (cc_cells_eq (by exact List.mem_cons_self) rfl rfl rfl) post_nil) (cv_ptr (by exact List.mem_cons_self)) ?_
  refine r_callG [(34, 1000)] [] [(34, Cont.cells 141 (skTys (s1)))] (hM) rfl rfl (by repeat (first | exact cv_nil | refine cv_cons ?_ ?_ | exact cv_ptr List.mem_cons_self | exact cv_pub rfl rfl)) (pre_cons (a := 34) (b := 1000) (by exact List.mem_cons_self) rfl (cc_cells_eq (by exact List.mem_cons_self) rfl rfl rfl) pre_nil) (post_cons (a := 34) (b := 1000) (by exact List.mem_cons_self) rfl (cc_cells_eq (by exact List.mem_cons_self) rfl rfl rfl) post_nil) (cv_pub rfl rfl) ?_
  refine mvS rfl ?_
  refine r_callG [(37, 10)] [37] [(37, Cont.cells 141 (skTys (skFill t)))] (c_Fill t) rfl rfl (by repeat (first | exact cv_nil | refine cv_cons ?_ ?_ | exact cv_pub rfl rfl)) pre_nil (post_cons (a := 37) (b := 10) (by exact List.mem_cons_self) rfl (cc_cells_eq (by exact List.mem_cons_self) rfl rfl rfl) post_nil) (cv_ptr (by exact List.mem_cons_self)) ?_
  refine r_alloc rfl (by exact List.cons_ne_nil _ _) rfl ?_
  refine r_storeN rfl rfl (by decide) rfl rfl rfl rfl rfl rfl ?_
  refine asO rfl ?_
  refine r_nil ?_
  refine i_then ?_
  refine t_seq ?_
  refine t_region ?_
  refine mvO rfl ?_
  refine r_load_ptrN rfl rfl (by decide) rfl rfl (by exact Nat.le_of_ble_eq_true rfl) ?_
  refine r_callG [(37, 1000)] [] [(37, Cont.cells 141 (skTys (walkE b (skFill t) 8)))] (c_walk b hs (skFill t) 8 ⟨by omega, by omega⟩ (walks_ok b t (k := 0) (by omega))) rfl rfl (by repeat (first | exact cv_nil | refine cv_cons ?_ ?_ | exact cv_ptr List.mem_cons_self | exact cv_pub rfl rfl)) (pre_cons (a := 37) (b := 1000) (by exact List.mem_cons_self) rfl (cc_cells_eq (by exact List.mem_cons_self) rfl rfl rfl) pre_nil) (post_cons (a := 37) (b := 1000) (by exact List.mem_cons_self) rfl (cc_cells_eq (by exact List.mem_cons_self) rfl rfl rfl) post_nil) (cv_pub rfl rfl) ?_
  refine asS rfl ?_
  refine r_nil ?_
  refine i_then ?_
  refine t_seq ?_
  refine t_forget (B := live [(5, Ty.ptr 6 0), (7, Ty.sl TurE (walkP b (skFill t) 8))] [(6, Cont.cells 25 (barnTys b))]) ?_ ?_
  · (refine Ent.mk' ?_ ?_ <;> (repeat' (first | exact allSub_zero | exact allTags_nil | refine allSub_succ' ?_ (Ty.sub_any _) | refine allSub_succ' ?_ (Ty.sub_refl _) | refine allTags_cons rfl (Cont.sub_refl _) ?_)))
  refine t_region ?_
  refine r_load_ptrN rfl rfl (by decide) rfl rfl (by exact Nat.le_of_ble_eq_true rfl) ?_
  refine mvS rfl ?_
  refine r_call (c_AfterOk hs (by omega) hB.done) rfl rfl rfl rfl rfl ?_
  refine mvT rfl ?_
  refine r_extract rfl rfl ?_
  refine r_extract rfl rfl ?_
  refine r_alloc rfl (by exact List.cons_ne_nil _ _) rfl ?_
  refine r_storeN rfl rfl (by decide) rfl rfl rfl rfl rfl rfl ?_
  refine asI rfl ?_
  refine r_nil ?_
  refine i_then ?_
  refine t_seq ?_
  refine t_region ?_
  refine r_load_ptrN rfl rfl (by decide) rfl rfl (by exact Nat.le_of_ble_eq_true rfl) ?_
  refine mvS rfl ?_
  refine r_call (c_BackOk hs (by omega) hB.done) rfl rfl rfl rfl rfl ?_
  refine mvT rfl ?_
  refine r_extract rfl rfl ?_
  refine r_extract rfl rfl ?_
  refine asS rfl ?_
  refine asI rfl ?_
  refine r_nil ?_
  refine i_then ?_
  refine t_seq ?_
  refine t_region ?_
  refine r_load_ptrN rfl rfl (by decide) rfl rfl (by exact Nat.le_of_ble_eq_true rfl) ?_
  refine mvS rfl ?_
  refine r_call (c_AfterOk hsa (by omega) hB.home) rfl rfl rfl rfl rfl ?_
  refine mvT rfl ?_
  refine r_extract rfl rfl ?_
  refine r_extract rfl rfl ?_
  refine r_alloc rfl (by exact List.cons_ne_nil _ _) rfl ?_
  refine r_storeN rfl rfl (by decide) rfl rfl rfl rfl rfl rfl ?_
  refine asI rfl ?_
  refine r_nil ?_
  refine i_then ?_
  refine t_seq ?_
  refine t_region ?_
  refine r_load_ptrN rfl rfl (by decide) rfl rfl (by exact Nat.le_of_ble_eq_true rfl) ?_
  refine mvS rfl ?_
  refine r_call (c_BackOk hsa (by omega) hB.home) rfl rfl rfl rfl rfl ?_
  refine mvT rfl ?_
  refine r_extract rfl rfl ?_
  refine r_extract rfl rfl ?_
  refine asS rfl ?_
  refine asI rfl ?_
  refine r_nil ?_
  refine i_then ?_
  refine t_seq ?_
  refine t_region ?_
  refine r_load_ptrN rfl rfl (by decide) rfl rfl (by exact Nat.le_of_ble_eq_true rfl) ?_
  refine mvS rfl ?_
  refine r_call (c_SacksOk hs (by omega) hB.done) rfl rfl rfl rfl rfl ?_
  refine mvT rfl ?_
  refine r_extract rfl rfl ?_
  refine r_extract rfl rfl ?_
  refine asI rfl ?_
  refine asI rfl ?_
  refine r_nil ?_
  refine i_then ?_
  refine t_seq ?_
  refine t_region ?_
  refine r_load_ptrN rfl rfl (by decide) rfl rfl (by exact Nat.le_of_ble_eq_true rfl) ?_
  refine mvS rfl ?_
  refine r_call (c_SacksOk hsa (by omega) hB.home) rfl rfl rfl rfl rfl ?_
  refine mvT rfl ?_
  refine r_extract rfl rfl ?_
  refine r_extract rfl rfl ?_
  refine asI rfl ?_
  refine asI rfl ?_
  refine r_nil ?_
  refine i_then ?_
  refine t_seq ?_
  refine t_seq ?_
  refine t_forget (B := live [(5, Ty.ptr 6 0), (7, Ty.sl TurE (walkP b (skFill t) 8)), (8, Ty.ptr 9 0), (9, Ty.int .i64 0), (11, Ty.int .i64 0), (12, Ty.ptr 13 0), (13, Ty.int .i64 0), (14, Ty.sl TurE (walkP b (skFill t) 8)), (15, Ty.int .i64 0), (16, Ty.int .i64 (costL (sackC b) (walkP b (skFill t) 8))), (17, Ty.int .i64 0), (18, Ty.int .i64 (costL (sackC a) back)), (19, Ty.int .i64 0)] [(6, Cont.cells 25 (barnTys b)), (9, Cont.cells 25 (barnTys a)), (13, Cont.cells 25 (barnTys b))]) ?_ ?_
  · (refine Ent.mk' ?_ ?_ <;> (repeat' (first | exact allSub_zero | exact allTags_nil | refine allSub_succ' ?_ (Ty.sub_any _) | refine allSub_succ' ?_ (Ty.sub_refl _) | refine allTags_cons rfl (Cont.sub_refl _) ?_)))
  refine t_region ?_
  refine mvI rfl ?_
  refine r_bin rfl rfl rfl ?_
  refine mvB rfl ?_
  apply r_guard (s := 78) rfl rfl rfl
  · intro hg; apply opT_of; (refine mvI rfl ?_); refine r_nil ?_; exact rfl
  · exact rfl
  · exact rfl
  apply r_guard (s := 78) rfl rfl rfl
  · intro hg; apply opT_strip (s := 79) rfl (by (rw [hg]; rfl)); apply opT_of; (refine r_bin rfl rfl rfl ?_); refine r_nil ?_; exact rfl
  · exact rfl
  · exact rfl
  refine r_or rfl rfl ?_
  refine mvB rfl ?_
  apply r_guard (s := 82) rfl rfl rfl
  · intro hg; apply opT_of; (refine mvI rfl ?_); refine r_nil ?_; exact rfl
  · exact rfl
  · exact rfl
  apply r_guard (s := 82) rfl rfl rfl
  · intro hg; apply opT_strip (s := 83) rfl (by (rw [hg]; rfl)); apply opT_of; (refine r_bin rfl rfl rfl ?_); refine r_nil ?_; exact rfl
  · exact rfl
  · exact rfl
  refine r_or rfl rfl ?_
  refine mvB rfl ?_
  apply r_guard (s := 86) rfl rfl rfl
  · intro hg; apply opT_of; (refine mvI rfl ?_); refine r_nil ?_; exact rfl
  · exact rfl
  · exact rfl
  apply r_guard (s := 86) rfl rfl rfl
  · intro hg; apply opT_strip (s := 87) rfl (by (rw [hg]; rfl)); apply opT_of; (refine r_bin rfl rfl rfl ?_); refine r_nil ?_; exact rfl
  · exact rfl
  · exact rfl
  refine r_or rfl rfl ?_
  refine mvB rfl ?_
  apply r_guard (s := 90) rfl rfl rfl
  · intro hg; apply opT_of; (refine mvI rfl ?_); refine r_nil ?_; exact rfl
  · exact rfl
  · exact rfl
  apply r_guard (s := 90) rfl rfl rfl
  · intro hg; apply opT_strip (s := 91) rfl (by (rw [hg]; rfl)); apply opT_of; (refine r_bin rfl rfl rfl ?_); refine r_nil ?_; exact rfl
  · exact rfl
  · exact rfl
  refine r_or rfl rfl ?_
  refine mvB rfl ?_
  apply r_guard (s := 94) rfl rfl rfl
  · intro hg; apply opT_of; (refine mvI rfl ?_); refine r_nil ?_; exact rfl
  · exact rfl
  · exact rfl
  apply r_guard (s := 94) rfl rfl rfl
  · intro hg; apply opT_strip (s := 95) rfl (by (rw [hg]; rfl)); apply opT_of; (refine r_bin rfl rfl rfl ?_); refine r_nil ?_; exact rfl
  · exact rfl
  · exact rfl
  refine r_or rfl rfl ?_
  refine mvB rfl ?_
  apply r_guard (s := 98) rfl rfl rfl
  · intro hg; apply opT_of; (refine r_load_ptrN rfl rfl (by decide) rfl rfl (by exact Nat.le_of_ble_eq_true rfl) ?_); refine r_nil ?_; exact rfl
  · exact rfl
  · exact rfl
  apply r_guard (s := 98) rfl rfl rfl
  · intro hg; apply opT_of; (refine r_load_ptrN rfl rfl (by decide) rfl rfl (by exact Nat.le_of_ble_eq_true rfl) ?_); refine r_nil ?_; exact rfl
  · exact rfl
  · exact rfl
  apply r_guard (s := 98) rfl rfl rfl
  · intro hg; apply opT_strip (s := 99) rfl (by (rw [hg]; rfl)); apply opT_strip (s := 100) rfl (by (rw [hg]; rfl)); apply opT_of; (refine r_call (c_same b b) rfl rfl rfl rfl rfl ?_); refine r_nil ?_; exact rfl
  · exact rfl
  · exact rfl
  apply r_guard (s := 98) rfl rfl rfl
  · intro hg; apply opT_strip (s := 101) rfl (by (rw [hg]; rfl)); apply opT_of; (refine r_not rfl ?_); refine r_nil ?_; exact rfl
  · exact rfl
  · exact rfl
  refine r_or rfl rfl ?_
  refine mvB rfl ?_
  apply r_guard (s := 104) rfl rfl rfl
  · intro hg; apply opT_of; (refine mvS rfl ?_); refine r_nil ?_; exact rfl
  · exact rfl
  · exact rfl
  apply r_guard (s := 104) rfl rfl rfl
  · intro hg; apply opT_of; (refine mvS rfl ?_); refine r_nil ?_; exact rfl
  · exact rfl
  · exact rfl
  apply r_guard (s := 104) rfl rfl rfl
  · intro hg; apply opT_strip (s := 105) rfl (by (rw [hg]; rfl)); apply opT_strip (s := 106) rfl (by (rw [hg]; rfl)); apply opT_of; (refine r_call (c_Eq_tur (walkP b (skFill t) 8) (walkP b (skFill t) 8)) rfl rfl rfl rfl rfl ?_); refine r_nil ?_; exact rfl
  · exact rfl
  · exact rfl
  apply r_guard (s := 104) rfl rfl rfl
  · intro hg; apply opT_strip (s := 107) rfl (by (rw [hg]; rfl)); apply opT_of; (refine r_not rfl ?_); refine r_nil ?_; exact rfl
  · exact rfl
  · exact rfl
  refine r_or rfl rfl ?_
  refine mvB rfl ?_
  apply r_guard (s := 110) rfl rfl rfl
  · intro hg; apply opT_of; (refine mvI rfl ?_); refine r_nil ?_; exact rfl
  · exact rfl
  · exact rfl
  apply r_guard (s := 110) rfl rfl rfl
  · intro hg; apply opT_of; (refine mvI rfl ?_); refine r_nil ?_; exact rfl
  · exact rfl
  · exact rfl
  apply r_guard (s := 110) rfl rfl rfl
  · intro hg; apply opT_strip (s := 111) rfl (by (rw [hg]; rfl)); apply opT_strip (s := 112) rfl (by (rw [hg]; rfl)); apply opT_of; (refine r_bin rfl rfl rfl ?_); refine r_nil ?_; exact rfl
  · exact rfl
  · exact rfl
  refine r_or rfl rfl ?_
  refine r_nil ?_
  refine i_then ?_
  refine t_cond_ff rfl (lbk1 hB) ?_
  refine t_skip ?_
  refine i_then ?_
  refine t_seq ?_
  refine t_region ?_
  refine asI rfl ?_
  refine r_nil ?_
  refine i_then ?_
  refine t_seq ?_
  refine t_seq ?_
  refine t_region ?_
  refine mvS rfl ?_
  refine r_len rfl rfl rfl ?_
  refine mvI rfl ?_
  refine r_nil ?_
  refine i_then ?_
  refine t_block ?_
  refine t_loop (fun (k : {k : Nat // k ≤ (walkP b (skFill t) 8).length}) => live [(5, Ty.ptr 6 0), (7, Ty.sl TurE (walkP b (skFill t) 8)), (8, Ty.ptr 9 0), (16, Ty.int .i64 (costL (sackC b) (walkP b (skFill t) 8))), (20, Ty.int .i64 (sumUp b (walkP b (skFill t) 8) k.1)), (115, Ty.sl TurE (walkP b (skFill t) 8)), (116, Ty.int .i64 (walkP b (skFill t) 8).length), (117, Ty.int .i64 (k.1 : Nat))] [(6, Cont.cells 25 (barnTys b)), (9, Cont.cells 25 (barnTys a))]) (fun k => (walkP b (skFill t) 8).length - k.1) (⟨0, by omega⟩) ?_ fun k => ?_
  · (refine Ent.mk' ?_ ?_ <;> (repeat' (first | exact allSub_zero | exact allTags_nil | refine allSub_succ' ?_ (Ty.sub_any _) | refine allSub_succ' ?_ (Ty.sub_refl _) | refine allTags_cons rfl (Cont.sub_refl _) ?_ | refine allSub_succ' ?_ ?_)))
    all_goals exact Ty.sub_int (sumUp_zero b _).symm
  ·
    have hk := k.2
    have hsu := sumUp_in hr hwo.ok k.1 hk
    refine t_seq ?_
    refine t_region ?_
    refine r_bin rfl rfl rfl ?_
    refine r_nil ?_
    refine i_then ?_
    refine t_seq ?_
    refine t_cond_dec rfl (fun hc2 => ?_) (fun hc2 => ?_)
    ·
      refine t_skip ?_
      refine i_then ?_
      refine t_seq ?_
      refine t_block ?_
      refine t_seq ?_
      refine t_region ?_
      refine r_index_slN rfl rfl rfl rfl rfl rfl (by omega) ?_
      refine r_load_ppN rfl rfl rfl (by exact Nat.le_of_ble_eq_true rfl) ?_
      refine r_alloc rfl (by exact List.cons_ne_nil _ _) rfl ?_
      refine r_storeN rfl rfl (by decide) rfl rfl rfl rfl rfl rfl ?_
      refine r_nil ?_
      refine i_then ?_
      have hlo := hPi k.1 (by omega)
      have hsb := sack_bound hr hlo
      refine t_region ?_
      refine mvI rfl ?_
      refine r_field_ptr rfl rfl rfl rfl rfl (by decide) ?_
      refine r_load_ptr rfl rfl (by decide) rfl rfl rfl ?_
      refine r_field_ptr rfl rfl rfl rfl rfl (by decide) ?_
      refine r_load_ptr rfl rfl (by decide) rfl rfl rfl ?_
      refine r_index_sl rfl rfl rfl rfl rfl rfl hlo.1 (by omega) ?_
      refine r_field_pp rfl rfl rfl rfl rfl (by decide) ?_
      refine r_load_pp rfl rfl rfl rfl ?_
      refine r_add rfl rfl (by omega) (by omega) ?_
      refine asI rfl ?_
      refine r_nil ?_
      refine i_block ?_
      refine i_then ?_
      refine t_region ?_
      refine r_add rfl rfl (by omega) (by omega) ?_
      refine mvI rfl ?_
      refine r_nil ?_
      refine i_round (⟨k.1 + 1, by omega⟩) ?_ (by show (walkP b (skFill t) 8).length - (k.1 + 1) < (walkP b (skFill t) 8).length - k.1; omega)
      (refine Ent.mk' ?_ ?_ <;> (repeat' (first | exact allSub_zero | exact allTags_nil | refine allSub_succ' ?_ (Ty.sub_any _) | refine allSub_succ' ?_ (Ty.sub_refl _) | refine allTags_cons rfl (Cont.sub_refl _) ?_ | refine allSub_succ' ?_ ?_)))
      all_goals skip
      all_goals exact Ty.sub_int (sumUp_succ (by omega)).symm
    ·
      refine t_exit ?_
      refine i_then_exit ?_
      refine i_then_exit ?_
      refine i_block_exit rfl ?_
      refine i_then ?_
      refine t_seq ?_
      refine t_as (s := 20) rfl (Ty.sub_int (show sumUp b (walkP b (skFill t) 8) k.1 = costL (sackC b) (walkP b (skFill t) 8) by rw [← sumUp_all, show k.1 = (walkP b (skFill t) 8).length by have := k.2; omega])) ?_
      refine t_region ?_
      refine r_load_ptrN rfl rfl (by decide) rfl rfl (by exact Nat.le_of_ble_eq_true rfl) ?_
      refine mvS rfl ?_
      refine r_call (c_ldoneOk hs (by omega) hB.at_) rfl rfl rfl rfl rfl ?_
      refine mvT rfl ?_
      refine r_extract rfl rfl ?_
      refine r_extract rfl rfl ?_
      refine asS rfl ?_
      refine asB rfl ?_
      refine r_nil ?_
      refine i_then ?_
      refine t_seq ?_
      refine t_seq ?_
      refine t_region ?_
      refine mvB rfl ?_
      refine r_not rfl ?_
      refine mvB rfl ?_
      apply r_guard (s := 139) rfl rfl rfl
      · intro hg; apply opT_of; (refine mvI rfl ?_); refine r_nil ?_; exact rfl
      · exact rfl
      · exact rfl
      apply r_guard (s := 139) rfl rfl rfl
      · intro hg; apply opT_of; (refine mvI rfl ?_); refine r_nil ?_; exact rfl
      · exact rfl
      · exact rfl
      apply r_guard (s := 139) rfl rfl rfl
      · intro hg; apply opT_strip (s := 140) rfl (by (rw [hg]; rfl)); apply opT_strip (s := 141) rfl (by (rw [hg]; rfl)); apply opT_of; (refine r_bin rfl rfl rfl ?_); refine r_nil ?_; exact rfl
      · exact rfl
      · exact rfl
      refine r_or rfl rfl ?_
      refine mvB rfl ?_
      apply r_guard (s := 144) rfl rfl rfl
      · intro hg; apply opT_of; (refine r_field_ptr rfl rfl rfl rfl rfl (by decide) ?_); refine r_nil ?_; exact rfl
      · exact rfl
      · exact rfl
      apply r_guard (s := 144) rfl rfl rfl
      · intro hg; apply opT_strip (s := 145) rfl (by (rw [hg]; rfl)); apply opT_of; (refine r_load_ptr rfl rfl (by decide) rfl rfl rfl ?_); refine r_nil ?_; exact rfl
      · exact rfl
      · exact rfl
      apply r_guard (s := 144) rfl rfl rfl
      · intro hg; apply opT_strip (s := 146) rfl (by (rw [hg]; rfl)); apply opT_of; (refine r_len rfl rfl rfl ?_); refine r_nil ?_; exact rfl
      · exact rfl
      · exact rfl
      apply r_guard (s := 144) rfl rfl rfl
      · intro hg; apply opT_of; (refine mvS rfl ?_); refine r_nil ?_; exact rfl
      · exact rfl
      · exact rfl
      apply r_guard (s := 144) rfl rfl rfl
      · intro hg; apply opT_strip (s := 148) rfl (by (rw [hg]; rfl)); apply opT_of; (refine r_len rfl rfl rfl ?_); refine r_nil ?_; exact rfl
      · exact rfl
      · exact rfl
      apply r_guard (s := 144) rfl rfl rfl
      · intro hg; apply opT_strip (s := 147) rfl (by (rw [hg]; rfl)); apply opT_strip (s := 149) rfl (by (rw [hg]; rfl)); apply opT_of; (refine r_bin rfl rfl rfl ?_); refine r_nil ?_; exact rfl
      · exact rfl
      · exact rfl
      refine r_or rfl rfl ?_
      refine r_nil ?_
      refine i_then ?_
      refine t_cond_ff rfl (lbk3 hB) ?_
      refine t_skip ?_
      refine i_then ?_
      refine t_seq ?_
      refine t_seq ?_
      refine t_region ?_
      refine mvS rfl ?_
      refine r_len rfl rfl rfl ?_
      refine mvI rfl ?_
      refine r_nil ?_
      refine i_then ?_
      refine t_block ?_
      refine t_loop (fun (j : {j : Nat // j ≤ p.length}) => live [(5, Ty.ptr 6 0), (7, Ty.sl TurE (walkP b (skFill t) 8)), (8, Ty.ptr 9 0), (152, Ty.sl I64 p), (153, Ty.int .i64 p.length), (154, Ty.int .i64 (j.1 : Nat))] [(6, Cont.cells 25 (barnTys b)), (9, Cont.cells 25 (barnTys a))]) (fun j => p.length - j.1) (⟨0, by omega⟩) ?_ fun j => ?_
      · (refine Ent.mk' ?_ ?_ <;> (repeat' (first | exact allSub_zero | exact allTags_nil | refine allSub_succ' ?_ (Ty.sub_any _) | refine allSub_succ' ?_ (Ty.sub_refl _) | refine allTags_cons rfl (Cont.sub_refl _) ?_)))
      ·
        have hj := j.2
        refine t_seq ?_
        refine t_region ?_
        refine r_bin rfl rfl rfl ?_
        refine r_nil ?_
        refine i_then ?_
        refine t_seq ?_
        refine t_cond_dec rfl (fun hc4 => ?_) (fun hc4 => ?_)
        ·
          refine t_skip ?_
          refine i_then ?_
          refine t_seq ?_
          refine t_block ?_
          refine t_seq ?_
          refine t_region ?_
          refine mvI rfl ?_
          refine r_index_slN rfl rfl rfl rfl rfl rfl (by omega) ?_
          refine r_load_pp rfl rfl rfl rfl ?_
          refine asI rfl ?_
          refine asI rfl ?_
          refine r_nil ?_
          refine i_then ?_
          refine t_seq ?_
          refine t_draw mixed rfl ?_
          refine r_field_ptr rfl rfl rfl rfl rfl (by decide) ?_
          refine r_load_ptr rfl rfl (by decide) rfl rfl rfl ?_
          refine mvI rfl ?_
          refine r_index_slN rfl rfl rfl rfl rfl rfl (by omega) ?_
          refine r_field_pp rfl rfl rfl rfl rfl (by decide) ?_
          refine r_load_pp rfl rfl rfl rfl ?_
          refine mvI rfl ?_
          refine r_bin rfl rfl rfl ?_
          refine mvB rfl ?_
          apply r_guard (s := 167) rfl rfl rfl
          · intro hg; apply opT_of; (refine r_field_ptr rfl rfl rfl rfl rfl (by decide) ?_); refine r_nil ?_; exact rfl
          · exact rfl
          · exact rfl
          apply r_guard (s := 167) rfl rfl rfl
          · intro hg; apply opT_strip (s := 168) rfl (by (rw [hg]; rfl)); apply opT_of; (refine r_load_ptr rfl rfl (by decide) rfl rfl rfl ?_); refine r_nil ?_; exact rfl
          · exact rfl
          · exact rfl
          apply r_guard (s := 167) rfl rfl rfl
          · intro hg; apply opT_of; (refine mvI rfl ?_); refine r_nil ?_; exact rfl
          · exact rfl
          · exact rfl
          apply r_guard (s := 167) rfl rfl rfl
          · intro hg; apply opT_strip (s := 169) rfl (by (rw [hg]; rfl)); apply opT_strip (s := 170) rfl (by (rw [hg]; rfl)); apply opT_of; (refine r_index_slN rfl rfl rfl rfl rfl rfl (by omega) ?_); refine r_nil ?_; exact rfl
          · exact rfl
          · exact rfl
          apply r_guard (s := 167) rfl rfl rfl
          · intro hg; apply opT_strip (s := 171) rfl (by (rw [hg]; rfl)); apply opT_of; (refine r_field_pp rfl rfl rfl rfl rfl (by decide) ?_); refine r_nil ?_; exact rfl
          · exact rfl
          · exact rfl
          apply r_guard (s := 167) rfl rfl rfl
          · intro hg; apply opT_strip (s := 172) rfl (by (rw [hg]; rfl)); apply opT_of; (refine r_load_pp rfl rfl rfl rfl ?_); refine r_nil ?_; exact rfl
          · exact rfl
          · exact rfl
          apply r_guard (s := 167) rfl rfl rfl
          · intro hg; apply opT_of; (refine r_field_ptr rfl rfl rfl rfl rfl (by decide) ?_); refine r_nil ?_; exact rfl
          · exact rfl
          · exact rfl
          apply r_guard (s := 167) rfl rfl rfl
          · intro hg; apply opT_strip (s := 174) rfl (by (rw [hg]; rfl)); apply opT_of; (refine r_load_ptr rfl rfl (by decide) rfl rfl rfl ?_); refine r_nil ?_; exact rfl
          · exact rfl
          · exact rfl
          apply r_guard (s := 167) rfl rfl rfl
          · intro hg; apply opT_of; (refine mvI rfl ?_); refine r_nil ?_; exact rfl
          · exact rfl
          · exact rfl
          apply r_guard (s := 167) rfl rfl rfl
          · intro hg; apply opT_strip (s := 175) rfl (by (rw [hg]; rfl)); apply opT_strip (s := 176) rfl (by (rw [hg]; rfl)); apply opT_of; (refine r_index_slN rfl rfl rfl rfl rfl rfl (by omega) ?_); refine r_nil ?_; exact rfl
          · exact rfl
          · exact rfl
          apply r_guard (s := 167) rfl rfl rfl
          · intro hg; apply opT_strip (s := 177) rfl (by (rw [hg]; rfl)); apply opT_of; (refine r_field_pp rfl rfl rfl rfl rfl (by decide) ?_); refine r_nil ?_; exact rfl
          · exact rfl
          · exact rfl
          apply r_guard (s := 167) rfl rfl rfl
          · intro hg; apply opT_strip (s := 178) rfl (by (rw [hg]; rfl)); apply opT_of; (refine r_load_pp rfl rfl rfl rfl ?_); refine r_nil ?_; exact rfl
          · exact rfl
          · exact rfl
          apply r_guard (s := 167) rfl rfl rfl
          · intro hg; apply opT_strip (s := 173) rfl (by (rw [hg]; rfl)); apply opT_strip (s := 179) rfl (by (rw [hg]; rfl)); apply opT_of; (refine r_bin rfl rfl rfl ?_); refine r_nil ?_; exact rfl
          · exact rfl
          · exact rfl
          refine r_or rfl rfl ?_
          refine mvB rfl ?_
          apply r_guard (s := 182) rfl rfl rfl
          · intro hg; apply opT_of; (refine r_field_ptr rfl rfl rfl rfl rfl (by decide) ?_); refine r_nil ?_; exact rfl
          · exact rfl
          · exact rfl
          apply r_guard (s := 182) rfl rfl rfl
          · intro hg; apply opT_strip (s := 183) rfl (by (rw [hg]; rfl)); apply opT_of; (refine r_load_ptr rfl rfl (by decide) rfl rfl rfl ?_); refine r_nil ?_; exact rfl
          · exact rfl
          · exact rfl
          apply r_guard (s := 182) rfl rfl rfl
          · intro hg; apply opT_of; (refine mvI rfl ?_); refine r_nil ?_; exact rfl
          · exact rfl
          · exact rfl
          apply r_guard (s := 182) rfl rfl rfl
          · intro hg; apply opT_strip (s := 184) rfl (by (rw [hg]; rfl)); apply opT_strip (s := 185) rfl (by (rw [hg]; rfl)); apply opT_of; (refine r_index_slN rfl rfl rfl rfl rfl rfl (by omega) ?_); refine r_nil ?_; exact rfl
          · exact rfl
          · exact rfl
          apply r_guard (s := 182) rfl rfl rfl
          · intro hg; apply opT_strip (s := 186) rfl (by (rw [hg]; rfl)); apply opT_of; (refine r_field_pp rfl rfl rfl rfl rfl (by decide) ?_); refine r_nil ?_; exact rfl
          · exact rfl
          · exact rfl
          apply r_guard (s := 182) rfl rfl rfl
          · intro hg; apply opT_strip (s := 187) rfl (by (rw [hg]; rfl)); apply opT_of; (refine r_load_pp rfl rfl rfl rfl ?_); refine r_nil ?_; exact rfl
          · exact rfl
          · exact rfl
          apply r_guard (s := 182) rfl rfl rfl
          · intro hg; apply opT_of; (refine r_field_ptr rfl rfl rfl rfl rfl (by decide) ?_); refine r_nil ?_; exact rfl
          · exact rfl
          · exact rfl
          apply r_guard (s := 182) rfl rfl rfl
          · intro hg; apply opT_strip (s := 189) rfl (by (rw [hg]; rfl)); apply opT_of; (refine r_load_ptr rfl rfl (by decide) rfl rfl rfl ?_); refine r_nil ?_; exact rfl
          · exact rfl
          · exact rfl
          apply r_guard (s := 182) rfl rfl rfl
          · intro hg; apply opT_of; (refine mvI rfl ?_); refine r_nil ?_; exact rfl
          · exact rfl
          · exact rfl
          apply r_guard (s := 182) rfl rfl rfl
          · intro hg; apply opT_strip (s := 190) rfl (by (rw [hg]; rfl)); apply opT_strip (s := 191) rfl (by (rw [hg]; rfl)); apply opT_of; (refine r_index_slN rfl rfl rfl rfl rfl rfl (by omega) ?_); refine r_nil ?_; exact rfl
          · exact rfl
          · exact rfl
          apply r_guard (s := 182) rfl rfl rfl
          · intro hg; apply opT_strip (s := 192) rfl (by (rw [hg]; rfl)); apply opT_of; (refine r_field_pp rfl rfl rfl rfl rfl (by decide) ?_); refine r_nil ?_; exact rfl
          · exact rfl
          · exact rfl
          apply r_guard (s := 182) rfl rfl rfl
          · intro hg; apply opT_strip (s := 193) rfl (by (rw [hg]; rfl)); apply opT_of; (refine r_load_pp rfl rfl rfl rfl ?_); refine r_nil ?_; exact rfl
          · exact rfl
          · exact rfl
          apply r_guard (s := 182) rfl rfl rfl
          · intro hg; apply opT_strip (s := 188) rfl (by (rw [hg]; rfl)); apply opT_strip (s := 194) rfl (by (rw [hg]; rfl)); apply opT_of; (refine r_bin rfl rfl rfl ?_); refine r_nil ?_; exact rfl
          · exact rfl
          · exact rfl
          refine r_or rfl rfl ?_
          refine r_nil ?_
          refine ⟨by kernel_rfl, ?_⟩
          refine i_then ?_
          refine t_cond_ff rfl (lbk5 hB (by omega)) ?_
          refine t_skip ?_
          refine i_block ?_
          refine i_then ?_
          refine t_region ?_
          refine r_add rfl rfl (by omega) (by omega) ?_
          refine mvI rfl ?_
          refine r_nil ?_
          refine i_round (⟨j.1 + 1, by omega⟩) ?_ (by show p.length - (j.1 + 1) < p.length - j.1; omega)
          (refine Ent.mk' ?_ ?_ <;> (repeat' (first | exact allSub_zero | exact allTags_nil | refine allSub_succ' ?_ (Ty.sub_any _) | refine allSub_succ' ?_ (Ty.sub_refl _) | refine allTags_cons rfl (Cont.sub_refl _) ?_)))
          all_goals skip
        ·
          refine t_exit ?_
          refine i_then_exit ?_
          refine i_then_exit ?_
          refine i_block_exit rfl ?_
          refine i_then ?_
          refine t_seq ?_
          refine t_region ?_
          refine r_load_ptrN rfl rfl (by decide) rfl rfl (by exact Nat.le_of_ble_eq_true rfl) ?_
          refine r_call (c_Places b hs) rfl rfl rfl rfl rfl ?_
          refine mvT rfl ?_
          refine r_extract rfl rfl ?_
          refine r_extract rfl rfl ?_
          refine asI rfl ?_
          refine asI rfl ?_
          refine r_nil ?_
          refine i_then ?_
          refine t_seq ?_
          refine t_region ?_
          refine r_load_ptrN rfl rfl (by decide) rfl rfl (by exact Nat.le_of_ble_eq_true rfl) ?_
          refine r_call (c_Places a hsa) rfl rfl rfl rfl rfl ?_
          refine mvT rfl ?_
          refine r_extract rfl rfl ?_
          refine r_extract rfl rfl ?_
          refine asI rfl ?_
          refine asI rfl ?_
          refine r_nil ?_
          refine i_then ?_
          refine t_seq ?_
          refine t_region ?_
          refine r_load_ptrN rfl rfl (by decide) rfl rfl (by exact Nat.le_of_ble_eq_true rfl) ?_
          refine r_call (c_Fewest b hs) rfl rfl rfl rfl rfl ?_
          refine mvT rfl ?_
          refine r_extract rfl rfl ?_
          refine r_extract rfl rfl ?_
          refine asI rfl ?_
          refine asI rfl ?_
          refine r_nil ?_
          refine i_then ?_
          refine t_seq ?_
          refine t_region ?_
          refine r_load_ptrN rfl rfl (by decide) rfl rfl (by exact Nat.le_of_ble_eq_true rfl) ?_
          refine r_call (c_Fewest a hsa) rfl rfl rfl rfl rfl ?_
          refine mvT rfl ?_
          refine r_extract rfl rfl ?_
          refine r_extract rfl rfl ?_
          refine asI rfl ?_
          refine asI rfl ?_
          refine r_nil ?_
          refine i_then ?_
          refine t_seq ?_
          refine t_region ?_
          refine r_load_ptrN rfl rfl (by decide) rfl rfl (by exact Nat.le_of_ble_eq_true rfl) ?_
          refine mvS rfl ?_
          refine r_call (c_MakesOk hs (by omega) hB.done) rfl rfl rfl rfl rfl ?_
          refine mvT rfl ?_
          refine r_extract rfl rfl ?_
          refine r_extract rfl rfl ?_
          refine asB rfl ?_
          refine asI rfl ?_
          refine r_nil ?_
          refine i_then ?_
          refine t_seq ?_
          refine t_seq ?_
          refine t_forget (B := live [(5, Ty.ptr 6 0), (7, Ty.sl TurE (walkP b (skFill t) 8)), (9, Ty.int .i64 (checkB b)), (11, Ty.int .i64 (checkB a)), (13, Ty.int .i64 (planE b oneC)), (15, Ty.int .i64 (planE a oneC)), (17, Ty.int .i64 0), (27, Ty.int .i64 (placesV b)), (28, Ty.int .i64 (placesV a)), (29, Ty.int .i64 (costR b oneC)), (30, Ty.int .i64 (costR a oneC)), (31, Ty.bool (makesB b (walkP b (skFill t) 8)))] [(6, Cont.cells 25 (barnTys b))]) ?_ ?_
          · (refine Ent.mk' ?_ ?_ <;> (repeat' (first | exact allSub_zero | exact allTags_nil | refine allSub_succ' ?_ (Ty.sub_any _) | refine allSub_succ' ?_ (Ty.sub_refl _) | refine allTags_cons rfl (Cont.sub_refl _) ?_)))
          refine t_region ?_
          refine mvI rfl ?_
          refine r_bin rfl rfl rfl ?_
          refine mvB rfl ?_
          apply r_guard (s := 226) rfl rfl rfl
          · intro hg; apply opT_of; (refine mvI rfl ?_); refine r_nil ?_; exact rfl
          · exact rfl
          · exact rfl
          apply r_guard (s := 226) rfl rfl rfl
          · intro hg; apply opT_strip (s := 227) rfl (by (rw [hg]; rfl)); apply opT_of; (refine r_bin rfl rfl rfl ?_); refine r_nil ?_; exact rfl
          · exact rfl
          · exact rfl
          refine r_or rfl rfl ?_
          refine mvB rfl ?_
          apply r_guard (s := 230) rfl rfl rfl
          · intro hg; apply opT_of; (refine mvI rfl ?_); refine r_nil ?_; exact rfl
          · exact rfl
          · exact rfl
          apply r_guard (s := 230) rfl rfl rfl
          · intro hg; apply opT_of; (refine mvI rfl ?_); refine r_nil ?_; exact rfl
          · exact rfl
          · exact rfl
          apply r_guard (s := 230) rfl rfl rfl
          · intro hg; apply opT_strip (s := 231) rfl (by (rw [hg]; rfl)); apply opT_strip (s := 232) rfl (by (rw [hg]; rfl)); apply opT_of; (refine r_bin rfl rfl rfl ?_); refine r_nil ?_; exact rfl
          · exact rfl
          · exact rfl
          refine r_or rfl rfl ?_
          refine mvB rfl ?_
          apply r_guard (s := 235) rfl rfl rfl
          · intro hg; apply opT_of; (refine mvI rfl ?_); refine r_nil ?_; exact rfl
          · exact rfl
          · exact rfl
          apply r_guard (s := 235) rfl rfl rfl
          · intro hg; apply opT_strip (s := 236) rfl (by (rw [hg]; rfl)); apply opT_of; (refine r_bin rfl rfl rfl ?_); refine r_nil ?_; exact rfl
          · exact rfl
          · exact rfl
          refine r_or rfl rfl ?_
          refine mvB rfl ?_
          apply r_guard (s := 239) rfl rfl rfl
          · intro hg; apply opT_of; (refine mvI rfl ?_); refine r_nil ?_; exact rfl
          · exact rfl
          · exact rfl
          apply r_guard (s := 239) rfl rfl rfl
          · intro hg; apply opT_of; (refine mvI rfl ?_); refine r_nil ?_; exact rfl
          · exact rfl
          · exact rfl
          apply r_guard (s := 239) rfl rfl rfl
          · intro hg; apply opT_strip (s := 240) rfl (by (rw [hg]; rfl)); apply opT_strip (s := 241) rfl (by (rw [hg]; rfl)); apply opT_of; (refine r_bin rfl rfl rfl ?_); refine r_nil ?_; exact rfl
          · exact rfl
          · exact rfl
          refine r_or rfl rfl ?_
          refine mvB rfl ?_
          apply r_guard (s := 244) rfl rfl rfl
          · intro hg; apply opT_of; (refine mvI rfl ?_); refine r_nil ?_; exact rfl
          · exact rfl
          · exact rfl
          apply r_guard (s := 244) rfl rfl rfl
          · intro hg; apply opT_strip (s := 245) rfl (by (rw [hg]; rfl)); apply opT_of; (refine r_bin rfl rfl rfl ?_); refine r_nil ?_; exact rfl
          · exact rfl
          · exact rfl
          refine r_or rfl rfl ?_
          refine mvB rfl ?_
          apply r_guard (s := 248) rfl rfl rfl
          · intro hg; apply opT_of; (refine mvB rfl ?_); refine r_nil ?_; exact rfl
          · exact rfl
          · exact rfl
          apply r_guard (s := 248) rfl rfl rfl
          · intro hg; apply opT_of; (refine r_load_ptrN rfl rfl (by decide) rfl rfl (by exact Nat.le_of_ble_eq_true rfl) ?_); refine r_nil ?_; exact rfl
          · exact rfl
          · exact rfl
          apply r_guard (s := 248) rfl rfl rfl
          · intro hg; apply opT_of; (refine mvS rfl ?_); refine r_nil ?_; exact rfl
          · exact rfl
          · exact rfl
          apply r_guard (s := 248) rfl rfl rfl
          · intro hg; apply opT_strip (s := 250) rfl (by (rw [hg]; rfl)); apply opT_strip (s := 251) rfl (by (rw [hg]; rfl)); apply opT_of; (refine r_call (c_lright b hs h6 (walkP b (skFill t) 8) (by omega)) rfl rfl rfl rfl rfl ?_); refine r_nil ?_; exact rfl
          · exact rfl
          · exact rfl
          apply r_guard (s := 248) rfl rfl rfl
          · intro hg; apply opT_strip (s := 249) rfl (by (rw [hg]; rfl)); apply opT_strip (s := 252) rfl (by (rw [hg]; rfl)); apply opT_of; (refine r_neq_B und4 rfl rfl ?_); refine r_nil ?_; exact rfl
          · exact rfl
          · exact rfl
          refine r_or rfl rfl ?_
          refine r_nil ?_
          refine i_then ?_
          refine t_cond_ff rfl (lbk7 hB hr) ?_
          refine t_skip ?_
          refine i_then ?_
          refine t_seq ?_
          refine t_region ?_
          refine mvI rfl ?_
          refine r_bin rfl rfl rfl ?_
          refine mvB rfl ?_
          apply r_guard (s := 257) rfl rfl rfl
          · intro hg; apply opT_of; (refine mvI rfl ?_); refine r_nil ?_; exact rfl
          · exact rfl
          · exact rfl
          apply r_guard (s := 257) rfl rfl rfl
          · intro hg; apply opT_of; (refine mvI rfl ?_); refine r_nil ?_; exact rfl
          · exact rfl
          · exact rfl
          apply r_guard (s := 257) rfl rfl rfl
          · intro hg; apply opT_of; (refine mvS rfl ?_); refine r_nil ?_; exact rfl
          · exact rfl
          · exact rfl
          apply r_guard (s := 257) rfl rfl rfl
          · intro hg; apply opT_strip (s := 260) rfl (by (rw [hg]; rfl)); apply opT_of; (refine r_len rfl rfl rfl ?_); refine r_nil ?_; exact rfl
          · exact rfl
          · exact rfl
          apply r_guard (s := 257) rfl rfl rfl
          · intro hg; apply opT_strip (s := 259) rfl (by (rw [hg]; rfl)); apply opT_strip (s := 261) rfl (by (rw [hg]; rfl)); apply opT_of; (refine r_add rfl rfl (by omega) (by omega) ?_); refine r_nil ?_; exact rfl
          · exact rfl
          · exact rfl
          apply r_guard (s := 257) rfl rfl rfl
          · intro hg; apply opT_strip (s := 258) rfl (by (rw [hg]; rfl)); apply opT_strip (s := 262) rfl (by (rw [hg]; rfl)); apply opT_of; (refine r_bin rfl rfl rfl ?_); refine r_nil ?_; exact rfl
          · exact rfl
          · exact rfl
          apply r_guard (s := 257) rfl rfl rfl
          · intro hg; apply opT_strip (s := 263) rfl (by (rw [hg]; rfl)); apply opT_of; (refine mvB rfl ?_); refine r_nil ?_; exact rfl
          · exact rfl
          · exact rfl
          apply r_guardG (s := 264) rfl rfl rfl
          · intro hg1 hg2; apply opT_of; (refine mvI rfl ?_); refine r_nil ?_; exact rfl
          · exact rfl
          · exact rfl
          apply r_guardG (s := 264) rfl rfl rfl
          · intro hg1 hg2; apply opT_of; (refine mvI rfl ?_); refine r_nil ?_; exact rfl
          · exact rfl
          · exact rfl
          apply r_guardG (s := 264) rfl rfl rfl
          · intro hg1 hg2; apply opT_of; (refine mvS rfl ?_); refine r_nil ?_; exact rfl
          · exact rfl
          · exact rfl
          apply r_guardG (s := 264) rfl rfl rfl
          · intro hg1 hg2; apply opT_strip (s := 267) rfl (by (rw [hg1, hg2]; rfl)); apply opT_of; (refine r_len rfl rfl rfl ?_); refine r_nil ?_; exact rfl
          · exact rfl
          · exact rfl
          apply r_guardG (s := 264) rfl rfl rfl
          · intro hg1 hg2; apply opT_strip (s := 266) rfl (by (rw [hg1, hg2]; rfl)); apply opT_strip (s := 268) rfl (by (rw [hg1, hg2]; rfl)); apply opT_of; (refine r_add rfl rfl (by omega) (by omega) ?_); refine r_nil ?_; exact rfl
          · exact rfl
          · exact rfl
          apply r_guardG (s := 264) rfl rfl rfl
          · intro hg1 hg2; apply opT_strip (s := 265) rfl (by (rw [hg1, hg2]; rfl)); apply opT_strip (s := 269) rfl (by (rw [hg1, hg2]; rfl)); apply opT_of; (refine r_bin rfl rfl rfl ?_); refine r_nil ?_; exact rfl
          · exact rfl
          · exact rfl
          apply r_guard (s := 257) rfl rfl rfl
          · intro hg; apply opT_strip (s := 264) rfl (by (rw [hg]; rfl)); apply opT_stripG (s := 270) rfl (by (rw [hg]; rfl)); apply opT_of; (refine r_and rfl rfl ?_); refine r_nil ?_; exact rfl
          · exact rfl
          · exact rfl
          refine r_or rfl rfl ?_
          refine mvB rfl ?_
          apply r_guard (s := 273) rfl rfl rfl
          · intro hg; apply opT_of; (refine r_call (c_awake) rfl rfl rfl rfl rfl ?_); refine r_nil ?_; exact rfl
          · exact rfl
          · exact rfl
          refine r_and rfl rfl ?_
          refine asB rfl ?_
          refine r_nil ?_
          refine i_then ?_
          refine t_ret ?_
          refine i_rp1 rfl rfl ?_
          all_goals skip
          all_goals exact ret_eq rfl rfl (congrArg Ty.bool (lbk8 hB hr))
end Go.Proofs.Ytpnndljmhpepgaa

namespace Go.T
open Go Go.RowKit Go.ChangeShapes Go.WideShapes Go.ChangeAt
def pubs : Tags := fun _ => none
theorem wf_pubs (w : World) : Wf w pubs := ⟨fun _ _ h => (by cases h), fun _ _ _ _ h => (by cases h)⟩
theorem pubs_zero : ∀ b t, pubs b = some t → t = 0 := fun _ _ h => by cases h
structure Rd {α : Type} (P : Program) (e : TypeId) (E : El α) : Prop where
  size : P.cellsOf e = E.size
  pos : 0 < E.size
  rd : ∀ {H : Type} {enc : TypeId × Value → H} {w : World} {base : Nat} {held : Bool} {n : Nat} {cs : List Value} {y : DataW H × List MemPlace}, DataW.trod enc P w base (fun _ => true) held n e cs = some y → ∃ x, dens w pubs (E.tys x) cs
section
variable {H : Type} {enc : TypeId × Value → H} {P : Program} {w : World} {base : Nat} {held : Bool} {α : Type} {E : El α} {t e : TypeId} {n : Nat} {cs : List Value} {y : DataW H × List MemPlace}
theorem rd_sl (hR : Rd P e E) (ht : P.underlying t = some (.slice e)) (h : DataW.trod enc P w base (fun _ => true) held n t cs = some y) : ∃ v xs, cs = [v] ∧ (Ty.sl E xs).den w pubs v := by
  rcases Go.Deep.open_slice ht h with ⟨rfl, _⟩ | ⟨a, len, cap, m, k, D, Pl, rfl, _, hl, hm, hmm, _, hel⟩
  · exact ⟨_, [], rfl, none, 0, rfl, Nat.le_refl _, Nat.zero_le _, fun h => absurd h (Nat.lt_irrefl _)⟩
  have hlm : len ≤ m := by rw [hmm]; simpa using hl
  have hX : ∀ i : Fin len, ∃ x : α, ∃ cs', w.cells? base (a.add (i.1 * P.cellsOf e)) (P.cellsOf e) = some cs' ∧ dens w pubs (E.tys x) cs' := fun i => by
    obtain ⟨cs', h1, h2⟩ := hel i.1 (Nat.lt_of_lt_of_le i.2 hlm)
    obtain ⟨x, hx⟩ := hR.rd h2
    exact ⟨x, cs', h1, hx⟩
  let X : Fin len → α := fun i => (hX i).choose
  have hXs : ∀ i : Fin len, ∃ cs', w.cells? base (a.add (i.1 * P.cellsOf e)) (P.cellsOf e) = some cs' ∧ dens w pubs (E.tys (X i)) cs' := fun i => (hX i).choose_spec
  have hlen : (List.ofFn X).length = len := by simp
  refine ⟨_, List.ofFn X, rfl, some a, cap, by rw [hlen], by rw [hlen]; exact hl, hm, fun h0 => ?_⟩
  rw [hlen] at h0
  have hcell : ∀ (i : Fin len) (j : Nat) (u : Ty), (E.tys (X i))[j]? = some u → ∃ v, w.cell? (a.add (i.1 * E.size + j)) = some v ∧ u.den w pubs v := fun i j u hu => by
    obtain ⟨cs', h1, h2⟩ := hXs i
    obtain ⟨v, hv, hd⟩ := dens_get h2 j u hu
    obtain ⟨_, g1, g2⟩ := World.cells?_some h1
    have hj : j < P.cellsOf e := by
      rw [hR.size, ← E.len (X i)]
      exact (List.getElem?_eq_some_iff.1 hu).1
    refine ⟨v, ?_, hd⟩
    have := g2 j hj
    rw [Go.Deep.add_add, hv, hR.size] at this
    exact this
  have hsz := hR.pos
  have hfirst : ∃ v, w.cell? (a.add 0) = some v := by
    obtain ⟨u, hu⟩ : ∃ u, (E.tys (X ⟨0, h0⟩))[0]? = some u := ⟨_, List.getElem?_eq_getElem (by rw [E.len]; exact hsz)⟩
    obtain ⟨v, hv, _⟩ := hcell ⟨0, h0⟩ 0 u hu
    exact ⟨v, by simpa using hv⟩
  obtain ⟨b, off, sp⟩ := a
  obtain ⟨v0, hv0⟩ := hfirst
  have hsp : sp = none := by simpa [Addr.add] using World.cell?_spot hv0
  subst hsp
  have hb : b < w.heap.size := by
    obtain ⟨cs', h1, _⟩ := hXs ⟨0, h0⟩
    have := World.cells?_block h1 (by rw [hR.size]; exact hsz)
    simpa [Addr.add] using this
  refine ⟨b, off, rfl, rfl, hb, fun i u hu => ?_⟩
  have hi : i < len * E.size := by
    have := (List.getElem?_eq_some_iff.1 hu).1
    rw [flat_len, hlen] at this; exact this
  have hk : i / E.size < len := Nat.div_lt_of_lt_mul (by rw [Nat.mul_comm]; exact hi)
  have hj : i % E.size < E.size := Nat.mod_lt _ hsz
  have hij : i / E.size * E.size + i % E.size = i := by rw [Nat.mul_comm]; exact Nat.div_add_mod i E.size
  have hu2 := hu
  rw [← hij, flat_get E _ _ _ (by rw [hlen]; exact hk) hj, List.getElem?_ofFn, dif_pos hk] at hu2
  obtain ⟨v, hv, hd⟩ := hcell ⟨i / E.size, hk⟩ (i % E.size) u hu2
  refine ⟨v, ?_, hd⟩
  rw [← Go.WideShapes.add_plain]
  rw [hij] at hv
  exact hv
theorem rd_sl1 {c : Value} (hR : Rd P e E) (ht : P.underlying t = some (.slice e)) (h : DataW.trod enc P w base (fun _ => true) held n t [c] = some y) : ∃ xs, (Ty.sl E xs).den w pubs c := by
  obtain ⟨v, xs, e, hd⟩ := rd_sl hR ht h
  exact ⟨xs, by rw [show c = v by simpa using e]; exact hd⟩
end
section
variable {w w' : World} {S K : Nat → Prop} {M' : Tags}
theorem le_block (le : Le S K w pubs w' M') {b : Nat} (hb : b < w.heap.size) : w'.heap[b]? = w.heap[b]? := (le.pub b hb rfl).2
theorem le_same (le : Le S K w pubs w' M') {p : MemPlace} (hp : p.block < w.heap.size) : w.sameAt w' p := by
  cases p with
  | cell b o => exact World.cell?_of_block (w := w) (le_block le hp)
  | map b => exact le_block le hp
theorem le_kept (le : Le S K w pubs w' M') (may : MemPlace → Prop) : w.keptBut w' may := by
  refine ⟨le.os, le.out, fun i hi => ?_⟩
  have e := le_block le hi
  rw [e]
  split
  · rename_i h1 h2
    rw [h1] at h2
    simp only [Option.some.injEq, Obj.cells.injEq] at h2
    obtain ⟨rfl, rfl, rfl⟩ := h2
    exact ⟨rfl, rfl, rfl, fun _ _ => rfl⟩
  · rename_i h1 h2
    rw [h1] at h2
    simp only [Option.some.injEq, Obj.map.injEq] at h2
    exact Or.inr ⟨h2.1.symm, h2.2.symm⟩
  · rfl
theorem le_frozen (le : Le S K w pubs w' M') {a : Addr} (ha : a.block < w.heap.size) : w'.frozen? a = w.frozen? a := by
  unfold World.frozen?
  rw [le_block le ha]
end
section
variable {H : Type} {enc : TypeId × Value → H} {P : Program}
theorem trodAll_stays (hl : laidOutB P = true) {w w' : World} {sp : Nat → Bool} : ∀ {ts : List TypeId} {vs : List Value} {ds : List (DataW H)} {ps : List MemPlace}, (∀ t ∈ ts, P.readableRec t = true ∧ t < P.types.size) →
    DataW.TrodAll enc P w 0 (fun _ => true) true ts vs ds ps → (∀ p ∈ ps, w.sameAt w' p) → (∀ p ∈ ps, sp p.block = true) → DataW.TrodAll enc P w' 0 sp true ts vs ds ps
  | [], [], [], _, _, h, _, _ => h
  | t :: ts, v :: vs, d :: ds, _, ht, ⟨p, q, h1, h2, e⟩, hs, hsp => by
    subst e
    have h0 := ht t List.mem_cons_self
    exact ⟨p, q, Go.WideElems.Trod_stays hl h0.1 h0.2 h1 (fun x hx => hs x (List.mem_append_left _ hx)) (fun x hx => hsp x (List.mem_append_left _ hx)),
      trodAll_stays hl (fun t h => ht t (List.mem_cons_of_mem _ h)) h2 (fun x hx => hs x (List.mem_append_right _ hx)) (fun x hx => hsp x (List.mem_append_right _ hx)), rfl⟩
theorem post_true {f : Func} {s : ChangeSpec} {apart fresh handsOn again : Bool} {W W' : World} {args : Array Value} {ds : List (DataW H)} {before : List MemPlace} {S K : Nat → Prop} {M' : Tags}
    (hl : laidOutB P = true) (hv : s.vars = []) (hrd : ∀ t ∈ f.params.toList, P.readableRec t = true ∧ t < P.types.size) {tb : TypeId} (htb : P.underlying tb = some .bool) (hrt : f.resultTypes = #[tb])
    (hW : DataW.Whole enc P f.params.toList s.vars apart W args.toList ds [] before) (hres : (s.fn H (ds ++ [])).results = [.lit (.bool true)]) (hargs : (s.fn H (ds ++ [])).args = ds) (hvars : (s.fn H (ds ++ [])).vars = [])
    (le : Le S K W pubs W' M') : s.post enc P f apart fresh handsOn again W args (.bool true) W' := by
  have hW0 := hW
  obtain ⟨p, q, hA, hV, hb, hfz, hn⟩ := hW0
  have hlt := DataW.TrodAll.lt hA
  have hq : q = [] := by rw [hv] at hV; exact (trodVars_none hV).2
  subst hq
  have hbp : before = p := by rw [hb]; simp
  have hre : ∀ (b : Nat) (sp : Nat → Bool) (hd : Bool), DataW.TrodAll enc P W' b sp hd f.resultTypes.toList ((Value.bool true).resultList f.resultTypes.size) (s.fn H (ds ++ [])).results [] := fun b sp hd => by
    rw [hrt, hres]; exact trodAll_mk1 (shut_bool htb true)
  have har : ∀ sp : Nat → Bool, (∀ x ∈ p, sp x.block = true) → DataW.TrodAll enc P W' 0 sp true f.params.toList args.toList (s.fn H (ds ++ [])).args p := fun sp hsp => by
    rw [hargs]; exact trodAll_stays hl hrd hA (fun x hx => le_same le (hlt x hx)) hsp
  have hva : ∀ sp : Nat → Bool, DataW.TrodVars enc P W' sp s.vars (s.fn H (ds ++ [])).vars [] := fun sp => by
    rw [hvars, hv]; exact rfl
  have hok : ∀ (j : Nat) (t : TypeId) (r : Value), f.resultTypes[j]? = some t → ((Value.bool true).resultList f.resultTypes.size)[j]? = some r → Value.okWide P W' .any 0 t r := by
    exact ok_one (by rw [hrt]) rfl (okWide_bool_mk htb true)
  refine ⟨ds, [], before, [], p, [], hW, hre _ _ _, har _ (fun x hx => by simpa using hlt x hx), hva _, World.keptBut_mono (fun x hx => hx) (le_kept le _), fun _ => ?_⟩
  refine ⟨hok, _, _, ([] ++ p) ++ [], ⟨[] ++ p, [], trodAll_append (har _ (fun _ _ => rfl)) (hre _ _ _), hva _, rfl, ?_, ?_⟩, ?_⟩
  · intro b off hp
    have hp' : MemPlace.cell b off ∈ p := by simpa using hp
    rw [le_frozen le (hlt _ hp')]
    exact hfz b off (by rw [hbp]; exact hp')
  · intro ha
    have := hn ha
    rw [hbp] at this
    simpa using this
  · intro x hx _
    rw [hbp]
    simpa using hx
end
end Go.T

namespace Go.Proofs.Ytpnndljmhpepgaa
open Go Go.T Go.RowKit Go.ChangeShapes Go.WideShapes Go.ChangeAt
theorem rdU8 : Rd Try.prog 5 U8 := ⟨by kernel_rfl, by decide, fun h => by
  obtain ⟨i, rfl, _⟩ := DataW.trod_int Try.underlying5 h
  exact ⟨i, rfl, trivial⟩⟩
section
variable {H : Type} {enc : TypeId × Value → H} {W : World} {base : Nat} {held : Bool} {v : Value} {d : DataW H} {p : List MemPlace}
set_option maxRecDepth 100000 in
theorem rd_bytes (hv : Value.okWide Try.prog W .any base 83 v) (h : DataW.Trod enc Try.prog W 0 (fun _ => true) held 83 v d p) : ∃ l, (Ty.sl U8 l).den W pubs v := by
  obtain ⟨a, len, cap, rfl⟩ := okWide_slice Try.underlying83 hv
  obtain ⟨n, hn⟩ := h
  exact rd_sl1 rdU8 Try.underlying83 (by simpa [Value.cells] using hn)
end
end Go.Proofs.Ytpnndljmhpepgaa
