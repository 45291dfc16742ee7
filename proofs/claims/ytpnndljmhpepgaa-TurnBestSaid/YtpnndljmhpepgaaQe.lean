/- Lemmas: the program and the reference walked, plain laws. -/
import Derived.Test.YtpnndljmhpepgaaQd
namespace Go.Proofs.Ytpnndljmhpepgaa
open Go Go.T
def innL (b : Barn) : List Int := b.lots.map fun l => l.inn
def noT (b : Barn) (p : List Int) (t : Tur) : Bool := decide (t.lot < 0) || decide (t.lot ≥ p.length) || decide (t.aim < 0) || decide (t.aim ≥ b.sizes.length) || decide (t.aim ∈ p) || decide (nth b.sizes t.aim.toNat < (nth b.lots t.lot.toNat).sacks)
theorem noT_false {b : Barn} {p : List Int} {t : Tur} : noT b p t = false ↔ (0 ≤ t.lot ∧ t.lot < p.length) ∧ (0 ≤ t.aim ∧ t.aim < b.sizes.length) ∧ t.aim ∉ p ∧ (nth b.lots t.lot.toNat).sacks ≤ nth b.sizes t.aim.toNat := by
  unfold noT
  simp only [Bool.or_eq_false_iff, decide_eq_false_iff_not]
  constructor
  · rintro ⟨⟨⟨⟨⟨h1, h2⟩, h3⟩, h4⟩, h5⟩, h6⟩; exact ⟨by omega, by omega, h5, by omega⟩
  · rintro ⟨h1, h2, h3, h4⟩; exact ⟨⟨⟨⟨⟨by omega, by omega⟩, by omega⟩, by omega⟩, h3⟩, by omega⟩
def lawGo (b : Barn) : List Int → List Tur → Option (List Int)
  | p, [] => some p
  | p, t :: l => if noT b p t = true then none else lawGo b (p.set t.lot.toNat t.aim) l
def lawV (b : Barn) (plan : List Tur) : List Int × Bool := match lawGo b (innL b) plan with
  | some p => (p, true)
  | none => ([], false)
structure LIx (b : Barn) (plan : List Tur) (k : Nat) (p : List Int) : Prop where
  same : lawGo b (innL b) plan = lawGo b p (plan.drop k)
  len : p.length = b.lots.length
  le : k ≤ plan.length
theorem lix0 (b : Barn) (plan : List Tur) : LIx b plan 0 (innL b) := ⟨by rw [List.drop_zero], by unfold innL; rw [List.length_map], Nat.zero_le _⟩
section
variable {b : Barn} {plan : List Tur} {k : Nat} {p : List Int}
theorem LIx.stop (h : LIx b plan k p) (hk : k < plan.length) (hn : noT b p (nth plan k) = true) : lawV b plan = ([], false) := by
  have e : lawGo b (innL b) plan = none := by rw [h.same, drop_nth hk]; exact if_pos hn
  unfold lawV; rw [e]
theorem LIx.next (h : LIx b plan k p) (hk : k < plan.length) (hn : noT b p (nth plan k) = false) : LIx b plan (k + 1) (p.set (nth plan k).lot.toNat (nth plan k).aim) := by
  refine ⟨?_, by rw [List.length_set]; exact h.len, hk⟩
  rw [h.same, drop_nth hk]
  exact if_neg (by rw [hn]; decide)
theorem LIx.end (h : LIx b plan k p) (hk : plan.length ≤ k) : lawV b plan = (p, true) := by
  unfold lawV
  rw [h.same, List.drop_of_length_le hk]; rfl
end
theorem takenP_not {b : Barn} {P : Pl} {x : Int} : takenP b P x = false ↔ x ∉ P.1.take b.lots.length := by
  unfold takenP; rw [List.any_eq_false]; simp only [decide_eq_true_eq]
  exact ⟨fun h hm => h _ hm rfl, fun h y hy e => h (e ▸ hy)⟩
theorem noT_turns {b : Barn} {P : Pl} (h6 : b.lots.length ≤ 6) {t : Tur} : noT b (P.1.take b.lots.length) t = false ↔ t ∈ turnsL b P := by
  rw [noT_false, mem_turnsL]
  have hl : (P.1.take b.lots.length).length = b.lots.length := by rw [List.length_take, P.2]; omega
  rw [hl, takenP_not]; unfold Barn.hold; rw [decide_eq_true_eq]
  constructor
  · rintro ⟨⟨h1, h2⟩, ⟨h3, h4⟩, h5, h6⟩; exact ⟨h1, h2, h3, h4, h5, h6⟩
  · rintro ⟨h1, h2, h3, h4, h5, h6⟩; exact ⟨⟨h1, h2⟩, ⟨h3, h4⟩, h5, h6⟩
theorem set_take {P : Pl} {t : Tur} {n : Nat} : (P.1.take n).set t.lot.toNat t.aim = (moved P t).1.take n := by
  unfold moved; rw [List.take_set]
theorem go_law {b : Barn} (h6 : b.lots.length ≤ 6) : ∀ (l : List Tur) (P : Pl), lawGo b (P.1.take b.lots.length) l = (goP b P l).map fun q => q.1.take b.lots.length
  | [], P => rfl
  | t :: l, P => by
    show (if noT b (P.1.take b.lots.length) t = true then none else lawGo b ((P.1.take b.lots.length).set t.lot.toNat t.aim) l) = Option.map _ (if t ∈ turnsL b P then goP b (moved P t) l else none)
    by_cases h : t ∈ turnsL b P
    · rw [if_pos h, if_neg (by rw [(noT_turns h6).2 h]; decide), set_take, go_law h6 l]
    · rw [if_neg h, if_pos (by
        cases e : noT b (P.1.take b.lots.length) t with
        | true => rfl
        | false => exact absurd ((noT_turns h6).1 e) h)]; rfl
theorem first_inn {b : Barn} (h6 : b.lots.length ≤ 6) : (firstP b).1.take b.lots.length = innL b := by
  unfold firstP innL
  show List.take _ (List.take 6 _) = _
  rw [List.take_take, Nat.min_eq_left h6, List.take_append_of_le_length (by simp)]
  exact List.take_of_length_le (by simp)
theorem law_go {b : Barn} (h6 : b.lots.length ≤ 6) (l : List Tur) : lawGo b (innL b) l = (goP b (firstP b) l).map fun q => q.1.take b.lots.length := by rw [← first_inn h6, go_law h6]
theorem lawV_some {b : Barn} (h6 : b.lots.length ≤ 6) {l : List Tur} {q : Pl} (h : goP b (firstP b) l = some q) : lawV b l = (q.1.take b.lots.length, true) := by
  unfold lawV; rw [law_go h6, h]; rfl
theorem lawV_none {b : Barn} (h6 : b.lots.length ≤ 6) {l : List Tur} (h : goP b (firstP b) l = none) : lawV b l = ([], false) := by
  unfold lawV; rw [law_go h6, h]; rfl
theorem lawV_len {b : Barn} (h6 : b.lots.length ≤ 6) (l : List Tur) : (lawV b l).1.length ≤ b.lots.length := by
  cases h : goP b (firstP b) l with
  | none => rw [lawV_none h6 h]; exact Nat.zero_le _
  | some q => rw [lawV_some h6 h]; exact Nat.le_trans (List.length_take_le _ _) (Nat.le_refl _)
def okI (b : Barn) (p : List Int) (i : Nat) : Bool := decide ((nth b.lots i).aim = -1) || decide ((nth b.lots i).aim = nth p i)
def isUp (b : Barn) (plan : List Tur) (k : Nat) : Bool := (lawV b plan).2 && (List.range k).all (okI b (lawV b plan).1)
def rightV (b : Barn) (plan : List Tur) : Bool := isUp b plan (lawV b plan).1.length
theorem isUp_zero (b : Barn) (plan : List Tur) : isUp b plan 0 = (lawV b plan).2 := by unfold isUp; simp
theorem isUp_succ (b : Barn) (plan : List Tur) (k : Nat) : isUp b plan (k + 1) = (isUp b plan k && okI b (lawV b plan).1 k) := by
  unfold isUp; rw [List.range_succ, List.all_append]; simp [Bool.and_assoc]
theorem nth_take {l : List Int} {n i : Nat} (h : i < n) : nth (l.take n) i = nth l i := by
  unfold nth; rw [List.getD_eq_getElem?_getD, List.getD_eq_getElem?_getD, List.getElem?_take_of_lt h]
theorem right_iff {b : Barn} (h6 : b.lots.length ≤ 6) {l : List Tur} : rightV b l = true ↔ ∃ q, goP b (firstP b) l = some q ∧ madeP b q = true := by
  unfold rightV isUp
  cases h : goP b (firstP b) l with
  | none => rw [lawV_none h6 h]; exact ⟨(fun h => by cases h), fun ⟨_, h, _⟩ => by cases h⟩
  | some q =>
    rw [lawV_some h6 h]
    have hl : (q.1.take b.lots.length).length = b.lots.length := by rw [List.length_take, q.2]; omega
    have e : (true && (List.range (q.1.take b.lots.length).length).all (okI b (q.1.take b.lots.length))) = madeP b q := by
      rw [hl, Bool.true_and]
      unfold madeP
      rw [Bool.eq_iff_iff, List.all_eq_true, List.all_eq_true]
      have key : ∀ i, i ∈ List.range b.lots.length → okI b (q.1.take b.lots.length) i = (decide ((nth b.lots i).aim = -1) || decide ((nth b.lots i).aim = nth q.1 i)) := fun i hi => by
        unfold okI; rw [nth_take (List.mem_range.1 hi)]
      exact ⟨fun H i hi => by rw [← key i hi]; exact H i hi, fun H i hi => by rw [key i hi]; exact H i hi⟩
    show (true && _) = true ↔ _
    rw [e]
    exact ⟨fun h => ⟨q, rfl, h⟩, fun ⟨q', h1, h2⟩ => by injection h1 with h1; rw [h1]; exact h2⟩
def tryT (b : Barn) (s : Sk) : Tur := ⟨skBelow s b.lots.length, skBelow (skNext s) b.sizes.length⟩
def walkS (b : Barn) (s : Sk) : Nat → List Tur × Sk
  | 0 => ([], s)
  | k + 1 => (if (lawV b ((walkS b s k).1 ++ [tryT b (walkS b s k).2])).2 = true then (walkS b s k).1 ++ [tryT b (walkS b s k).2] else (walkS b s k).1, skNext (skNext (walkS b s k).2))
def walkN (s : Sk) (most : Int) : Nat := (skBelow s (most + 1)).toNat
def walkP (b : Barn) (s : Sk) (most : Int) : List Tur := (walkS b (skNext s) (walkN s most)).1
def walkE (b : Barn) (s : Sk) (most : Int) : Sk := (walkS b (skNext s) (walkN s most)).2
theorem walk_yes {b : Barn} {s : Sk} {k : Nat} (h : (lawV b ((walkS b s k).1 ++ [tryT b (walkS b s k).2])).2 = true) : (walkS b s k).1 ++ [tryT b (walkS b s k).2] = (walkS b s (k + 1)).1 := (if_pos h).symm
theorem walk_no {b : Barn} {s : Sk} {k : Nat} (h : (lawV b ((walkS b s k).1 ++ [tryT b (walkS b s k).2])).2 = false) : (walkS b s k).1 = (walkS b s (k + 1)).1 := (if_neg (by rw [h]; decide)).symm
theorem walkN_eq (s : Sk) {most : Int} : ((walkN s most : Nat) : Int) = skBelow s (most + 1) := by
  have := skBelow_bound s (most + 1)
  unfold walkN; omega
theorem walkN_le (s : Sk) {most : Int} (h : 0 ≤ most) : (walkN s most : Int) ≤ most := by
  have := skBelow_bound s (most + 1)
  unfold walkN; omega
theorem walkS_ok (b : Barn) (s : Sk) : ∀ k, (walkS b s k).1.length ≤ k ∧ (walkS b s k).2.taken = s.taken + 2 * k ∧ (lawV b (walkS b s k).1).2 = true
  | 0 => ⟨Nat.le_refl _, by simp [walkS], rfl⟩
  | k + 1 => by
    obtain ⟨h1, h2, h3⟩ := walkS_ok b s k
    have h4 : (walkS b s (k + 1)).2.taken = s.taken + 2 * ((k + 1 : Nat) : Int) := by
      show (skNext (skNext (walkS b s k).2)).taken = _
      rw [skNext_taken, skNext_taken, h2]; omega
    cases e : (lawV b ((walkS b s k).1 ++ [tryT b (walkS b s k).2])).2 with
    | true => rw [← walk_yes e]; exact ⟨by rw [List.length_append, List.length_singleton]; omega, h4, e⟩
    | false => rw [← walk_no e]; exact ⟨by omega, h4, h3⟩
structure WalkOk (b : Barn) (s : Sk) (most : Int) (l : List Tur) (e : Sk) : Prop where
  len : (l.length : Int) ≤ most
  taken : s.taken ≤ e.taken ∧ e.taken ≤ s.taken + 1 + 2 * most
  ok : (lawV b l).2 = true
theorem walk_ok (b : Barn) (s : Sk) {most : Int} (h : 0 ≤ most) : WalkOk b s most (walkP b s most) (walkE b s most) := by
  obtain ⟨h1, h2, h3⟩ := walkS_ok b (skNext s) (walkN s most)
  have h4 := walkN_le s h
  have h5 := skNext_taken s
  unfold walkP walkE
  exact ⟨by omega, by omega, h3⟩
end Go.Proofs.Ytpnndljmhpepgaa

namespace Go.Proofs.Ytpnndljmhpepgaa
open Go Go.T
set_option maxHeartbeats 4000000
def innU (b : Barn) (k : Nat) : List Int := (b.lots.take k).map fun l => l.inn
theorem innU_len (b : Barn) {k : Nat} (h : k ≤ b.lots.length) : (innU b k).length = k := by unfold innU; rw [List.length_map, List.length_take]; omega
theorem innU_succ {b : Barn} {k : Nat} (h : k < b.lots.length) : innU b k ++ [(nth b.lots k).inn] = innU b (k + 1) := by
  unfold innU; rw [take_nth h, List.map_append]; rfl
theorem innU_all {b : Barn} {k : Nat} (h : b.lots.length ≤ k) : innU b k = innL b := by unfold innU innL; rw [List.take_of_length_le h]
theorem lix_at {b : Barn} {plan : List Tur} {k : Nat} (h : b.lots.length ≤ k) : LIx b plan 0 (innU b k) := by rw [innU_all h]; exact lix0 b plan
theorem no_rng {b : Barn} {p : List Int} {t : Tur} (h : (decide (t.lot < 0) || decide (t.lot ≥ (p.length : Int)) || decide (t.aim < 0) || decide (t.aim ≥ (b.sizes.length : Int)) || decide (t.aim ∈ p)) = false) : (0 ≤ t.lot ∧ t.lot < p.length) ∧ 0 ≤ t.aim ∧ t.aim < b.sizes.length := by
  simp only [Bool.or_eq_false_iff, decide_eq_false_iff_not] at h
  omega
theorem plain_TurE (x : Tur) : ∀ t ∈ TurE.tys x, t.Plain := plain_cons (plain_int _ _) (plain_cons (plain_int _ _) plain_nil)
attribute [local irreducible] dInt dBool dSl dPp dPtr dAgg dTup dClo dAny dEx dStr dGd dCells dVec dVs dRow dOp nth Tri Into TOps Ctr bodyPost Exit.then Exit.inBlock Code.wp Code.wpIn dWhen dPa dPe dAo dArr dMp dPm dMap dCJ CtrG CtrI OpY keepPost iterPost bodyPostM roundQ
set_option maxRecDepth 100000 in
theorem c_ldone (b : Barn) (hs : b.Small) (plan : List Tur) (hp : plan.length ≤ 400000000) : Ctr Try.prog 56 [barnT b, Ty.sl TurE plan] (Ty.tup [Ty.sl I64 (lawV b plan).1, Ty.bool (lawV b plan).2]) := by
  refine fn_intro Try.func56 rfl (by decide) Try.ntmps56 (by exact Nat.le_of_ble_eq_true rfl) fun w0 M0 => ?_
  have hs1 := hs.lots
  refine t_seq ?_
  refine t_region ?_
  refine r_box_agg rfl ?_
  refine asX rfl ?_
  refine asB rfl ?_
  refine r_nil ?_
  refine i_then ?_
  refine t_seq ?_
  refine t_region ?_
  refine asX rfl ?_
  refine r_nil ?_
  refine i_then ?_
  refine t_seq ?_
  refine t_seq ?_
  refine t_region ?_
  refine r_field_pp rfl rfl rfl rfl rfl (by decide) ?_
  refine r_load_pp rfl rfl rfl rfl ?_
  refine r_len rfl rfl rfl ?_
  refine mvI rfl ?_
  refine r_nil ?_
  refine i_then ?_
  refine t_block ?_
  refine t_loop (fun (k : {k : Nat // k ≤ b.lots.length}) => live [(1, Ty.sl TurE plan), (2, Ty.pp (barnTys b)), (6, Ty.row I64 3 23 (innU b k.1)), (12, Ty.sl LotE b.lots), (13, Ty.int .i64 b.lots.length), (14, Ty.int .i64 (k.1 : Nat))] []) (fun k => b.lots.length - k.1) (⟨0, by omega⟩) ?_ fun k => ?_
  · (refine Ent.mk' ?_ ?_ <;> (repeat' (first | exact allSub_zero | exact allTags_nil | refine allSub_succ' ?_ (Ty.sub_any _) | refine allSub_succ' ?_ (Ty.sub_refl _) | refine allSub_succ' ?_ Ty.nil_row)))
    all_goals trace_state
  ·
    have hk := k.2
    have hl := innU_len b hk
    refine t_seq ?_
    refine t_region ?_
    refine r_bin rfl rfl rfl ?_
    refine r_nil ?_
    refine i_then ?_
    refine t_seq ?_
    refine t_cond_dec rfl (fun hc1 => ?_) (fun hc1 => ?_)
    ·
      refine t_skip ?_
      refine i_then ?_
      refine t_seq ?_
      refine t_block ?_
      refine t_seq ?_
      refine t_region ?_
      refine r_index_slN rfl rfl rfl rfl rfl rfl (by omega) ?_
      refine r_load_ppN rfl rfl rfl (by exact Nat.le_of_ble_eq_true rfl) ?_
      refine r_alloc rfl (by exact List.cons_ne_nil _ _) rfl ?_
      refine r_storeN rfl rfl (by decide) rfl rfl rfl rfl rfl rfl ?_
      refine r_nil ?_
      refine i_then ?_
      refine t_region ?_
      refine mvR rfl ?_
      refine r_field_ptr rfl rfl rfl rfl rfl (by decide) ?_
      refine r_load_ptr rfl rfl (by decide) rfl rfl rfl ?_
      refine r_buildSlice (E := I64) (xs := [_]) rfl rfl rfl rfl rfl (by decide) (by decide) (by repeat (first | exact (Parts.nil : Parts _ _ [] _) | (show Parts _ _ ((_, _) :: _) _; apply Parts.one; (· exact (rfl : _ = Ty.int _ _)); (· exact rfl)))) (by exact rfl) rfl ?_
      refine r_append rfl rfl (by decide) rfl rfl rfl rfl rfl rfl (by decide) (by (simp <;> omega)) (by (simp <;> omega)) ?_
      refine asR rfl ?_
      refine r_nil ?_
      refine i_block ?_
      refine i_then ?_
      refine t_region ?_
      refine r_add rfl rfl (by omega) (by omega) ?_
      refine mvI rfl ?_
      refine r_nil ?_
      refine i_round (⟨k.1 + 1, by omega⟩) ?_ (by show b.lots.length - (k.1 + 1) < b.lots.length - k.1; omega)
      (refine Ent.mk' ?_ ?_ <;> (repeat' (first | exact allSub_zero | exact allTags_nil | refine allSub_succ' ?_ (Ty.sub_any _) | refine allSub_succ' ?_ (Ty.sub_refl _) | refine allSub_succ' ?_ ?_)))
      all_goals skip
      all_goals exact Ty.sub_row (innU_succ (by omega))
    ·
      refine t_exit ?_
      refine i_then_exit ?_
      refine i_then_exit ?_
      refine i_block_exit rfl ?_
      refine i_then ?_
      refine t_seq ?_
      refine t_seq ?_
      have hke : k.1 = b.lots.length := by have := k.2; omega
      have hil : (innU b k.1).length = b.lots.length := by rw [innU_len b k.2, hke]
      refine t_own (s := 6) rfl rfl ?_
      refine t_region ?_
      refine mvS rfl ?_
      refine r_len rfl rfl rfl ?_
      refine mvI rfl ?_
      refine r_nil ?_
      refine i_then ?_
      refine t_block ?_
      refine t_loop (fun (x : {x : Nat × List Int // LIx b plan x.1 x.2}) => live [(2, Ty.pp (barnTys b)), (6, Ty.vs 23 x.1.2.length), (24, Ty.sl TurE plan), (25, Ty.int .i64 plan.length), (26, Ty.int .i64 (x.1.1 : Nat))] [(23, Cont.vec I64 3 x.1.2)]) (fun x => plan.length - x.1.1) (⟨(0, innU b k.1), lix_at (by omega)⟩) ?_ fun x => ?_
      · (refine Ent.mk' ?_ ?_ <;> (repeat' (first | exact allSub_zero | exact allTags_nil | refine allSub_succ' ?_ (Ty.sub_any _) | refine allSub_succ' ?_ (Ty.sub_refl _) | refine allTags_cons rfl (Cont.sub_refl _) ?_)))
      ·
        have hxl := x.2.len
        have hxe := x.2.le
        refine t_seq ?_
        refine t_region ?_
        refine r_bin rfl rfl rfl ?_
        refine r_nil ?_
        refine i_then ?_
        refine t_seq ?_
        refine t_cond_dec rfl (fun hc2 => ?_) (fun hc2 => ?_)
        ·
          refine t_skip ?_
          refine i_then ?_
          refine t_seq ?_
          refine t_block ?_
          refine t_seq ?_
          refine t_region ?_
          refine r_index_slN rfl rfl rfl rfl rfl rfl (by omega) ?_
          refine r_load_ppN rfl rfl rfl (by exact Nat.le_of_ble_eq_true rfl) ?_
          refine r_alloc rfl (by exact List.cons_ne_nil _ _) rfl ?_
          refine r_storeN rfl rfl (by decide) rfl rfl rfl rfl rfl rfl ?_
          refine r_nil ?_
          refine i_then ?_
          refine t_seq ?_
          refine t_seq ?_
          refine t_draw mixed rfl ?_
          refine r_field_ptr rfl rfl rfl rfl rfl (by decide) ?_
          refine r_load_ptr rfl rfl (by decide) rfl rfl rfl ?_
          refine r_bin rfl rfl rfl ?_
          refine mvB rfl ?_
          apply r_guard (s := 33) rfl rfl rfl
          · intro hg; apply opT_of; (refine r_field_ptr rfl rfl rfl rfl rfl (by decide) ?_); refine r_nil ?_; exact rfl
          · exact rfl
          · exact rfl
          apply r_guard (s := 33) rfl rfl rfl
          · intro hg; apply opT_strip (s := 34) rfl (by (rw [hg]; rfl)); apply opT_of; (refine r_load_ptr rfl rfl (by decide) rfl rfl rfl ?_); refine r_nil ?_; exact rfl
          · exact rfl
          · exact rfl
          apply r_guard (s := 33) rfl rfl rfl
          · intro hg; apply opT_of; (refine mvV rfl ?_); refine r_nil ?_; exact rfl
          · exact rfl
          · exact rfl
          apply r_guard (s := 33) rfl rfl rfl
          · intro hg; apply opT_strip (s := 36) rfl (by (rw [hg]; rfl)); apply opT_of; (refine r_len_vs rfl rfl rfl ?_); refine r_nil ?_; exact rfl
          · exact rfl
          · exact rfl
          apply r_guard (s := 33) rfl rfl rfl
          · intro hg; apply opT_strip (s := 35) rfl (by (rw [hg]; rfl)); apply opT_strip (s := 37) rfl (by (rw [hg]; rfl)); apply opT_of; (refine r_bin rfl rfl rfl ?_); refine r_nil ?_; exact rfl
          · exact rfl
          · exact rfl
          refine r_or rfl rfl ?_
          refine mvB rfl ?_
          apply r_guard (s := 40) rfl rfl rfl
          · intro hg; apply opT_of; (refine r_field_ptr rfl rfl rfl rfl rfl (by decide) ?_); refine r_nil ?_; exact rfl
          · exact rfl
          · exact rfl
          apply r_guard (s := 40) rfl rfl rfl
          · intro hg; apply opT_strip (s := 41) rfl (by (rw [hg]; rfl)); apply opT_of; (refine r_load_ptr rfl rfl (by decide) rfl rfl rfl ?_); refine r_nil ?_; exact rfl
          · exact rfl
          · exact rfl
          apply r_guard (s := 40) rfl rfl rfl
          · intro hg; apply opT_strip (s := 42) rfl (by (rw [hg]; rfl)); apply opT_of; (refine r_bin rfl rfl rfl ?_); refine r_nil ?_; exact rfl
          · exact rfl
          · exact rfl
          refine r_or rfl rfl ?_
          refine mvB rfl ?_
          apply r_guard (s := 45) rfl rfl rfl
          · intro hg; apply opT_of; (refine r_field_ptr rfl rfl rfl rfl rfl (by decide) ?_); refine r_nil ?_; exact rfl
          · exact rfl
          · exact rfl
          apply r_guard (s := 45) rfl rfl rfl
          · intro hg; apply opT_strip (s := 46) rfl (by (rw [hg]; rfl)); apply opT_of; (refine r_load_ptr rfl rfl (by decide) rfl rfl rfl ?_); refine r_nil ?_; exact rfl
          · exact rfl
          · exact rfl
          apply r_guard (s := 45) rfl rfl rfl
          · intro hg; apply opT_of; (refine r_field_pp rfl rfl rfl rfl rfl (by decide) ?_); refine r_nil ?_; exact rfl
          · exact rfl
          · exact rfl
          apply r_guard (s := 45) rfl rfl rfl
          · intro hg; apply opT_strip (s := 48) rfl (by (rw [hg]; rfl)); apply opT_of; (refine r_load_pp rfl rfl rfl rfl ?_); refine r_nil ?_; exact rfl
          · exact rfl
          · exact rfl
          apply r_guard (s := 45) rfl rfl rfl
          · intro hg; apply opT_strip (s := 49) rfl (by (rw [hg]; rfl)); apply opT_of; (refine r_len rfl rfl rfl ?_); refine r_nil ?_; exact rfl
          · exact rfl
          · exact rfl
          apply r_guard (s := 45) rfl rfl rfl
          · intro hg; apply opT_strip (s := 47) rfl (by (rw [hg]; rfl)); apply opT_strip (s := 50) rfl (by (rw [hg]; rfl)); apply opT_of; (refine r_bin rfl rfl rfl ?_); refine r_nil ?_; exact rfl
          · exact rfl
          · exact rfl
          refine r_or rfl rfl ?_
          refine mvB rfl ?_
          apply r_guard (s := 53) rfl rfl rfl
          · intro hg; apply opT_of; (refine mvV rfl ?_); refine r_nil ?_; exact rfl
          · exact rfl
          · exact rfl
          apply r_guard (s := 53) rfl rfl rfl
          · intro hg; apply opT_of; (refine r_field_ptr rfl rfl rfl rfl rfl (by decide) ?_); refine r_nil ?_; exact rfl
          · exact rfl
          · exact rfl
          apply r_guard (s := 53) rfl rfl rfl
          · intro hg; apply opT_strip (s := 55) rfl (by (rw [hg]; rfl)); apply opT_of; (refine r_load_ptr rfl rfl (by decide) rfl rfl rfl ?_); refine r_nil ?_; exact rfl
          · exact rfl
          · exact rfl
          apply r_guard (s := 53) rfl rfl rfl
          · intro hg; apply opT_strip (s := 54) rfl (by (rw [hg]; rfl)); apply opT_strip (s := 56) rfl (by (rw [hg]; rfl)); apply opT_of; (refine r_callLC [23] (c_Contains_int x.1.2 (nth plan x.1.1).aim) rfl (by repeat (first | exact lendcs_nil | refine lendcs_cons (lendc_of (lend_pub rfl rfl)) ?_ | refine lendcs_cons (lendc_vs rfl (by exact rfl) (by decide) rfl) ?_)) (by exact plain_bool _) ?_); refine r_nil ?_; exact rfl
          · exact rfl
          · exact rfl
          refine r_or rfl rfl ?_
          refine mvB rfl ?_
          apply r_guard (s := 59) rfl rfl rfl
          · intro hg; apply opT_of; (refine r_field_pp rfl rfl rfl rfl rfl (by decide) ?_); refine r_nil ?_; exact rfl
          · exact rfl
          · exact rfl
          apply r_guard (s := 59) rfl rfl rfl
          · intro hg; apply opT_strip (s := 60) rfl (by (rw [hg]; rfl)); apply opT_of; (refine r_load_pp rfl rfl rfl rfl ?_); refine r_nil ?_; exact rfl
          · exact rfl
          · exact rfl
          apply r_guard (s := 59) rfl rfl rfl
          · intro hg; apply opT_of; (refine r_field_ptr rfl rfl rfl rfl rfl (by decide) ?_); refine r_nil ?_; exact rfl
          · exact rfl
          · exact rfl
          apply r_guard (s := 59) rfl rfl rfl
          · intro hg; apply opT_strip (s := 62) rfl (by (rw [hg]; rfl)); apply opT_of; (refine r_load_ptr rfl rfl (by decide) rfl rfl rfl ?_); refine r_nil ?_; exact rfl
          · exact rfl
          · exact rfl
          apply r_guard (s := 59) rfl rfl rfl
          · intro hg; apply opT_strip (s := 61) rfl (by (rw [hg]; rfl)); apply opT_strip (s := 63) rfl (by (rw [hg]; rfl)); apply opT_of; (refine r_index_sl rfl rfl rfl rfl rfl rfl (no_rng hg).2.1 (by have := (no_rng hg).2; omega) ?_); refine r_nil ?_; exact rfl
          · exact rfl
          · exact rfl
          apply r_guard (s := 59) rfl rfl rfl
          · intro hg; apply opT_strip (s := 64) rfl (by (rw [hg]; rfl)); apply opT_of; (refine r_load_pp rfl rfl rfl rfl ?_); refine r_nil ?_; exact rfl
          · exact rfl
          · exact rfl
          apply r_guard (s := 59) rfl rfl rfl
          · intro hg; apply opT_of; (refine r_field_pp rfl rfl rfl rfl rfl (by decide) ?_); refine r_nil ?_; exact rfl
          · exact rfl
          · exact rfl
          apply r_guard (s := 59) rfl rfl rfl
          · intro hg; apply opT_strip (s := 66) rfl (by (rw [hg]; rfl)); apply opT_of; (refine r_load_pp rfl rfl rfl rfl ?_); refine r_nil ?_; exact rfl
          · exact rfl
          · exact rfl
          apply r_guard (s := 59) rfl rfl rfl
          · intro hg; apply opT_of; (refine r_field_ptr rfl rfl rfl rfl rfl (by decide) ?_); refine r_nil ?_; exact rfl
          · exact rfl
          · exact rfl
          apply r_guard (s := 59) rfl rfl rfl
          · intro hg; apply opT_strip (s := 68) rfl (by (rw [hg]; rfl)); apply opT_of; (refine r_load_ptr rfl rfl (by decide) rfl rfl rfl ?_); refine r_nil ?_; exact rfl
          · exact rfl
          · exact rfl
          apply r_guard (s := 59) rfl rfl rfl
          · intro hg; apply opT_strip (s := 67) rfl (by (rw [hg]; rfl)); apply opT_strip (s := 69) rfl (by (rw [hg]; rfl)); apply opT_of; (refine r_index_sl rfl rfl rfl rfl rfl rfl (no_rng hg).1.1 (by have := no_rng hg; omega) ?_); refine r_nil ?_; exact rfl
          · exact rfl
          · exact rfl
          apply r_guard (s := 59) rfl rfl rfl
          · intro hg; apply opT_strip (s := 70) rfl (by (rw [hg]; rfl)); apply opT_of; (refine r_field_pp rfl rfl rfl rfl rfl (by decide) ?_); refine r_nil ?_; exact rfl
          · exact rfl
          · exact rfl
          apply r_guard (s := 59) rfl rfl rfl
          · intro hg; apply opT_strip (s := 71) rfl (by (rw [hg]; rfl)); apply opT_of; (refine r_load_pp rfl rfl rfl rfl ?_); refine r_nil ?_; exact rfl
          · exact rfl
          · exact rfl
          apply r_guard (s := 59) rfl rfl rfl
          · intro hg; apply opT_strip (s := 65) rfl (by (rw [hg]; rfl)); apply opT_strip (s := 72) rfl (by (rw [hg]; rfl)); apply opT_of; (refine r_bin rfl rfl rfl ?_); refine r_nil ?_; exact rfl
          · exact rfl
          · exact rfl
          refine r_or rfl rfl ?_
          refine r_nil ?_
          refine ⟨by kernel_rfl, ?_⟩
          refine i_then ?_
          refine t_cond rfl (fun hc3 => ?_) (fun hc3 => ?_)
          ·
            refine t_seq ?_
            refine t_region ?_
            refine asX rfl ?_
            refine asB rfl ?_
            refine r_nil ?_
            refine i_then ?_
            refine t_ret ?_
            refine i_then_ret ?_
            refine i_block_ret ?_
            refine i_then_ret ?_
            refine i_then_ret ?_
            refine i_block_ret ?_
            refine i_then_ret ?_
            refine i_rp2 rfl rfl rfl ?_ ?_
            all_goals skip
            all_goals first | exact ret_nil_eq (congrArg Prod.fst (x.2.stop (by omega) hc3)) | exact ret_eq rfl rfl (congrArg (fun z : List Int × Bool => Ty.bool z.2) (x.2.stop (by omega) hc3).symm)
          ·
            refine t_skip ?_
            refine i_then ?_
            have hno := noT_false.1 (show noT b x.1.2 (nth plan x.1.1) = false from hc3)
            refine t_region ?_
            refine mvV rfl ?_
            refine r_field_ptr rfl rfl rfl rfl rfl (by decide) ?_
            refine r_load_ptr rfl rfl (by decide) rfl rfl rfl ?_
            refine r_field_ptr rfl rfl rfl rfl rfl (by decide) ?_
            refine r_load_ptr rfl rfl (by decide) rfl rfl rfl ?_
            refine r_index_vsI rfl rfl rfl rfl rfl (by omega) (by omega) ?_
            refine r_store_vecB rfl rfl rfl (by decide) rfl rfl (by exact (rfl : _ = Ty.int _ _)) rfl (by omega) (by decide) rfl rfl ?_
            refine r_nil ?_
            refine i_block ?_
            refine i_then ?_
            refine t_region ?_
            refine r_add rfl rfl (by omega) (by omega) ?_
            refine mvI rfl ?_
            refine r_nil ?_
            refine i_round (⟨(x.1.1 + 1, x.1.2.set (nth plan x.1.1).lot.toNat (nth plan x.1.1).aim), x.2.next (by omega) hc3⟩) ?_ (by show plan.length - (x.1.1 + 1) < plan.length - x.1.1; omega)
            (refine Ent.mk' ?_ ?_ <;> (repeat' (first | exact allSub_zero | exact allTags_nil | refine allSub_succ' ?_ (Ty.sub_any _) | refine allSub_succ' ?_ (Ty.sub_refl _) | refine allTags_cons rfl (Cont.sub_refl _) ?_ | refine allSub_succ' ?_ ?_)))
            all_goals skip
            all_goals exact Ty.sub_eq (congrArg (Ty.vs 23) List.length_set.symm)
        ·
          refine t_exit ?_
          refine i_then_exit ?_
          refine i_then_exit ?_
          refine i_block_exit rfl ?_
          refine i_then ?_
          refine t_seq ?_
          refine t_pub (tg := 23) [(6, Ty.sl I64 x.1.2)] (by decide) rfl ⟨pub_vs rfl rfl rfl (by decide), trivial⟩ ?_
          refine t_region ?_
          refine mvS rfl ?_
          refine asS rfl ?_
          refine asB rfl ?_
          refine r_nil ?_
          refine i_then ?_
          refine t_ret ?_
          refine i_rp2 rfl rfl rfl ?_ ?_
          all_goals skip
          all_goals first | exact ret_eq rfl rfl (congrArg (fun z : List Int × Bool => Ty.sl I64 z.1) (x.2.end (by omega)).symm) | exact ret_eq rfl rfl (congrArg (fun z : List Int × Bool => Ty.bool z.2) (x.2.end (by omega)).symm)
set_option maxRecDepth 100000 in
theorem c_lright (b : Barn) (hs : b.Small) (h6 : b.lots.length ≤ 6) (plan : List Tur) (hp : plan.length ≤ 400000000) : Ctr Try.prog 52 [barnT b, Ty.sl TurE plan] (Ty.bool (rightV b plan)) := by
  refine fn_intro Try.func52 rfl (by decide) Try.ntmps52 (by exact Nat.le_of_ble_eq_true rfl) fun w0 M0 => ?_
  have hvl := lawV_len h6 plan
  refine t_seq ?_
  refine t_region ?_
  refine r_box_agg rfl ?_
  refine asB rfl ?_
  refine r_nil ?_
  refine i_then ?_
  refine t_seq ?_
  refine t_region ?_
  refine r_load_ppN rfl rfl rfl (by exact Nat.le_of_ble_eq_true rfl) ?_
  refine mvS rfl ?_
  refine r_call (c_ldone b hs plan hp) rfl rfl rfl rfl rfl ?_
  refine mvT rfl ?_
  refine r_extract rfl rfl ?_
  refine r_extract rfl rfl ?_
  refine asS rfl ?_
  refine asB rfl ?_
  refine r_nil ?_
  refine i_then ?_
  refine t_seq ?_
  refine t_seq ?_
  refine t_region ?_
  refine mvS rfl ?_
  refine r_len rfl rfl rfl ?_
  refine mvI rfl ?_
  refine r_nil ?_
  refine i_then ?_
  refine t_block ?_
  refine t_loop (fun (k : {k : Nat // k ≤ (lawV b plan).1.length}) => live [(2, Ty.pp (barnTys b)), (6, Ty.bool (isUp b plan k.1)), (15, Ty.sl I64 (lawV b plan).1), (16, Ty.int .i64 (lawV b plan).1.length), (17, Ty.int .i64 (k.1 : Nat))] []) (fun k => (lawV b plan).1.length - k.1) (⟨0, by omega⟩) ?_ fun k => ?_
  · (refine Ent.mk' ?_ ?_ <;> (repeat' (first | exact allSub_zero | exact allTags_nil | refine allSub_succ' ?_ (Ty.sub_any _) | refine allSub_succ' ?_ (Ty.sub_refl _) | refine allSub_succ' ?_ ?_)))
    all_goals exact Ty.sub_bool (isUp_zero b plan).symm
  ·
    have hk := k.2
    refine t_seq ?_
    refine t_region ?_
    refine r_bin rfl rfl rfl ?_
    refine r_nil ?_
    refine i_then ?_
    refine t_seq ?_
    refine t_cond_dec rfl (fun hc1 => ?_) (fun hc1 => ?_)
    ·
      refine t_skip ?_
      refine i_then ?_
      refine t_seq ?_
      refine t_block ?_
      refine t_seq ?_
      refine t_region ?_
      refine mvI rfl ?_
      refine r_index_slN rfl rfl rfl rfl rfl rfl (by omega) ?_
      refine r_load_pp rfl rfl rfl rfl ?_
      refine asI rfl ?_
      refine asI rfl ?_
      refine r_nil ?_
      refine i_then ?_
      refine t_region ?_
      refine mvB rfl ?_
      refine mvB rfl ?_
      apply r_guard (s := 23) rfl rfl rfl
      · intro hg; apply opT_of; (refine r_field_pp rfl rfl rfl rfl rfl (by decide) ?_); refine r_nil ?_; exact rfl
      · exact rfl
      · exact rfl
      apply r_guard (s := 23) rfl rfl rfl
      · intro hg; apply opT_strip (s := 24) rfl (by (rw [hg]; rfl)); apply opT_of; (refine r_load_pp rfl rfl rfl rfl ?_); refine r_nil ?_; exact rfl
      · exact rfl
      · exact rfl
      apply r_guard (s := 23) rfl rfl rfl
      · intro hg; apply opT_of; (refine mvI rfl ?_); refine r_nil ?_; exact rfl
      · exact rfl
      · exact rfl
      apply r_guard (s := 23) rfl rfl rfl
      · intro hg; apply opT_strip (s := 25) rfl (by (rw [hg]; rfl)); apply opT_strip (s := 26) rfl (by (rw [hg]; rfl)); apply opT_of; (refine r_index_sl rfl rfl rfl rfl rfl rfl (by omega) (by omega) ?_); refine r_nil ?_; exact rfl
      · exact rfl
      · exact rfl
      apply r_guard (s := 23) rfl rfl rfl
      · intro hg; apply opT_strip (s := 27) rfl (by (rw [hg]; rfl)); apply opT_of; (refine r_field_pp rfl rfl rfl rfl rfl (by decide) ?_); refine r_nil ?_; exact rfl
      · exact rfl
      · exact rfl
      apply r_guard (s := 23) rfl rfl rfl
      · intro hg; apply opT_strip (s := 28) rfl (by (rw [hg]; rfl)); apply opT_of; (refine r_load_pp rfl rfl rfl rfl ?_); refine r_nil ?_; exact rfl
      · exact rfl
      · exact rfl
      apply r_guard (s := 23) rfl rfl rfl
      · intro hg; apply opT_strip (s := 29) rfl (by (rw [hg]; rfl)); apply opT_of; (refine r_bin rfl rfl rfl ?_); refine r_nil ?_; exact rfl
      · exact rfl
      · exact rfl
      apply r_guard (s := 23) rfl rfl rfl
      · intro hg; apply opT_strip (s := 30) rfl (by (rw [hg]; rfl)); apply opT_of; (refine mvB rfl ?_); refine r_nil ?_; exact rfl
      · exact rfl
      · exact rfl
      apply r_guardG (s := 31) rfl rfl rfl
      · intro hg1 hg2; apply opT_of; (refine r_field_pp rfl rfl rfl rfl rfl (by decide) ?_); refine r_nil ?_; exact rfl
      · exact rfl
      · exact rfl
      apply r_guardG (s := 31) rfl rfl rfl
      · intro hg1 hg2; apply opT_strip (s := 32) rfl (by (rw [hg1, hg2]; rfl)); apply opT_of; (refine r_load_pp rfl rfl rfl rfl ?_); refine r_nil ?_; exact rfl
      · exact rfl
      · exact rfl
      apply r_guardG (s := 31) rfl rfl rfl
      · intro hg1 hg2; apply opT_of; (refine mvI rfl ?_); refine r_nil ?_; exact rfl
      · exact rfl
      · exact rfl
      apply r_guardG (s := 31) rfl rfl rfl
      · intro hg1 hg2; apply opT_strip (s := 33) rfl (by (rw [hg1, hg2]; rfl)); apply opT_strip (s := 34) rfl (by (rw [hg1, hg2]; rfl)); apply opT_of; (refine r_index_sl rfl rfl rfl rfl rfl rfl (by omega) (by omega) ?_); refine r_nil ?_; exact rfl
      · exact rfl
      · exact rfl
      apply r_guardG (s := 31) rfl rfl rfl
      · intro hg1 hg2; apply opT_strip (s := 35) rfl (by (rw [hg1, hg2]; rfl)); apply opT_of; (refine r_field_pp rfl rfl rfl rfl rfl (by decide) ?_); refine r_nil ?_; exact rfl
      · exact rfl
      · exact rfl
      apply r_guardG (s := 31) rfl rfl rfl
      · intro hg1 hg2; apply opT_strip (s := 36) rfl (by (rw [hg1, hg2]; rfl)); apply opT_of; (refine r_load_pp rfl rfl rfl rfl ?_); refine r_nil ?_; exact rfl
      · exact rfl
      · exact rfl
      apply r_guardG (s := 31) rfl rfl rfl
      · intro hg1 hg2; apply opT_of; (refine mvI rfl ?_); refine r_nil ?_; exact rfl
      · exact rfl
      · exact rfl
      apply r_guardG (s := 31) rfl rfl rfl
      · intro hg1 hg2; apply opT_strip (s := 37) rfl (by (rw [hg1, hg2]; rfl)); apply opT_strip (s := 38) rfl (by (rw [hg1, hg2]; rfl)); apply opT_of; (refine r_bin rfl rfl rfl ?_); refine r_nil ?_; exact rfl
      · exact rfl
      · exact rfl
      apply r_guard (s := 23) rfl rfl rfl
      · intro hg; apply opT_strip (s := 31) rfl (by (rw [hg]; rfl)); apply opT_stripG (s := 39) rfl (by (rw [hg]; rfl)); apply opT_of; (refine r_or rfl rfl ?_); refine r_nil ?_; exact rfl
      · exact rfl
      · exact rfl
      refine r_and rfl rfl ?_
      refine asB rfl ?_
      refine r_nil ?_
      refine i_block ?_
      refine i_then ?_
      refine t_region ?_
      refine r_add rfl rfl (by omega) (by omega) ?_
      refine mvI rfl ?_
      refine r_nil ?_
      refine i_round (⟨k.1 + 1, by omega⟩) ?_ (by show (lawV b plan).1.length - (k.1 + 1) < (lawV b plan).1.length - k.1; omega)
      (refine Ent.mk' ?_ ?_ <;> (repeat' (first | exact allSub_zero | exact allTags_nil | refine allSub_succ' ?_ (Ty.sub_any _) | refine allSub_succ' ?_ (Ty.sub_refl _) | refine allSub_succ' ?_ ?_)))
      all_goals skip
      all_goals exact Ty.sub_bool (isUp_succ b plan k.1).symm
    ·
      refine t_exit ?_
      refine i_then_exit ?_
      refine i_then_exit ?_
      refine i_block_exit rfl ?_
      refine i_then ?_
      refine t_seq ?_
      refine t_region ?_
      refine mvB rfl ?_
      refine asB rfl ?_
      refine r_nil ?_
      refine i_then ?_
      refine t_ret ?_
      refine i_rp1 rfl rfl ?_
      all_goals skip
      all_goals exact ret_eq rfl rfl (congrArg Ty.bool (show isUp b plan k.1 = rightV b plan by rw [show k.1 = (lawV b plan).1.length by have := k.2; omega]; rfl))
theorem c_ldoneP (b : Barn) (hs : b.Small) (plan : List Tur) (hp : plan.length ≤ 400000000) : Ctr Try.prog 56 [barnT b, Ty.sl TurE plan] (Ty.tup [Ty.any, Ty.bool (lawV b plan).2]) :=
  (c_ldone b hs plan hp).mono Ty.tup_any2
set_option maxRecDepth 100000 in
theorem c_walk (b : Barn) (hs : b.Small) (s : Sk) (most : Int) (hm : 0 ≤ most ∧ most ≤ 900) (h : s.Ok 2000) : CtrG Try.prog 53 [1000] [(1000, Cont.cells 141 (skTys s))] [Ty.ptr 1000 0, barnT b, Ty.int .i64 most] [(1000, Cont.cells 141 (skTys (walkE b s most)))] (Ty.sl TurE (walkP b s most)) := by
  refine fnG_intro Try.func53 rfl (by decide) Try.ntmps53 (by exact Nat.le_of_ble_eq_true rfl) fun w0 M0 => ?_
  have h0 : 0 ≤ s.taken ∧ s.taken + 2000 ≤ 4611686018427387904 := h
  have hs1 := skNext_taken s
  have hn := walkN_le s hm.1
  have hne := walkN_eq s (most := most)
  have hws := fun k => walkS_ok b (skNext s) k
  refine t_seq ?_
  refine t_region ?_
  refine r_box_agg rfl ?_
  refine asX rfl ?_
  refine r_nil ?_
  refine i_then ?_
  refine t_seq ?_
  refine t_region ?_
  refine asX rfl ?_
  refine r_nil ?_
  refine i_then ?_
  refine t_seq ?_
  refine t_seq ?_
  refine t_region ?_
  refine mvO rfl ?_
  refine mvI rfl ?_
  refine r_add rfl rfl (by omega) (by omega) ?_
  refine r_callG [(1000, 1000)] [] [(1000, Cont.cells 141 (skTys (skNext s)))] (c_Below s ⟨by omega, by omega⟩ _) rfl rfl (by repeat (first | exact cv_nil | refine cv_cons ?_ ?_ | exact cv_ptr List.mem_cons_self | exact cv_pub rfl rfl)) (pre_cons (a := 1000) (b := 1000) (by exact List.mem_cons_self) rfl (cc_cells_eq (by exact List.mem_cons_self) rfl rfl rfl) pre_nil) (post_cons (a := 1000) (b := 1000) (by exact List.mem_cons_self) rfl (cc_cells_eq (by exact List.mem_cons_self) rfl rfl rfl) post_nil) (cv_pub rfl rfl) ?_
  refine mvI rfl ?_
  refine r_nil ?_
  refine i_then ?_
  refine t_block ?_
  refine t_loop (fun (k : {k : Nat // k ≤ walkN s most}) => live [(0, Ty.ptr 1000 0), (4, Ty.pp (barnTys b)), (7, Ty.row TurE 55 43 (walkS b (skNext s) k.1).1), (14, Ty.int .i64 (walkN s most : Nat)), (15, Ty.int .i64 (k.1 : Nat))] [(1000, Cont.cells 141 (skTys (walkS b (skNext s) k.1).2))]) (fun k => walkN s most - k.1) (⟨0, by omega⟩) ?_ fun k => ?_
  · (refine Ent.mk' ?_ ?_ <;> (repeat' (first | exact allSub_zero | exact allTags_nil | refine allSub_succ' ?_ (Ty.sub_any _) | refine allSub_succ' ?_ (Ty.sub_refl _) | refine allSub_succ' ?_ Ty.nil_row | refine allTags_cons rfl (Cont.sub_refl _) ?_ | refine allSub_succ' ?_ ?_)))
    all_goals exact Ty.sub_int hne.symm
  ·
    have hk := k.2
    have hw1 := (hws k.1).1
    have hw2 := (hws k.1).2.1
    have hw3 : (skNext (walkS b (skNext s) k.1).2).Ok 1 := ⟨by rw [skNext_taken]; omega, by rw [skNext_taken]; omega⟩
    refine t_seq ?_
    refine t_region ?_
    refine r_bin rfl rfl rfl ?_
    refine r_nil ?_
    refine i_then ?_
    refine t_seq ?_
    refine t_cond_dec rfl (fun hc1 => ?_) (fun hc1 => ?_)
    ·
      refine t_skip ?_
      refine i_then ?_
      refine t_seq ?_
      refine t_block ?_
      refine t_seq ?_
      refine t_draw mixed rfl ?_
      refine mvO rfl ?_
      refine r_field_pp rfl rfl rfl rfl rfl (by decide) ?_
      refine r_load_pp rfl rfl rfl rfl ?_
      refine r_len rfl rfl rfl ?_
      refine r_callG [(1000, 1000)] [] [(1000, Cont.cells 141 (skTys (skNext (walkS b (skNext s) k.1).2)))] (c_Below (walkS b (skNext s) k.1).2 ⟨by omega, by omega⟩ _) rfl rfl (by repeat (first | exact cv_nil | refine cv_cons ?_ ?_ | exact cv_ptr List.mem_cons_self | exact cv_pub rfl rfl)) (pre_cons (a := 1000) (b := 1000) (by exact List.mem_cons_self) rfl (cc_cells_eq (by exact List.mem_cons_self) rfl rfl rfl) pre_nil) (post_cons (a := 1000) (b := 1000) (by exact List.mem_cons_self) rfl (cc_cells_eq (by exact List.mem_cons_self) rfl rfl rfl) post_nil) (cv_pub rfl rfl) ?_
      refine mvO rfl ?_
      refine r_field_pp rfl rfl rfl rfl rfl (by decide) ?_
      refine r_load_pp rfl rfl rfl rfl ?_
      refine r_len rfl rfl rfl ?_
      refine r_callG [(1000, 1000)] [] [(1000, Cont.cells 141 (skTys (skNext (skNext (walkS b (skNext s) k.1).2))))] (c_Below (skNext (walkS b (skNext s) k.1).2) hw3 _) rfl rfl (by repeat (first | exact cv_nil | refine cv_cons ?_ ?_ | exact cv_ptr List.mem_cons_self | exact cv_pub rfl rfl)) (pre_cons (a := 1000) (b := 1000) (by exact List.mem_cons_self) rfl (cc_cells_eq (by exact List.mem_cons_self) rfl rfl rfl) pre_nil) (post_cons (a := 1000) (b := 1000) (by exact List.mem_cons_self) rfl (cc_cells_eq (by exact List.mem_cons_self) rfl rfl rfl) post_nil) (cv_pub rfl rfl) ?_
      refine r_build rfl rfl (by exact List.cons_ne_nil _ _) rfl (by repeat (first | exact (Parts.nil : Parts _ _ [] _) | (show Parts _ _ ((_, _) :: _) _; apply Parts.one; (· exact (rfl : _ = Ty.int _ _)); (· exact rfl)))) (by exact (rfl : _ = some [_, _])) ?_
      refine r_alloc rfl (by exact List.cons_ne_nil _ _) rfl ?_
      refine r_storeN rfl rfl (by decide) rfl rfl rfl rfl rfl rfl ?_
      refine r_nil ?_
      refine ⟨by kernel_rfl, ?_⟩
      refine i_then ?_
      refine t_seq ?_
      refine t_draw mixed rfl ?_
      refine r_load_ppN rfl rfl rfl (by exact Nat.le_of_ble_eq_true rfl) ?_
      refine mvR rfl ?_
      refine r_callGL [43] 32 (k_Clone_tur (walkS b (skNext s) k.1).1 (by omega)) rfl (by repeat (first | exact lends_nil | refine lends_cons (lend_row rfl) ?_)) plain_TurE (by decide) (by decide) rfl ?_
      refine r_load_ptrN rfl rfl (by decide) rfl rfl (by exact Nat.le_of_ble_eq_true rfl) ?_
      refine r_buildSlice (E := TurE) (xs := [tryT b (walkS b (skNext s) k.1).2]) rfl rfl rfl rfl rfl (by decide) (by decide) (by repeat (first | exact (Parts.nil : Parts _ _ [] _) | (show Parts _ _ ((_, _) :: _) _; apply Parts.agg; (· exact (rfl : _ = Ty.agg _))))) (by exact rfl) rfl ?_
      refine r_append rfl rfl (by decide) rfl rfl rfl rfl rfl rfl (by decide) (by (simp <;> omega)) (by (simp <;> omega)) ?_
      refine r_callL [32] (c_ldoneP b hs ((walkS b (skNext s) k.1).1 ++ [tryT b (walkS b (skNext s) k.1).2]) (by rw [List.length_append, List.length_singleton]; omega)) rfl (by repeat (first | exact lends_nil | refine lends_cons (lend_pub rfl rfl) ?_ | refine lends_cons (lend_row rfl) ?_)) (plain_tup (plain_cons plain_any (plain_cons (plain_bool _) plain_nil))) ?_
      refine mvT rfl ?_
      refine r_extract rfl rfl ?_
      refine r_extract rfl rfl ?_
      refine r_assign (ty := Ty.any) rfl ?_
      refine asB rfl ?_
      refine r_nil ?_
      refine ⟨by kernel_rfl, ?_⟩
      refine i_then ?_
      refine t_seq ?_
      refine t_forget (B := live [(0, Ty.ptr 1000 0), (4, Ty.pp (barnTys b)), (7, Ty.row TurE 55 43 (walkS b (skNext s) k.1).1), (8, Ty.ptr 9 0), (10, Ty.bool (lawV b ((walkS b (skNext s) k.1).1 ++ [tryT b (walkS b (skNext s) k.1).2])).2), (14, Ty.int .i64 (walkN s most : Nat)), (15, Ty.int .i64 (k.1 : Nat))] [(9, Cont.cells 55 (TurE.tys (tryT b (walkS b (skNext s) k.1).2))), (1000, Cont.cells 141 (skTys (walkS b (skNext s) (k.1 + 1)).2))]) ?_ ?_
      · (refine Ent.mk' ?_ ?_ <;> (repeat' (first | exact allSub_zero | exact allTags_nil | refine allSub_succ' ?_ (Ty.sub_any _) | refine allSub_succ' ?_ (Ty.sub_refl _) | refine allTags_cons rfl (Cont.sub_refl _) ?_)))
      refine t_region ?_
      refine mvB rfl ?_
      refine r_nil ?_
      refine i_then ?_
      refine t_cond rfl (fun hc2 => ?_) (fun hc2 => ?_)
      ·
        refine t_region ?_
        refine mvR rfl ?_
        refine r_load_ptrN rfl rfl (by decide) rfl rfl (by exact Nat.le_of_ble_eq_true rfl) ?_
        refine r_buildSlice (E := TurE) (xs := [tryT b (walkS b (skNext s) k.1).2]) rfl rfl rfl rfl rfl (by decide) (by decide) (by repeat (first | exact (Parts.nil : Parts _ _ [] _) | (show Parts _ _ ((_, _) :: _) _; apply Parts.agg; (· exact (rfl : _ = Ty.agg _))))) (by exact rfl) rfl ?_
        refine r_append rfl rfl (by decide) rfl rfl rfl rfl rfl rfl (by decide) (by (simp <;> omega)) (by (simp <;> omega)) ?_
        refine asR rfl ?_
        refine r_nil ?_
        refine i_block ?_
        refine i_then ?_
        refine t_region ?_
        refine r_add rfl rfl (by omega) (by omega) ?_
        refine mvI rfl ?_
        refine r_nil ?_
        refine i_round (⟨k.1 + 1, by omega⟩) ?_ (by show walkN s most - (k.1 + 1) < walkN s most - k.1; omega)
        (refine Ent.mk' ?_ ?_ <;> (repeat' (first | exact allSub_zero | exact allTags_nil | refine allSub_succ' ?_ (Ty.sub_any _) | refine allSub_succ' ?_ (Ty.sub_refl _) | refine allTags_cons rfl (Cont.sub_refl _) ?_ | refine allSub_succ' ?_ ?_)))
        all_goals skip
        all_goals exact Ty.sub_row (walk_yes hc2)
      ·
        refine t_skip ?_
        refine i_block ?_
        refine i_then ?_
        refine t_region ?_
        refine r_add rfl rfl (by omega) (by omega) ?_
        refine mvI rfl ?_
        refine r_nil ?_
        refine i_round (⟨k.1 + 1, by omega⟩) ?_ (by show walkN s most - (k.1 + 1) < walkN s most - k.1; omega)
        (refine Ent.mk' ?_ ?_ <;> (repeat' (first | exact allSub_zero | exact allTags_nil | refine allSub_succ' ?_ (Ty.sub_any _) | refine allSub_succ' ?_ (Ty.sub_refl _) | refine allTags_cons rfl (Cont.sub_refl _) ?_ | refine allSub_succ' ?_ ?_)))
        all_goals skip
        all_goals exact Ty.sub_row (walk_no hc2)
    ·
      refine t_exit ?_
      refine i_then_exit ?_
      refine i_then_exit ?_
      refine i_block_exit rfl ?_
      refine i_then ?_
      refine t_seq ?_
      obtain ⟨k, hk⟩ := k
      obtain rfl : k = walkN s most := by have h1 : ¬ (k : Int) < (walkN s most : Int) := hc1; have h2 : k ≤ walkN s most := hk; omega
      refine t_region ?_
      refine mvR rfl ?_
      refine asR rfl ?_
      refine r_nil ?_
      refine i_then ?_
      refine t_ret ?_
      refine g_ret1 [1000] rfl rfl (by decide) (by repeat (first | exact rc_nil | refine rc_cons rfl (cc_cells_eq (by decide) rfl rfl rfl) ?_)) ?_
      all_goals exact rg_row (by decide) rfl rfl
      all_goals trace_state
end Go.Proofs.Ytpnndljmhpepgaa

namespace Go.Proofs.Ytpnndljmhpepgaa
open Go Go.T
def apartP (b : Barn) (p : Pl) : Prop := ∀ i k, i < b.lots.length → k < b.lots.length → nth p.1 i = nth p.1 k → i = k
theorem apart_moved {b : Barn} (h6 : b.lots.length ≤ 6) {p : Pl} {t : Tur} (h : apartP b p) (ht : t ∈ turnsL b p) : apartP b (moved p t) := fun i k hi hk e => by
  rw [moved_nth (by omega), moved_nth (by omega)] at e
  have h1 := mem_turnsL.1 ht
  have hn : ∀ j, j < b.lots.length → nth p.1 j ≠ t.aim := fun j hj e => by
    have := (taken_iff h6).2 ⟨j, hj, e⟩
    rw [h1.2.2.2.2.1] at this; cases this
  by_cases e1 : t.lot.toNat = i
  · by_cases e2 : t.lot.toNat = k
    · omega
    · rw [if_pos e1, if_neg e2] at e; exact absurd e.symm (hn k hk)
  · by_cases e2 : t.lot.toNat = k
    · rw [if_neg e1, if_pos e2] at e; exact absurd e (hn i hi)
    · rw [if_neg e1, if_neg e2] at e; exact h i k hi hk e
theorem goP_cons {b : Barn} {p q : Pl} {t : Tur} {l : List Tur} (h : goP b p (t :: l) = some q) : t ∈ turnsL b p ∧ goP b (moved p t) l = some q := by
  have h : (if t ∈ turnsL b p then goP b (moved p t) l else none) = some q := h
  by_cases hu : t ∈ turnsL b p
  · rw [if_pos hu] at h; exact ⟨hu, h⟩
  · rw [if_neg hu] at h; cases h
theorem goP_cons' {b : Barn} {p : Pl} {t : Tur} {l : List Tur} (h : t ∈ turnsL b p) : goP b p (t :: l) = goP b (moved p t) l := if_pos h
theorem apart_go {b : Barn} (h6 : b.lots.length ≤ 6) : ∀ (l : List Tur) {p q : Pl}, apartP b p → goP b p l = some q → apartP b q
  | [], p, q, h, e => by injection e with e; rw [← e]; exact h
  | t :: l, p, q, h, e => by
    obtain ⟨h1, h2⟩ := goP_cons e
    exact apart_go h6 l (apart_moved h6 h h1) h2
theorem first_nth {b : Barn} (h6 : b.lots.length ≤ 6) {i : Nat} (hi : i < b.lots.length) : nth (firstP b).1 i = (nth b.lots i).inn := by
  rw [← nth_take (n := b.lots.length) hi, first_inn h6]
  unfold innL
  rw [nth_lt (by rw [List.length_map]; exact hi), nth_lt hi, List.getElem_map]
theorem apart_first {b : Barn} (hr : b.Right) : apartP b (firstP b) := fun i k hi hk e => by
  rw [first_nth hr.lots hi, first_nth hr.lots hk] at e
  rcases Nat.lt_trichotomy i k with h | h | h
  · exact absurd e.symm (hr.apart k i h hk).1
  · exact h
  · exact absurd e (hr.apart i k h hi).1
theorem go_stay {b : Barn} {i : Nat} (hi : i < 6) : ∀ (l : List Tur) {p q : Pl}, goP b p l = some q → (∀ t ∈ l, t.lot ≠ i) → nth q.1 i = nth p.1 i
  | [], p, q, e, _ => by injection e with e; rw [e]
  | t :: l, p, q, e, h => by
    obtain ⟨h1, h2⟩ := goP_cons e
    have h3 := mem_turnsL.1 h1
    have h4 := h t List.mem_cons_self
    rw [go_stay hi l h2 fun u hu => h u (List.mem_cons_of_mem _ hu), moved_nth hi, if_neg (by omega)]
theorem made_at {b : Barn} {q : Pl} (h : madeP b q = true) {i : Nat} (hi : i < b.lots.length) : (nth b.lots i).aim = -1 ∨ (nth b.lots i).aim = nth q.1 i := by
  unfold madeP at h
  have := List.all_eq_true.1 h i (List.mem_range.2 hi)
  simpa using this
theorem must_turned {b : Barn} (hr : b.Right) {l : List Tur} {q : Pl} (hg : goP b (firstP b) l = some q) (hm : madeP b q = true) {i : Nat} (hi : i < b.lots.length) (h : mustI b i = true) : ∃ t ∈ l, t.lot = i := by
  apply Classical.byContradiction
  intro hno
  have h6 := hr.lots
  have hs := go_stay (by omega) l hg fun t ht e => hno ⟨t, ht, e⟩
  rw [first_nth h6 hi] at hs
  have ha := apart_go h6 l (apart_first hr) hg
  have hin := hr.inn _ (nth_mem hi)
  have hmi := made_at hm hi
  unfold mustI at h
  simp only [Bool.or_eq_true, Bool.and_eq_true, Bool.not_eq_true', decide_eq_false_iff_not, decide_eq_true_eq] at h
  rcases h with ⟨h1, h2⟩ | ⟨h1, h2⟩
  · rcases hmi with e | e
    · exact h1 e
    · exact h2 (e.trans hs)
  · unfold Barn.wanted at h2
    obtain ⟨x, hx, e⟩ := List.any_eq_true.1 h2
    obtain ⟨k, hk, rfl⟩ := mem_nth hx
    have e := of_decide_eq_true e
    rcases made_at hm hk with e' | e'
    · omega
    · have := ha i k hi hk (by rw [hs, ← e, e'])
      subst this; omega
theorem filtUp_nodup (p : Nat → Bool) (n : Nat) : (filtUp p n).Nodup := by
  unfold filtUp
  rw [List.nodup_iff_pairwise_ne, List.pairwise_map]
  have h : ((List.range n).filter p).Pairwise fun a c => a ≠ c := List.Pairwise.filter _ (List.nodup_iff_pairwise_ne.1 List.nodup_range)
  exact h.imp fun hne e => hne (by omega)
structure Cheap (b : Barn) (c : Tur → Int) (e : Int) (l : List Tur) (n : Int) : Prop where
  err : e = 0 ∨ e = 7
  yes : e = 0 → rightV b l = true ∧ costL c l = n ∧ ∀ x, rightV b x = true → n ≤ costL c x
  no : e = 7 → l = [] ∧ n = 0 ∧ ∀ x, rightV b x = false
theorem cheap {b : Barn} {c : Tur → Int} (hr : b.Right) (hc : CostOk b c) : Cheap b c (planE b c) (planR b c) (costR b c) := by
  have h0 := right_check hr
  have hp := plan_spec hr hc
  have h6 := hr.lots
  unfold planE planR costR
  rw [if_pos h0, if_pos h0, if_pos h0]
  cases hi : (searchM b c false).is with
  | true =>
    rw [if_pos rfl]
    refine ⟨.inl rfl, fun _ => ?_, fun e => by cases e⟩
    obtain ⟨q, h1, h2, h3, h4⟩ := hp.yes hi
    refine ⟨(right_iff h6).2 ⟨q, h1, h2⟩, h3, fun x hx => ?_⟩
    obtain ⟨q', g1, g2⟩ := (right_iff h6).1 hx
    exact h4 x q' g1 g2
  | false =>
    rw [if_neg (by decide)]
    refine ⟨.inr rfl, (fun e => by cases e), fun _ => ⟨if_neg (by rw [hi]; decide), if_neg (by rw [hi]; decide), fun x => ?_⟩⟩
    rw [Bool.eq_false_iff]; intro hx
    obtain ⟨q', g1, g2⟩ := (right_iff h6).1 hx
    have := hp.no hi x q' g1
    rw [g2] at this; cases this
theorem cost_one (l : List Tur) : costL oneC l = l.length := by
  unfold costL oneC
  induction l with
  | nil => rfl
  | cons t l ih => rw [List.map_cons, List.sum_cons, ih, List.length_cons]; omega
def leastUp (b : Barn) (l : List Int) (k : Nat) : Int := ((l.take k).map fun (i : Int) => (nth b.lots i.toNat).sacks).sum
theorem must_in (b : Barn) : ∀ i ∈ mustL b, 0 ≤ i ∧ i < b.lots.length := fun i hi => by
  obtain ⟨k, hk, _, rfl⟩ := filtUp_mem.1 hi; omega
end Go.Proofs.Ytpnndljmhpepgaa

namespace Go.Proofs.Ytpnndljmhpepgaa
open Go Go.T
set_option maxHeartbeats 4000000
theorem fill_ok8 (g : List Int) : (skFill g).Ok 1000 := by have h := skFill_ok g; unfold Sk.Ok at *; omega
def walksE (b : Barn) (s : Sk) (most : Int) : Nat → Sk
  | 0 => s
  | k + 1 => walkE b (walksE b s most k) most
theorem walks_taken (b : Barn) (s : Sk) {most : Int} (hm : 0 ≤ most) : ∀ k : Nat, s.taken ≤ (walksE b s most k).taken ∧ (walksE b s most k).taken ≤ s.taken + k * (1 + 2 * most)
  | 0 => ⟨Int.le_refl _, by simp [walksE]⟩
  | k + 1 => by
    have h1 := walks_taken b s hm k
    have h2 := (walk_ok b (walksE b s most k) hm).taken
    have e : ((k + 1 : Nat) : Int) * (1 + 2 * most) = (k : Int) * (1 + 2 * most) + (1 + 2 * most) := by rw [Int.natCast_add, Int.add_mul]; simp
    show s.taken ≤ (walkE b (walksE b s most k) most).taken ∧ (walkE b (walksE b s most k) most).taken ≤ _
    omega
theorem walks_ok (b : Barn) (t : List Int) {k : Nat} (hk : k ≤ 10) : (walksE b (skFill t) 9 k).Ok 2000 := by
  have h1 := walks_taken b (skFill t) (most := 9) (by omega) k
  have h2 := skFill_ok t
  unfold Sk.Ok at *; omega
theorem must_len (b : Barn) : (mustL b).length ≤ b.lots.length := filtUp_len _ _
theorem planR_len {b : Barn} {c : Tur → Int} (hr : b.Right) (hc : CostOk b c) : (planR b c).length ≤ 400000000 := by
  unfold planR planV
  rw [if_pos (right_check hr)]
  cases hi : (searchM b c false).is with
  | true => rw [if_pos rfl]; exact plan_len hr hc hi
  | false => rw [if_neg (by decide)]; simp
attribute [local irreducible] planR planE costR walkP walkE sumUp leastUp rightV mustL checkB
attribute [local irreducible] dInt dBool dSl dPp dPtr dAgg dTup dClo dAny dEx dStr dGd dCells dVec dVs dRow dOp nth Tri Into TOps Ctr bodyPost Exit.then Exit.inBlock Code.wp Code.wpIn dWhen dPa dPe dAo dArr dMp dPm dMap dCJ CtrG CtrI OpY keepPost iterPost bodyPostM roundQ
end Go.Proofs.Ytpnndljmhpepgaa

namespace Go.T
open Go Go.RowKit
theorem Ty.row_vs {α : Type} {E : El α} {T tg n : Nat} {xs : List α} (hn : xs.length = n) : (Ty.row E T tg xs).Sub (Ty.vs tg n) := fun w M v ⟨cs, h1, h2, h3⟩ => by
  subst hn
  rcases h1.2 with ⟨e, h0⟩ | ⟨g, cap, cur, ex, _, hh, hn1, hcap, _, htk⟩
  · exact .inl ⟨h0, e⟩
  · exact .inr ⟨g, cap, h3 g (by rw [ex]; rfl), ex, hn1, hcap⟩
theorem Cont.sub_cellsL {T : Nat} {l l' : List Ty} (h : SubL l l') : (Cont.cells T l).Sub (Cont.cells T l') := fun _ _ _ ⟨b, cs, h1, h2, h3⟩ => ⟨b, cs, h1, h2, subL_dens h h3⟩
end Go.T

namespace Go.Proofs.Ytpnndljmhpepgaa
open Go Go.T
variable {b : Barn} {g : Int}
theorem goR_cons {p q : Pl} {l : List Tur} {rs : List (List Tur)} (h : goR b g p (l :: rs) = some q) : l ∈ allR b p g ∧ goR b g (movedAll p l) rs = some q := by
  have h : (if l ∈ allR b p g then goR b g (movedAll p l) rs else none) = some q := h
  by_cases hu : l ∈ allR b p g
  · rw [if_pos hu] at h; exact ⟨hu, h⟩
  · rw [if_neg hu] at h; cases h
theorem goR_cons' {p : Pl} {l : List Tur} {rs : List (List Tur)} (h : l ∈ allR b p g) : goR b g p (l :: rs) = goR b g (movedAll p l) rs := if_pos h
theorem goR_flat (h6 : b.lots.length ≤ 6) (hg : 0 ≤ g) : ∀ (rs : List (List Tur)) {p q : Pl}, goR b g p rs = some q → goP b p rs.flatten = some q
  | [], p, q, h => h
  | l :: rs, p, q, h => by
    obtain ⟨h1, h2⟩ := goR_cons h
    rw [List.flatten_cons, goP_append, round_go h6 l ((mem_allR hg).1 h1)]
    exact goR_flat h6 hg rs h2
theorem one_round {p : Pl} {t : Tur} (hg : 1 ≤ g) (h : t ∈ turnsL b p) : [t] ∈ allR b p g := by
  rw [mem_allR (by omega)]
  have := mem_turnsL.1 h
  refine ⟨by simpa using hg, fun u hu => ?_, List.pairwise_singleton _ _⟩
  rw [List.mem_singleton.1 hu]
  exact ⟨⟨this.1, this.2.1⟩, ⟨this.2.2.1, this.2.2.2.1⟩, this.2.2.2.2.1, this.2.2.2.2.2⟩
theorem goR_singles (hg : 1 ≤ g) : ∀ (l : List Tur) {p q : Pl}, goP b p l = some q → goR b g p (l.map fun t => [t]) = some q
  | [], p, q, h => h
  | t :: l, p, q, h => by
    obtain ⟨h1, h2⟩ := goP_cons h
    rw [List.map_cons, goR_cons' (one_round hg h1)]
    exact goR_singles hg l h2
theorem goR_more {g' : Int} (hg : 0 ≤ g) (hgg : g ≤ g') : ∀ (rs : List (List Tur)) {p q : Pl}, goR b g p rs = some q → goR b g' p rs = some q
  | [], p, q, h => h
  | l :: rs, p, q, h => by
    obtain ⟨h1, h2⟩ := goR_cons h
    have h3 := (mem_allR hg).1 h1
    rw [goR_cons' ((mem_allR (by omega)).2 ⟨by have := h3.len; omega, h3.ok, h3.apart⟩)]
    exact goR_more hg hgg rs h2
theorem goR_rows (hg : 0 ≤ g) : ∀ (rs : List (List Tur)) {p q : Pl}, goR b g p rs = some q → ∀ l ∈ rs, (l.length : Int) ≤ g
  | [], p, q, _, l, hl => by cases hl
  | r :: rs, p, q, h, l, hl => by
    obtain ⟨h1, h2⟩ := goR_cons h
    rcases List.mem_cons.1 hl with rfl | hl
    · exact ((mem_allR hg).1 h1).len
    · exact goR_rows hg rs h2 l hl
theorem flat_le (hg : 0 ≤ g) : ∀ (rs : List (List Tur)), (∀ l ∈ rs, (l.length : Int) ≤ g) → (rs.flatten.length : Int) ≤ rs.length * g
  | [], _ => by simp
  | l :: rs, h => by
    have h1 := h l List.mem_cons_self
    have h2 := flat_le hg rs fun r hr => h r (List.mem_cons_of_mem _ hr)
    rw [List.flatten_cons, List.length_append, List.length_cons]
    have e : (((rs.length + 1 : Nat) : Int)) * g = rs.length * g + g := by rw [Int.natCast_add, Int.add_mul]; simp
    rw [e]; omega
structure Rnds (b : Barn) (g e : Int) (rs : List (List Tur)) : Prop where
  err : e = 0 ∨ e = 7
  yes : e = 0 → ∃ q, goR b g (firstP b) rs = some q ∧ madeP b q = true ∧ ∀ rs' q', goR b g (firstP b) rs' = some q' → madeP b q' = true → rs.length ≤ rs'.length
  no : e = 7 → rs = [] ∧ ∀ rs' q, goR b g (firstP b) rs' = some q → madeP b q = false
section
variable {e e' n : Int} {l : List Tur} {rs rs' : List (List Tur)}
theorem Rnds.same (h : Rnds b g e' rs) (h6 : b.lots.length ≤ 6) (hg : 1 ≤ g) (hc : Cheap b oneC e l n) : e' = e := by
  rcases h.err with rfl | rfl
  · rcases hc.err with rfl | rfl
    · rfl
    · obtain ⟨q, h1, h2, _⟩ := h.yes rfl
      have := (hc.no rfl).2.2 rs.flatten
      rw [(right_iff h6).2 ⟨q, goR_flat h6 (by omega) rs h1, h2⟩] at this; cases this
  · rcases hc.err with rfl | rfl
    · obtain ⟨q, h1, h2⟩ := (right_iff h6).1 (hc.yes rfl).1
      have := (h.no rfl).2 _ q (goR_singles hg l h1)
      rw [h2] at this; cases this
    · rfl
theorem Rnds.right (h : Rnds b g 0 rs) (h6 : b.lots.length ≤ 6) (hg : 1 ≤ g) : rightV b rs.flatten = true := by
  obtain ⟨q, h1, h2, _⟩ := h.yes rfl
  exact (right_iff h6).2 ⟨q, goR_flat h6 (by omega) rs h1, h2⟩
theorem Rnds.few (h : Rnds b g 0 rs) (h6 : b.lots.length ≤ 6) (hg : 1 ≤ g) (hc : Cheap b oneC 0 l n) : n ≤ rs.length * g ∧ (rs.length : Int) ≤ n := by
  obtain ⟨q, h1, h2, h3⟩ := h.yes rfl
  obtain ⟨c1, c2, c3⟩ := hc.yes rfl
  rw [cost_one] at c2
  constructor
  · have h4 := c3 _ (h.right h6 hg)
    rw [cost_one] at h4
    have := flat_le (by omega) rs (goR_rows (by omega) rs h1)
    omega
  · obtain ⟨q', g1, g2⟩ := (right_iff h6).1 c1
    have := h3 _ q' (goR_singles hg l g1) g2
    rw [List.length_map] at this; omega
theorem Rnds.less (h : Rnds b g 0 rs) (h' : Rnds b (g + 1) 0 rs') (hg : 1 ≤ g) : rs'.length ≤ rs.length := by
  obtain ⟨q, h1, h2, _⟩ := h.yes rfl
  obtain ⟨_, _, _, h3⟩ := h'.yes rfl
  exact h3 _ q (goR_more (by omega) (by omega) rs h1) h2
end
def listsM (m : Nat) : Nat → List (List Int)
  | 0 => [[]]
  | n + 1 => (List.range m).flatMap fun (k : Nat) => (listsM m n).map fun l => (k : Int) :: l
theorem go_tail {b : Barn} : ∀ (l : List Tur) {p q : Pl}, goP b p l = some q → q.1.drop b.lots.length = p.1.drop b.lots.length
  | [], p, q, h => by injection h with h; rw [h]
  | t :: l, p, q, h => by
    obtain ⟨h1, h2⟩ := goP_cons h
    have h3 := mem_turnsL.1 h1
    rw [go_tail l h2]
    unfold moved
    exact List.drop_set_of_lt (by omega)
theorem first_named {b : Barn} (hr : b.Right) : ∀ i, i < b.lots.length → 0 ≤ nth (firstP b).1 i ∧ nth (firstP b).1 i < b.sizes.length := fun i hi => by
  rw [first_nth hr.lots hi]; exact hr.inn _ (nth_mem hi)
def ordB (l : List Tur) : Bool := (List.range (l.length - 1)).any fun i => decide ((nth l (i + 1)).lot ≤ (nth l i).lot)
def twI (b : Barn) (p : Pl) (l : List Tur) (i : Nat) : Bool := takenP b p (nth l i).aim || (l.take i).any fun u => decide (u.aim = (nth l i).aim)
def twB (b : Barn) (p : Pl) (l : List Tur) : Bool := (List.range l.length).any fun i => twI b p l i
def roundE (b : Barn) (p : Pl) (g : Int) (l : List Tur) : Int :=
  if (!l.all fun t => b.lot t.lot && b.bin t.aim) = true then 1 else if ordB l = true then 4 else if twB b p l = true then 5 else if (!l.all fun t => b.hold t.aim t.lot) = true then 9 else if (l.length : Int) > g then 2 else 0
def worksGo (b : Barn) (g : Int) : Pl → List (List Tur) → Bool × Int
  | p, [] => (madeP b p, 0)
  | p, l :: rs => if roundE b p g l = 0 then worksGo b g (movedAll p l) rs else (false, roundE b p g l)
def worksV (b : Barn) (g : Int) (rs : List (List Tur)) : Bool × Int := if askE b g = 0 then if (rs.length : Int) > 6000 then (false, 2) else worksGo b g (firstP b) rs else (false, askE b g)
structure WIx (b : Barn) (g : Int) (rs : List (List Tur)) (k : Nat) (p : Pl) : Prop where
  same : worksGo b g (firstP b) rs = worksGo b g p (rs.drop k)
  le : k ≤ rs.length
theorem WIx.next {rs : List (List Tur)} {k : Nat} {p : Pl} (h : WIx b g rs k p) (hk : k < rs.length) (he : roundE b p g (nth rs k) = 0) : WIx b g rs (k + 1) (movedAll p (nth rs k)) :=
  ⟨by rw [h.same, drop_nth hk]; exact if_pos he, hk⟩
theorem WIx.end {rs : List (List Tur)} {k : Nat} {p : Pl} (h : WIx b g rs k p) (hk : rs.length ≤ k) : worksGo b g (firstP b) rs = (madeP b p, 0) := by
  rw [h.same, List.drop_of_length_le hk]; rfl
end Go.Proofs.Ytpnndljmhpepgaa

namespace Go.Proofs.Ytpnndljmhpepgaa
open Go Go.T
def putP (b : Barn) (p : Pl) : Barn := ⟨b.sizes, (List.range b.lots.length).map fun i => ⟨(nth b.lots i).sacks, nth p.1 i, (nth b.lots i).aim⟩⟩
variable {b : Barn} {p q : Pl} {t : Tur}
theorem put_len (b : Barn) (p : Pl) : (putP b p).lots.length = b.lots.length := by simp [putP]
theorem put_nth {i : Nat} (hi : i < b.lots.length) : nth (putP b p).lots i = ⟨(nth b.lots i).sacks, nth p.1 i, (nth b.lots i).aim⟩ := by
  unfold putP
  show nth ((List.range b.lots.length).map _) i = _
  rw [nth_lt (by simpa using hi), List.getElem_map, List.getElem_range]
theorem put_mem (r : Pl) : t ∈ turnsL (putP b p) r ↔ t ∈ turnsL b r := by
  rw [mem_turnsL, mem_turnsL, put_len]
  have e : takenP (putP b p) r t.aim = takenP b r t.aim := by unfold takenP; rw [put_len]
  rw [e]
  constructor
  · rintro ⟨h1, h2, h3, h4, h5, h6⟩
    refine ⟨h1, h2, h3, h4, h5, ?_⟩
    unfold Barn.hold at h6 ⊢
    rw [put_nth (by omega)] at h6; exact h6
  · rintro ⟨h1, h2, h3, h4, h5, h6⟩
    refine ⟨h1, h2, h3, h4, h5, ?_⟩
    unfold Barn.hold at h6 ⊢
    rw [put_nth (by omega)]; exact h6
theorem goP_same {b c : Barn} (h : ∀ t r, t ∈ turnsL c r ↔ t ∈ turnsL b r) : ∀ (l : List Tur) (r : Pl), goP c r l = goP b r l
  | [], r => rfl
  | t :: l, r => by
    by_cases e : t ∈ turnsL b r
    · rw [goP_cons' e, goP_cons' ((h t r).2 e)]; exact goP_same h l _
    · have h1 : goP b r (t :: l) = none := if_neg e
      have h2 : goP c r (t :: l) = none := if_neg fun h' => e ((h t r).1 h')
      rw [h1, h2]
theorem goP_put (l : List Tur) (r : Pl) : goP (putP b p) r l = goP b r l := goP_same (fun _ r => put_mem r) l r
theorem made_put (r : Pl) : madeP (putP b p) r = madeP b r := by
  unfold madeP
  rw [put_len, Bool.eq_iff_iff, List.all_eq_true, List.all_eq_true]
  have key : ∀ i, i ∈ List.range b.lots.length → (decide ((nth (putP b p).lots i).aim = -1) || decide ((nth (putP b p).lots i).aim = nth r.1 i)) = (decide ((nth b.lots i).aim = -1) || decide ((nth b.lots i).aim = nth r.1 i)) := fun i hi => by
    rw [put_nth (List.mem_range.1 hi)]
  exact ⟨fun H i hi => by rw [← key i hi]; exact H i hi, fun H i hi => by rw [key i hi]; exact H i hi⟩
def backL : Pl → List Tur → List Tur
  | _, [] => []
  | p, t :: l => ⟨t.lot, nth p.1 t.lot.toNat⟩ :: backL (moved p t) l
structure VP (b : Barn) (p : Pl) : Prop where
  apart : apartP b p
  named : ∀ i, i < b.lots.length → 0 ≤ nth p.1 i ∧ nth p.1 i < b.sizes.length
  holds : ∀ i, i < b.lots.length → (nth b.lots i).sacks ≤ nth b.sizes (nth p.1 i).toNat
theorem vp_first (hr : b.Right) : VP b (firstP b) := ⟨apart_first hr, first_named hr, fun i hi => by rw [first_nth hr.lots hi]; exact (hr.holds i hi).1⟩
theorem vp_moved (h6 : b.lots.length ≤ 6) (h : VP b p) (ht : t ∈ turnsL b p) : VP b (moved p t) := by
  have h3 := mem_turnsL.1 ht
  refine ⟨apart_moved h6 h.apart ht, fun i hi => ?_, fun i hi => ?_⟩
  · rw [moved_nth (by omega)]
    by_cases e : t.lot.toNat = i
    · rw [if_pos e]; exact ⟨h3.2.2.1, h3.2.2.2.1⟩
    · rw [if_neg e]; exact h.named i hi
  · rw [moved_nth (by omega)]
    by_cases e : t.lot.toNat = i
    · rw [if_pos e]
      have := h3.2.2.2.2.2
      unfold Barn.hold at this
      rw [e] at this
      exact of_decide_eq_true this
    · rw [if_neg e]; exact h.holds i hi
theorem right_put (hr : b.Right) (hv : VP b p) : (putP b p).Right := by
  have hl := put_len b p
  have key : ∀ l ∈ (putP b p).lots, ∃ i, i < b.lots.length ∧ l = ⟨(nth b.lots i).sacks, nth p.1 i, (nth b.lots i).aim⟩ := fun l h => by
    obtain ⟨i, hi, rfl⟩ := mem_nth h
    rw [hl] at hi
    exact ⟨i, hi, put_nth hi⟩
  refine ⟨hr.bins, by rw [hl]; exact hr.lots, hr.size, fun l h => ?_, fun l h => ?_, fun l h => ?_, fun i k hk hi => ?_, fun i hi => ?_⟩
  · obtain ⟨i, hi, rfl⟩ := key l h; exact hr.sacks (nth b.lots i) (nth_mem hi)
  · obtain ⟨i, hi, rfl⟩ := key l h; exact hv.named i hi
  · obtain ⟨i, hi, rfl⟩ := key l h; exact hr.aim (nth b.lots i) (nth_mem hi)
  · rw [hl] at hi
    rw [put_nth hi, put_nth (by omega)]
    exact ⟨fun e => by have := hv.apart i k hi (by omega) e; omega, (hr.apart i k hk hi).2⟩
  · rw [hl] at hi
    rw [put_nth hi]
    exact ⟨hv.holds i hi, (hr.holds i hi).2⟩
theorem firstP_put (hr : b.Right) {l : List Tur} (h : goP b (firstP b) l = some q) : firstP (putP b q) = q := by
  have h6 := hr.lots
  apply Subtype.ext
  have e1 : (firstP (putP b q)).1.take b.lots.length = q.1.take b.lots.length := by
    have := first_inn (b := putP b q) (by rw [put_len]; exact h6)
    rw [put_len] at this
    rw [this]
    unfold innL putP
    refine ext_nth (by rw [List.length_map, List.length_map, List.length_range, List.length_take, q.2]; omega) fun i hi => ?_
    simp only [List.length_map, List.length_range] at hi
    rw [nth_take hi, nth_lt (by simpa using hi)]
    simp
  have e2 : (firstP (putP b q)).1.drop b.lots.length = q.1.drop b.lots.length := by
    rw [go_tail l h]
    have hd : ∀ c : Barn, c.lots.length = b.lots.length → (firstP c).1.drop b.lots.length = (List.replicate 6 (0 : Int)).take (6 - b.lots.length) := fun c hc => by
      unfold firstP
      show List.drop _ (List.take 6 _) = _
      rw [List.drop_take, List.drop_append_of_le_length (by simp [hc]), List.drop_of_length_le (by simp [hc]), List.nil_append]
    rw [hd _ (put_len b q), hd b rfl]
  rw [← List.take_append_drop b.lots.length (firstP (putP b q)).1, e1, e2, List.take_append_drop]
theorem places_of {c : Barn} (hr : c.Right) {L : List Pl} (hn : L.Nodup) (h : ∀ r, r ∈ L ↔ ∃ l, goP c (firstP c) l = some r) : placesV c = (L.length : Nat) := by
  unfold placesV
  rw [if_pos (right_check hr)]
  obtain ⟨hs, _⟩ := search_spec hr (one_ok c) true
  have hw := (hs.whole rfl).2
  have e1 := nodup_sub hs.keys (L := L) fun r hr' => by
    obtain ⟨w, hw'⟩ := mem_mget hr'
    obtain ⟨l, hl, _⟩ := hs.walk r w hw'
    exact (h r).2 ⟨l, hl⟩
  have e2 := nodup_sub hn (L := (searchM c oneC true).ways.map Prod.fst) fun r hr' => by
    obtain ⟨l, hl⟩ := (h r).1 hr'
    obtain ⟨w, hw'⟩ := hw l r hl
    exact mget_some_mem hw'
  rw [List.length_map] at e1 e2
  congr 1
  omega
theorem reached (hr : b.Right) : ∃ L : List Pl, L.Nodup ∧ (∀ r, r ∈ L ↔ ∃ l, goP b (firstP b) l = some r) ∧ placesV b = (L.length : Nat) := by
  obtain ⟨hs, _⟩ := search_spec hr (one_ok b) true
  have hw := (hs.whole rfl).2
  have h : ∀ r, r ∈ (searchM b oneC true).ways.map Prod.fst ↔ ∃ l, goP b (firstP b) l = some r := fun r => by
    constructor
    · intro hr'
      obtain ⟨w, hw'⟩ := mem_mget hr'
      obtain ⟨l, hl, _⟩ := hs.walk r w hw'
      exact ⟨l, hl⟩
    · rintro ⟨l, hl⟩
      obtain ⟨w, hw'⟩ := hw l r hl
      exact mget_some_mem hw'
  exact ⟨_, hs.keys, h, places_of hr hs.keys h⟩
structure Backs (b : Barn) (plan : List Tur) (a : Barn) (back : List Tur) (p : List Int) : Prop where
  done : doneV b plan = (a, back, 0)
  home : doneV a back = (b, plan, 0)
  right : a.Right
  cost : costL (sackC a) back = costL (sackC b) plan
  ok : (lawV a back).2 = true
  at_ : lawV b plan = (p, true)
  sizes : a.sizes = b.sizes
  len : a.lots.length = b.lots.length
  plen : p.length = b.lots.length
  lot : ∀ i, i < b.lots.length → nth a.lots i = ⟨(nth b.lots i).sacks, nth p i, (nth b.lots i).aim⟩
  places : placesV a = placesV b
  one : 1 ≤ placesV b
  makes : makesB b plan = rightV b plan
  few : ∀ e l n e' l' n', Cheap b oneC e l n → Cheap a oneC e' l' n' → e = e' ∧ (e = 0 → n ≤ n' + plan.length ∧ n' ≤ n + plan.length)
end Go.Proofs.Ytpnndljmhpepgaa

namespace Go.Proofs.Ytpnndljmhpepgaa
open Go Go.T
def widerB (b : Barn) (n : Int) : Barn := ⟨b.sizes ++ [n], b.lots⟩
def looserB (b : Barn) (i : Nat) : Barn := ⟨b.sizes, b.lots.set i ⟨(nth b.lots i).sacks, (nth b.lots i).inn, -1⟩⟩
variable {b : Barn} {n : Int} {i : Nat}
theorem nth_left {l : List Int} (h : i < l.length) : nth (l ++ [n]) i = nth l i := by
  unfold nth; rw [List.getD_eq_getElem?_getD, List.getD_eq_getElem?_getD, List.getElem?_append_left h]
theorem wider_len (b : Barn) (n : Int) : (widerB b n).sizes.length = b.sizes.length + 1 := by
  show (b.sizes ++ [n]).length = _; rw [List.length_append]; rfl
theorem wider_right (hr : b.Right) (hl : b.sizes.length ≤ 6) (hn : 0 ≤ n ∧ n ≤ 300) : (widerB b n).Right := by
  have hb := hr.bins
  have e := wider_len b n
  refine ⟨by omega, hr.lots, fun x hx => ?_, hr.sacks, fun l hl' => ?_, fun l hl' => ?_, hr.apart, fun i hi => ?_⟩
  · rcases List.mem_append.1 (show x ∈ b.sizes ++ [n] from hx) with h | h
    · exact hr.size x h
    · rw [List.mem_singleton.1 h]; exact hn
  · have := hr.inn l hl'; omega
  · have := hr.aim l hl'; omega
  · have h1 := hr.holds i hi
    have h2 := hr.inn _ (nth_mem hi)
    have h3 := hr.aim _ (nth_mem hi)
    refine ⟨?_, fun hne => ?_⟩
    · show (nth b.lots i).sacks ≤ nth (b.sizes ++ [n]) (nth b.lots i).inn.toNat
      rw [nth_left (by omega)]; exact h1.1
    · show (nth b.lots i).sacks ≤ nth (b.sizes ++ [n]) (nth b.lots i).aim.toNat
      have hne' : (nth b.lots i).aim ≠ -1 := hne
      rw [nth_left (by omega)]; exact h1.2 hne
theorem wider_turns {p : Pl} {t : Tur} (h : t ∈ turnsL b p) : t ∈ turnsL (widerB b n) p := by
  rw [mem_turnsL] at h ⊢
  obtain ⟨h1, h2, h3, h4, h5, h6⟩ := h
  refine ⟨h1, h2, h3, by rw [wider_len]; omega, h5, ?_⟩
  unfold Barn.hold at h6 ⊢
  show decide (nth (b.sizes ++ [n]) t.aim.toNat ≥ _) = true
  rw [nth_left (by omega)]; exact h6
theorem wider_go : ∀ (l : List Tur) {p q : Pl}, goP b p l = some q → goP (widerB b n) p l = some q
  | [], _, _, h => h
  | t :: l, p, q, h => by
    obtain ⟨h1, h2⟩ := goP_cons h
    rw [goP_cons' (wider_turns h1)]; exact wider_go l h2
theorem wider_rightV (h6 : b.lots.length ≤ 6) {l : List Tur} (h : rightV b l = true) : rightV (widerB b n) l = true := by
  obtain ⟨q, h1, h2⟩ := (right_iff h6).1 h
  exact (right_iff (b := widerB b n) h6).2 ⟨q, wider_go l h1, h2⟩
theorem wider_places (hr : b.Right) (hr' : (widerB b n).Right) : placesV b ≤ placesV (widerB b n) := by
  obtain ⟨L, h1, h2, h3⟩ := reached hr
  obtain ⟨L', g1, g2, g3⟩ := reached hr'
  have := nodup_sub h1 (L := L') fun r hr0 => by
    obtain ⟨l, hl⟩ := (h2 r).1 hr0
    exact (g2 r).2 ⟨l, wider_go l hl⟩
  rw [h3, g3]; omega
theorem looser_len (b : Barn) (i : Nat) : (looserB b i).lots.length = b.lots.length := by
  show (b.lots.set _ _).length = _; rw [List.length_set]
theorem looser_nth {k : Nat} (hk : k < b.lots.length) : nth (looserB b i).lots k = if i = k then ⟨(nth b.lots k).sacks, (nth b.lots k).inn, -1⟩ else nth b.lots k := by
  have hk' : k < (b.lots.set i ⟨(nth b.lots i).sacks, (nth b.lots i).inn, -1⟩).length := by rw [List.length_set]; exact hk
  show nth (b.lots.set i _) k = _
  rw [nth_lt hk', List.getElem_set]
  by_cases e : i = k
  · subst e; rw [if_pos rfl, if_pos rfl]
  · rw [if_neg e, if_neg e, nth_lt hk]
theorem looser_sacks {k : Nat} (hk : k < b.lots.length) : (nth (looserB b i).lots k).sacks = (nth b.lots k).sacks ∧ (nth (looserB b i).lots k).inn = (nth b.lots k).inn ∧ ((nth (looserB b i).lots k).aim = (nth b.lots k).aim ∨ (nth (looserB b i).lots k).aim = -1) := by
  rw [looser_nth hk]
  by_cases e : i = k
  · rw [if_pos e]; exact ⟨rfl, rfl, .inr rfl⟩
  · rw [if_neg e]; exact ⟨rfl, rfl, .inl rfl⟩
theorem looser_mem {l : Lot} (h : l ∈ (looserB b i).lots) : ∃ k, k < b.lots.length ∧ l.sacks = (nth b.lots k).sacks ∧ l.inn = (nth b.lots k).inn ∧ (l.aim = (nth b.lots k).aim ∨ l.aim = -1) := by
  obtain ⟨k, hk, rfl⟩ := mem_nth h
  rw [looser_len] at hk
  exact ⟨k, hk, looser_sacks hk⟩
theorem looser_right (hr : b.Right) (i : Nat) : (looserB b i).Right := by
  have e := looser_len b i
  have hb := hr.bins
  refine ⟨hr.bins, by rw [e]; exact hr.lots, hr.size, fun l hl => ?_, fun l hl => ?_, fun l hl => ?_, fun x k hk hx => ?_, fun k hk => ?_⟩
  · obtain ⟨k, hk, h1, _, _⟩ := looser_mem hl
    rw [h1]; exact hr.sacks _ (nth_mem hk)
  · obtain ⟨k, hk, _, h1, _⟩ := looser_mem hl
    rw [h1]; exact hr.inn _ (nth_mem hk)
  · obtain ⟨k, hk, _, _, h1⟩ := looser_mem hl
    have h2 := hr.aim _ (nth_mem hk)
    show -1 ≤ l.aim ∧ l.aim < (b.sizes.length : Int)
    omega
  · rw [e] at hx
    obtain ⟨_, h2, h3⟩ := looser_sacks (i := i) (k := x) hx
    obtain ⟨_, g2, g3⟩ := looser_sacks (b := b) (i := i) (k := k) (by omega)
    have h4 := hr.apart x k hk hx
    rw [h2, g2]
    refine ⟨h4.1, fun e' => ?_⟩
    rcases h3 with h3 | h3
    · rcases g3 with g3 | g3
      · rw [h3]; exact h4.2 (by rw [← h3, ← g3]; exact e')
      · rw [e']; exact g3
    · exact h3
  · rw [e] at hk
    obtain ⟨h1, h2, h3⟩ := looser_sacks (i := i) (k := k) hk
    have h4 := hr.holds k hk
    rw [h1, h2]
    refine ⟨h4.1, fun hne => ?_⟩
    rcases h3 with h3 | h3
    · rw [h3] at hne ⊢; exact h4.2 hne
    · exact absurd h3 hne
theorem looser_turns {p : Pl} {t : Tur} : t ∈ turnsL (looserB b i) p ↔ t ∈ turnsL b p := by
  rw [mem_turnsL, mem_turnsL, looser_len]
  have h1 : takenP (looserB b i) p t.aim = takenP b p t.aim := by unfold takenP; rw [looser_len]
  rw [h1]
  have h2 : 0 ≤ t.lot → t.lot < b.lots.length → Barn.hold (looserB b i) t.aim t.lot = b.hold t.aim t.lot := fun h0 h => by
    unfold Barn.hold
    rw [(looser_sacks (i := i) (k := t.lot.toNat) (by omega)).1]; rfl
  constructor
  · rintro ⟨a1, a2, a3, a4, a5, a6⟩; exact ⟨a1, a2, a3, a4, a5, (h2 a1 a2).symm.trans a6⟩
  · rintro ⟨a1, a2, a3, a4, a5, a6⟩; exact ⟨a1, a2, a3, a4, a5, (h2 a1 a2).trans a6⟩
theorem looser_go : ∀ (l : List Tur) {p q : Pl}, goP b p l = some q → goP (looserB b i) p l = some q
  | [], _, _, h => h
  | t :: l, p, q, h => by
    obtain ⟨h1, h2⟩ := goP_cons h
    rw [goP_cons' (looser_turns.2 h1)]; exact looser_go l h2
theorem looser_first (b : Barn) (i : Nat) : firstP (looserB b i) = firstP b := by
  apply Subtype.ext
  show List.take 6 (((looserB b i).lots.map fun (l : Lot) => l.inn) ++ _) = List.take 6 ((b.lots.map fun (l : Lot) => l.inn) ++ _)
  congr 2
  apply List.ext_getElem
  · rw [List.length_map, List.length_map, looser_len]
  · intro k h1 h2
    rw [List.length_map] at h2
    rw [List.length_map] at h1
    rw [List.getElem_map, List.getElem_map, ← nth_lt h1, ← nth_lt h2]
    exact (looser_sacks h2).2.1
theorem looser_rightV (h6 : b.lots.length ≤ 6) {l : List Tur} (h : rightV b l = true) : rightV (looserB b i) l = true := by
  obtain ⟨q, h1, h2⟩ := (right_iff h6).1 h
  refine (right_iff (b := looserB b i) (by rw [looser_len]; exact h6)).2 ⟨q, by rw [looser_first]; exact looser_go l h1, ?_⟩
  unfold madeP
  rw [List.all_eq_true, looser_len]
  intro k hk
  have hk := List.mem_range.1 hk
  rcases (looser_sacks (i := i) hk).2.2 with e | e
  · rw [e]
    rcases made_at h2 hk with e | e
    · rw [decide_eq_true e]; rfl
    · rw [decide_eq_true e, Bool.or_true]
  · rw [decide_eq_true e]; rfl
theorem cheap_more {b' : Barn} {c : Tur → Int} {e e' n n' : Int} {l l' : List Tur} (h : ∀ l, rightV b l = true → rightV b' l = true) (hc : Cheap b c e l n) (hc' : Cheap b' c e' l' n') (h0 : e = 0) : e' = 0 ∧ n' ≤ n := by
  obtain ⟨h1, h2, _⟩ := hc.yes h0
  have h3 := h l h1
  rcases hc'.err with e0 | e7
  · exact ⟨e0, by rw [← h2]; exact (hc'.yes e0).2.2 l h3⟩
  · rw [(hc'.no e7).2.2 l] at h3; cases h3
theorem inn_nodup (hr : b.Right) : (innL b).Nodup := by
  rw [List.nodup_iff_pairwise_ne, List.pairwise_iff_getElem]
  intro i k hi hk hik e
  unfold innL at hi hk e
  rw [List.length_map] at hi hk
  rw [List.getElem_map, List.getElem_map, ← nth_lt hi, ← nth_lt hk] at e
  exact (hr.apart k i hik hk).1 e.symm
theorem free_inn {k : Int} : b.free k = true ↔ k ∉ innL b := by
  unfold Barn.free innL
  rw [List.all_eq_true, List.mem_map]
  constructor
  · rintro h ⟨l, hl, e⟩
    have := h l hl
    rw [decide_eq_true e] at this; cases this
  · intro h l hl
    rw [decide_eq_false fun e => h ⟨l, hl, e⟩]; rfl
theorem filtUp_true (n : Nat) : (filtUp (fun _ => true) n).length = n := by
  unfold filtUp; rw [List.length_map, List.filter_eq_self.2 (fun _ _ => rfl), List.length_range]
theorem free_count (hr : b.Right) : (freeL b).length + b.lots.length = b.sizes.length := by
  have hn : (freeL b ++ innL b).Nodup := by
    rw [List.nodup_append]
    refine ⟨filtUp_nodup _ _, inn_nodup hr, fun x hx y hy e => ?_⟩
    obtain ⟨k, _, h1, e'⟩ := filtUp_mem.1 hx
    have h1 : b.free (k : Int) = true := h1
    rw [← e', e] at h1
    exact free_inn.1 h1 hy
  have hl : (innL b).length = b.lots.length := by unfold innL; rw [List.length_map]
  have h1 := nodup_sub hn (L := filtUp (fun _ => true) b.sizes.length) fun x hx => by
    rcases List.mem_append.1 hx with h | h
    · obtain ⟨k, h1, _, h2⟩ := filtUp_mem.1 h
      exact filtUp_mem.2 ⟨k, h1, rfl, h2⟩
    · obtain ⟨l, hl', rfl⟩ := List.mem_map.1 h
      have := hr.inn l hl'
      exact filtUp_mem.2 ⟨l.inn.toNat, by omega, rfl, by omega⟩
  have h2 := nodup_sub (filtUp_nodup (fun _ => true) b.sizes.length) (L := freeL b ++ innL b) fun x hx => by
    obtain ⟨k, h1, _, h2⟩ := filtUp_mem.1 hx
    by_cases e : b.free (k : Int) = true
    · exact List.mem_append.2 (.inl (filtUp_mem.2 ⟨k, h1, e, h2⟩))
    · rw [free_inn] at e
      rw [h2]
      exact List.mem_append.2 (.inr (Classical.not_not.1 e))
  rw [filtUp_true, List.length_append] at h1 h2
  omega
theorem no_free (h6 : b.lots.length ≤ 6) (h : (freeL b).length = 0) {l : List Tur} {q : Pl} (hg : goP b (firstP b) l = some q) : l = [] ∧ q = firstP b := by
  cases l with
  | nil => injection hg with hg; exact ⟨rfl, hg.symm⟩
  | cons t l =>
    obtain ⟨h1, _⟩ := goP_cons hg
    obtain ⟨_, _, h3, h4, h5, _⟩ := mem_turnsL.1 h1
    have hf : b.free t.aim = true := by
      rw [free_inn]
      rw [takenP_not, first_inn h6] at h5; exact h5
    have : t.aim ∈ freeL b := filtUp_mem.2 ⟨t.aim.toNat, by omega, by rw [show ((t.aim.toNat : Nat) : Int) = t.aim by omega]; exact hf, by omega⟩
    rw [List.length_eq_zero_iff.1 h] at this; cases this
theorem no_places (hr : b.Right) (h : (freeL b).length = 0) : placesV b = 1 := by
  refine places_of hr (L := [firstP b]) (by simp) fun r => ?_
  rw [List.mem_singleton]
  constructor
  · rintro rfl; exact ⟨[], rfl⟩
  · rintro ⟨l, hl⟩; exact (no_free hr.lots h hl).2
theorem no_cost (hr : b.Right) (h : (freeL b).length = 0) {c : Tur → Int} {e n : Int} {l : List Tur} (hc : Cheap b c e l n) (h0 : e = 0) : n = 0 := by
  obtain ⟨h1, h2, _⟩ := hc.yes h0
  obtain ⟨q, g1, _⟩ := (right_iff hr.lots).1 h1
  rw [(no_free hr.lots h g1).1] at h2
  rw [← h2]; rfl
theorem no_lots (h : b.lots.length = 0) {e n : Int} {l : List Tur} (hc : Cheap b oneC e l n) : e = 0 ∧ n = 0 := by
  have h1 : rightV b [] = true := by
    refine (right_iff (by omega)).2 ⟨firstP b, rfl, ?_⟩
    unfold madeP; rw [h]; rfl
  rcases hc.err with e0 | e7
  · obtain ⟨h2, h3, h4⟩ := hc.yes e0
    have h5 := h4 [] h1
    rw [cost_one] at h3 h5
    exact ⟨e0, by rw [List.length_nil] at h5; omega⟩
  · rw [(hc.no e7).2.2 []] at h1; cases h1
structure Roomy (b : Barn) (n : Int) : Prop where
  free : ((freeL b).length : Int) = b.sizes.length - b.lots.length
  places : (freeL b).length = 0 → placesV b = 1
  cost : (freeL b).length = 0 → planE b oneC = 0 → costR b oneC = 0
  right : (widerB b n).Right
  more : placesV b ≤ placesV (widerB b n)
  few : planE b oneC = 0 → planE (widerB b n) oneC = 0 ∧ costR (widerB b n) oneC ≤ costR b oneC
  none : b.lots.length = 0 → planE b oneC = 0 ∧ costR b oneC = 0
  loose : ∀ i, planE b oneC = 0 → planE (looserB b i) oneC = 0 ∧ costR (looserB b i) oneC ≤ costR b oneC
theorem roomy (hr : b.Right) (hl : b.sizes.length ≤ 6) (hn : 0 ≤ n ∧ n ≤ 300) : Roomy b n := by
  have hw := wider_right hr hl hn
  have h1 := cheap hr (one_ok b)
  have h2 := cheap hw (one_ok _)
  have hf := free_count hr
  exact ⟨by omega, no_places hr, fun h => no_cost hr h h1, hw, wider_places hr hw, cheap_more (fun _ => wider_rightV hr.lots) h1 h2, fun h => no_lots h h1, fun i => cheap_more (fun _ => looser_rightV hr.lots) h1 (cheap (looser_right hr i) (one_ok _))⟩
end Go.Proofs.Ytpnndljmhpepgaa

namespace Go.Proofs.Ytpnndljmhpepgaa
open Go Go.T
theorem fidx_at {α : Type} [Inhabited α] {p : α → Bool} {l : List α} (h : 0 ≤ fidx p l) : (fidx p l).toNat < l.length ∧ p (nth l (fidx p l).toNat) = true := by
  unfold fidx at *
  cases e : l.findIdx? p with
  | none => rw [e] at h; exact absurd h (by decide)
  | some i =>
    obtain ⟨h1, h2, _⟩ := List.findIdx?_eq_some_iff_getElem.1 e
    show (Int.toNat (i : Int)) < _ ∧ p (nth l (Int.toNat (i : Int))) = true
    rw [Int.toNat_natCast, nth_lt h1]; exact ⟨h1, h2⟩
variable {b : Barn}
abbrev Barn.at (b : Barn) (i : Int) : Lot := nth b.lots i.toNat
def Barn.is (b : Barn) (i : Int) : Prop := 0 ≤ i ∧ i < b.lots.length
theorem fol_at {i : Int} (h : 0 ≤ follows b i) : b.is (follows b i) ∧ (b.at (follows b i)).inn = (b.at i).aim := by
  have h1 := fidx_at (p := fun l : Lot => decide (l.inn = (nth b.lots i.toNat).aim)) (l := b.lots) h
  have h2 := follows_range b i
  exact ⟨⟨h, h2.2⟩, of_decide_eq_true h1.2⟩
theorem at_inn (hr : b.Right) {i k : Int} (hi : b.is i) (hk : b.is k) (e : (b.at i).inn = (b.at k).inn) : i = k := by
  unfold Barn.is at hi hk
  rcases Nat.lt_trichotomy i.toNat k.toNat with h | h | h
  · exact absurd e.symm (hr.apart _ _ h (by omega)).1
  · omega
  · exact absurd e (hr.apart _ _ h (by omega)).1
theorem at_aim (hr : b.Right) {i k : Int} (hi : b.is i) (hk : b.is k) (e : (b.at i).aim = (b.at k).aim) (hn : (b.at i).aim ≠ -1) : i = k := by
  unfold Barn.is at hi hk
  rcases Nat.lt_trichotomy i.toNat k.toNat with h | h | h
  · exact absurd (e.trans ((hr.apart _ _ h (by omega)).2 e.symm)) hn
  · omega
  · exact absurd ((hr.apart _ _ h (by omega)).2 e) hn
theorem is_inn (hr : b.Right) {i : Int} (hi : b.is i) : 0 ≤ (b.at i).inn ∧ (b.at i).inn < b.sizes.length := hr.inn _ (nth_mem (by unfold Barn.is at hi; omega))
theorem fol_eq (hr : b.Right) {i y : Int} (hy : b.is y) (e : (b.at y).inn = (b.at i).aim) : follows b i = y := by
  have h : decide (0 ≤ follows b i) = true := by
    unfold follows
    rw [fidx_ge, List.any_eq_true]
    exact ⟨_, nth_mem (k := y.toNat) (by unfold Barn.is at hy; omega), decide_eq_true e⟩
  obtain ⟨h1, h2⟩ := fol_at (of_decide_eq_true h)
  exact at_inn hr h1 hy (h2.trans e.symm)
theorem fol_aim (hr : b.Right) {i : Int} (h : 0 ≤ follows b i) : (b.at i).aim ≠ -1 := by
  obtain ⟨h1, h2⟩ := fol_at h
  have := is_inn hr h1
  omega
theorem fol_inj (hr : b.Right) {i k : Int} (hi : b.is i) (hk : b.is k) (h : 0 ≤ follows b i) (e : follows b i = follows b k) : i = k := by
  have h1 := (fol_at h).2
  have h2 := (fol_at (i := k) (by rw [← e]; exact h)).2
  rw [← e] at h2
  exact at_aim hr hi hk (h1.symm.trans h2) (fol_aim hr h)
structure Ring (b : Barn) (i : Int) (l : List Int) : Prop where
  two : 2 ≤ l.length
  head : nth l 0 = i
  rng : ∀ x ∈ l, i ≤ x ∧ x < b.lots.length
  zero : 0 ≤ i
  fol : ∀ j, j + 1 < l.length → follows b (nth l j) = nth l (j + 1)
  last : follows b (nth l (l.length - 1)) = i
  nodup : l.Nodup
structure Path (b : Barn) (i : Int) (l : List Int) : Prop where
  pos : 1 ≤ l.length
  head : nth l 0 = i
  is : b.is i
  up : ∀ j, 1 ≤ j → j < l.length → i < nth l j ∧ nth l j < b.lots.length
  fol : ∀ j, j + 1 < l.length → follows b (nth l j) = nth l (j + 1)
theorem Path.at_ {i : Int} {l : List Int} (h : Path b i l) {j : Nat} (hj : j < l.length) : i ≤ nth l j ∧ b.is (nth l j) := by
  have h1 := h.is
  cases j with
  | zero => rw [h.head]; exact ⟨Int.le_refl _, h1⟩
  | succ j =>
    have := h.up (j + 1) (by omega) hj
    unfold Barn.is at *; omega
theorem path_nodup (hr : b.Right) {i : Int} {l : List Int} (h : Path b i l) : l.Nodup := by
  have key : ∀ j k, j < k → k < l.length → nth l j ≠ nth l k := by
    intro j
    induction j with
    | zero => intro k hk hl e; have := h.up k (by omega) hl; rw [h.head] at e; omega
    | succ j ih =>
      intro k hk hl e
      obtain ⟨k, rfl⟩ : ∃ m, k = m + 1 := ⟨k - 1, by omega⟩
      have h1 := h.fol j (by omega)
      have h2 := h.fol k hl
      have h3 := (h.at_ (j := j) (by omega)).2
      have h4 := (h.at_ (j := k) (by omega)).2
      have h5 := (h.at_ (j := j + 1) (by omega)).2
      exact ih k (by omega) (by omega) (fol_inj hr h3 h4 (by rw [h1]; exact h5.1) (by rw [h1, h2, e]))
  rw [List.nodup_iff_pairwise_ne, List.pairwise_iff_getElem]
  intro j k hj hk hjk
  rw [← nth_lt hj, ← nth_lt hk]; exact key j k hjk hk
theorem path_one {i : Int} (h : b.is i) : Path b i [i] := ⟨Nat.le_refl _, rfl, h, fun j h1 h2 => by simp at h2; omega, fun j h2 => by simp at h2⟩
theorem nth_snoc2 {l : List Int} {x : Int} {j : Nat} (hj : j < l.length + 1) : nth (l ++ [x]) j = if j = l.length then x else nth l j := by
  unfold nth
  by_cases e : j = l.length
  · subst e; rw [if_pos rfl, List.getD_eq_getElem?_getD, List.getElem?_append_right (by omega)]; simp
  · rw [if_neg e, List.getD_eq_getElem?_getD, List.getElem?_append_left (by omega), ← List.getD_eq_getElem?_getD]
theorem path_snoc {i : Int} {l : List Int} (h : Path b i l) (h1 : i < follows b (nth l (l.length - 1))) : Path b i (l ++ [follows b (nth l (l.length - 1))]) := by
  have hp := h.pos
  have hl : (l ++ [follows b (nth l (l.length - 1))]).length = l.length + 1 := by rw [List.length_append]; rfl
  refine ⟨by omega, by rw [nth_snoc2 (by omega), if_neg (by omega)]; exact h.head, h.is, fun j h2 h3 => ?_, fun j h2 => ?_⟩
  · rw [hl] at h3
    rw [nth_snoc2 h3]
    by_cases e : j = l.length
    · rw [if_pos e]; exact ⟨h1, (follows_range _ _).2⟩
    · rw [if_neg e]; exact h.up j h2 (by omega)
  · rw [hl] at h2
    rw [nth_snoc2 (by omega), nth_snoc2 h2, if_neg (by omega)]
    by_cases e : j + 1 = l.length
    · rw [if_pos e, show j = l.length - 1 by omega]
    · rw [if_neg e]; exact h.fol j (by omega)
theorem path_ring (hr : b.Right) {i : Int} {l : List Int} (h : Path b i l) (h1 : follows b (nth l (l.length - 1)) = i) (h2 : 1 < l.length) : Ring b i l :=
  ⟨h2, h.head, fun x hx => by
    obtain ⟨j, hj, rfl⟩ := mem_nth hx
    have := h.at_ hj
    exact ⟨this.1, this.2.2⟩, h.is.1, h.fol, h1, path_nodup hr h⟩
theorem go_ring (hr : b.Right) {i : Int} : ∀ (f : Nat) {l r : List Int}, Path b i l → ringGo b i f l = some r → Ring b i r
  | 0, l, r, _, h => by cases h
  | f + 1, l, r, hp, h => by
    have h : (if follows b (nth l (l.length - 1)) = i ∧ 1 < l.length then some l else if follows b (nth l (l.length - 1)) ≤ i then none else
      if l.length + 1 > b.lots.length then none else ringGo b i f (l ++ [follows b (nth l (l.length - 1))])) = some r := h
    by_cases c1 : follows b (nth l (l.length - 1)) = i ∧ 1 < l.length
    · rw [if_pos c1] at h; injection h with h; rw [← h]; exact path_ring hr hp c1.1 c1.2
    · rw [if_neg c1] at h
      by_cases c2 : follows b (nth l (l.length - 1)) ≤ i
      · rw [if_pos c2] at h; cases h
      · rw [if_neg c2] at h
        by_cases c3 : l.length + 1 > b.lots.length
        · rw [if_pos c3] at h; cases h
        · rw [if_neg c3] at h; exact go_ring hr f (path_snoc hp (by omega)) h
theorem ring_of (hr : b.Right) {i : Nat} (hi : i < b.lots.length) {l : List Int} (h : ringOf b i = some l) : Ring b i l :=
  go_ring hr _ (path_one ⟨by omega, by omega⟩) h
theorem Ring.at_ {i : Int} {l : List Int} (h : Ring b i l) {j : Nat} (hj : j < l.length) : i ≤ nth l j ∧ b.is (nth l j) := by
  have h1 := h.rng _ (nth_mem hj)
  have h2 := h.zero
  exact ⟨h1.1, by unfold Barn.is; omega⟩
theorem ring_go {i : Int} {l : List Int} (h : Ring b i l) (hl : l.length ≤ b.lots.length) : ∀ (f k : Nat), 1 ≤ k → k ≤ l.length → l.length + 1 ≤ k + f → ringGo b i f (l.take k) = some l
  | 0, k, h1, h2, h3 => by omega
  | f + 1, k, h1, h2, h3 => by
    have hk : (l.take k).length = k := by rw [List.length_take]; omega
    have hn : nth (l.take k) (k - 1) = nth l (k - 1) := nth_take (by omega)
    show (if follows b (nth (l.take k) ((l.take k).length - 1)) = i ∧ 1 < (l.take k).length then some (l.take k) else if follows b (nth (l.take k) ((l.take k).length - 1)) ≤ i then none else
      if (l.take k).length + 1 > b.lots.length then none else ringGo b i f (l.take k ++ [follows b (nth (l.take k) ((l.take k).length - 1))])) = some l
    rw [hk, hn]
    have two := h.two
    by_cases c : k = l.length
    · subst c
      rw [if_pos ⟨h.last, by omega⟩, List.take_length]
    · have e := h.fol (k - 1) (by omega)
      rw [show k - 1 + 1 = k by omega] at e
      rw [e]
      have h4 := h.at_ (j := k) (by omega)
      have h5 : nth l k ≠ i := fun e' => by
        have := nodup_nth h.nodup (i := k) (k := 0) (by omega) (by omega) (by rw [e', h.head])
        omega
      rw [if_neg fun c => h5 c.1, if_neg (by omega), if_neg (by omega), ← take_nth (by omega)]
      exact ring_go h hl f (k + 1) (by omega) (by omega) (by omega)
theorem is_len {l : List Int} (hn : l.Nodup) (h : ∀ x ∈ l, b.is x) : l.length ≤ b.lots.length := by
  have := nodup_sub hn (L := (List.range b.lots.length).map fun (k : Nat) => (k : Int)) fun x hx => by
    have := h x hx
    unfold Barn.is at this
    exact List.mem_map.2 ⟨x.toNat, List.mem_range.2 (by omega), by omega⟩
  rwa [List.length_map, List.length_range] at this
theorem Ring.len {i : Int} {l : List Int} (h : Ring b i l) : l.length ≤ b.lots.length := is_len h.nodup fun x hx => by
  have h1 := h.rng x hx
  have h2 := h.zero
  unfold Barn.is; omega
theorem ring_some {i : Nat} {l : List Int} (h : Ring b i l) : ringOf b i = some l := by
  have h1 := ring_go h h.len (b.lots.length + 1) 1 (Nat.le_refl _) (by have := h.two; omega) (by have := h.len; omega)
  have h2 : l.take 1 = [(i : Int)] := by
    have h3 := h.head
    have h4 := h.two
    match l, h4, h3 with
    | x :: l, _, h3 => rw [show x = (i : Int) from h3]; rfl
  rw [h2] at h1; exact h1
theorem mem_rings (hr : b.Right) {l : List Int} : l ∈ ringsL b ↔ ∃ i : Nat, i < b.lots.length ∧ Ring b i l := by
  unfold ringsL ringsUp
  rw [List.mem_filterMap]
  constructor
  · rintro ⟨i, hi, h⟩
    exact ⟨i, List.mem_range.1 hi, ring_of hr (List.mem_range.1 hi) h⟩
  · rintro ⟨i, hi, h⟩; exact ⟨i, List.mem_range.2 hi, ring_some h⟩
theorem Ring.next {i : Int} {l : List Int} (h : Ring b i l) {x : Int} (hx : x ∈ l) : follows b x ∈ l := by
  obtain ⟨j, hj, rfl⟩ := mem_nth hx
  by_cases c : j + 1 < l.length
  · rw [h.fol j c]; exact nth_mem c
  · rw [show j = l.length - 1 by omega, h.last, ← h.head]; exact nth_mem (by have := h.two; omega)
theorem Ring.reach {i : Int} {l : List Int} (h : Ring b i l) {C : Int → Prop} (hC : ∀ x, C x → C (follows b x)) {x : Int} (hx : x ∈ l) (hc : C x) : C i := by
  obtain ⟨j, hj, rfl⟩ := mem_nth hx
  have key : ∀ m j, m = l.length - j → j < l.length → C (nth l j) → C i := by
    intro m
    induction m with
    | zero => intro j hm hj; omega
    | succ m ih =>
      intro j hm hj hc
      have h1 := hC _ hc
      by_cases c : j + 1 < l.length
      · rw [h.fol j c] at h1; exact ih (j + 1) (by omega) c h1
      · rw [show j = l.length - 1 by omega, h.last] at h1; exact h1
  exact key _ j rfl hj hc
theorem Ring.same {i k : Int} {l r : List Int} (h : Ring b i l) (h' : Ring b k r) {x : Int} (hx : x ∈ l) (hx' : x ∈ r) : i = k := by
  have h1 := h.reach (C := fun y => y ∈ r) (fun y hy => h'.next hy) hx hx'
  have h2 := h'.reach (C := fun y => y ∈ l) (fun y hy => h.next hy) hx' hx
  have h3 := h'.rng _ h1
  have h4 := h.rng _ h2
  omega
theorem Ring.lot {i : Int} {l : List Int} (hr : b.Right) (h : Ring b i l) {x : Int} (hx : x ∈ l) : b.is x ∧ b.is (follows b x) ∧ (b.at (follows b x)).inn = (b.at x).aim ∧ (b.at x).aim ≠ -1 ∧ follows b x ≠ x := by
  have hz := h.zero
  have is : ∀ y ∈ l, b.is y := fun y hy => by have := h.rng y hy; unfold Barn.is; omega
  have h1 := is _ (h.next hx)
  refine ⟨is x hx, h1, (fol_at h1.1).2, fol_aim hr h1.1, fun e => ?_⟩
  obtain ⟨j, hj, rfl⟩ := mem_nth hx
  have two := h.two
  by_cases c : j + 1 < l.length
  · rw [h.fol j c] at e
    have := nodup_nth h.nodup c hj e; omega
  · rw [show j = l.length - 1 by omega, h.last, ← h.head] at e
    have := nodup_nth h.nodup (by omega) (by omega) e; omega
theorem Ring.must {i : Int} {l : List Int} (hr : b.Right) (h : Ring b i l) {x : Int} (hx : x ∈ l) : x ∈ mustL b := by
  obtain ⟨h1, h2, h3, h4, h5⟩ := h.lot hr hx
  have hx1 := h1
  unfold Barn.is at hx1
  refine filtUp_mem.2 ⟨x.toNat, by omega, ?_, by omega⟩
  unfold mustI
  have : (b.at x).aim ≠ (b.at x).inn := fun e => h5 (at_inn hr h2 h1 (h3.trans e))
  rw [decide_eq_false (show ¬ (nth b.lots x.toNat).aim = -1 from h4), decide_eq_false (show ¬ (nth b.lots x.toNat).aim = (nth b.lots x.toNat).inn from this)]; rfl
def headsL (b : Barn) : List Int := (ringsL b).map fun l => nth l 0
theorem pairwise_filterMap_rings (hr : b.Right) : ∀ n, n ≤ b.lots.length → (ringsUp b n).Pairwise fun l r => nth l 0 < nth r 0 ∧ ∀ x ∈ l, x ∉ r := by
  intro n
  induction n with
  | zero => intro _; exact List.Pairwise.nil
  | succ n ih =>
    intro hn
    rw [ringsUp_succ, List.pairwise_append]
    refine ⟨ih (by omega), ?_, fun l hl r hr' => ?_⟩
    · cases ringOf b n with
      | none => exact List.Pairwise.nil
      | some l => exact List.pairwise_singleton _ _
    · unfold ringsUp at hl
      obtain ⟨i, hi, e⟩ := List.mem_filterMap.1 hl
      have hi := List.mem_range.1 hi
      have h1 := ring_of hr (by omega) e
      have h2 := ring_of hr (i := n) (by omega) (by simpa using hr')
      rw [h1.head, h2.head]
      refine ⟨by omega, fun x hx hx' => ?_⟩
      have := h1.same h2 hx hx'
      omega
theorem rings_apart (hr : b.Right) : (ringsL b).Pairwise fun l r => nth l 0 < nth r 0 ∧ ∀ x ∈ l, x ∉ r := pairwise_filterMap_rings hr _ (Nat.le_refl _)
theorem shows_rings (hr : b.Right) : showV b (ringsL b) = (((mustL b).length + (ringsL b).length : Int), (0 : Int)) := by
  have hap := rings_apart hr
  refine showV_good (right_check hr) (shows_ok ?_ ?_ ?_)
  · unfold offAny
    rw [List.any_eq_false]
    intro x hx
    obtain ⟨l, hl, hx⟩ := List.mem_flatten.1 hx
    obtain ⟨i, hi, hR⟩ := (mem_rings hr).1 hl
    have := (hR.lot hr hx).1
    unfold Barn.is at this
    rw [Bool.not_eq_true, offB_false]; omega
  · have hn : (ringsL b).flatten.Nodup := by
      rw [List.nodup_iff_pairwise_ne, List.pairwise_flatten]
      refine ⟨fun l hl => ?_, hap.imp fun {l r} h x hx y hy e => h.2 x hx (by rw [e]; exact hy)⟩
      obtain ⟨i, hi, hR⟩ := (mem_rings hr).1 hl
      exact List.nodup_iff_pairwise_ne.1 hR.nodup
    unfold twiceL
    rw [any_range_false]
    intro k hk
    refine decide_eq_false fun hm => ?_
    obtain ⟨j, hj, e⟩ := List.mem_take_iff_getElem.1 hm
    have := nodup_nth hn (i := j) (k := k) (by omega) hk (by rw [nth_lt (by omega)]; exact e)
    omega
  · unfold wrongL
    rw [List.any_eq_false]
    intro l hl
    obtain ⟨i, hi, hR⟩ := (mem_rings hr).1 hl
    have two := hR.two
    rw [ringB_true fun k hk => ?_, decide_eq_true (by omega)]
    · decide
    · unfold ringAt
      refine decide_eq_true ?_
      by_cases c : k + 1 < l.length
      · rw [hR.fol k c, Nat.mod_eq_of_lt c]
      · rw [show k = l.length - 1 by omega, hR.last, show l.length - 1 + 1 = l.length by omega, Nat.mod_self]; exact hR.head.symm
theorem count_len : ∀ (xs ms L : List Int), xs.Nodup → (∀ x ∈ xs, x ∈ ms ∧ 2 ≤ L.count x) → ms.Nodup → (∀ m ∈ ms, 1 ≤ L.count m) → ms.length + xs.length ≤ L.length
  | [], ms, L, _, _, hn, h => nodup_sub hn fun m hm => List.count_pos_iff.1 (h m hm)
  | x :: xs, ms, L, hx, h2, hn, h => by
    rw [List.nodup_cons] at hx
    have h3 := h2 x List.mem_cons_self
    have hm : x ∈ L := List.count_pos_iff.1 (by omega)
    have ih := count_len xs ms (L.erase x) hx.2 (fun y hy => by
      have h4 := h2 y (List.mem_cons_of_mem _ hy)
      have : y ≠ x := fun e => hx.1 (e ▸ hy)
      rw [List.count_erase_of_ne this]; exact h4) hn fun m hm' => by
        by_cases e : m = x
        · rw [e, List.count_erase_self]; omega
        · rw [List.count_erase_of_ne e]; exact h m hm'
    rw [List.length_erase_of_mem hm] at ih
    have := List.length_pos_of_mem hm
    rw [List.length_cons]; omega
theorem first_of {α : Type} (p : α → Prop) [DecidablePred p] : ∀ (l : List α), (∃ t ∈ l, p t) → ∃ s t r, l = s ++ t :: r ∧ p t ∧ ∀ u ∈ s, ¬ p u
  | [], h => by obtain ⟨t, h, _⟩ := h; cases h
  | x :: l, h => by
    by_cases c : p x
    · exact ⟨[], x, l, rfl, c, fun u hu => by cases hu⟩
    · obtain ⟨t, ht, hp⟩ := h
      rcases List.mem_cons.1 ht with rfl | ht
      · exact absurd hp c
      · obtain ⟨s, t', r, h1, h2, h3⟩ := first_of p l ⟨t, ht, hp⟩
        refine ⟨x :: s, t', r, by rw [h1]; rfl, h2, fun u hu => ?_⟩
        rcases List.mem_cons.1 hu with rfl | hu
        · exact c
        · exact h3 u hu
theorem ring_twice (hr : b.Right) {i : Int} {l : List Int} (h : Ring b i l) {pl : List Tur} {q : Pl} (hg : goP b (firstP b) pl = some q) (hm : madeP b q = true) : ∃ x ∈ l, 2 ≤ (pl.map fun t => t.lot).count x := by
  apply Classical.byContradiction
  intro hno
  have h6 := hr.lots
  have hturn : ∃ t ∈ pl, t.lot ∈ l := by
    have hx : nth l 0 ∈ l := nth_mem (by have := h.two; omega)
    obtain ⟨k, hk, h1, h2⟩ := filtUp_mem.1 (h.must hr hx)
    obtain ⟨t, ht, e⟩ := must_turned hr hg hm hk h1
    exact ⟨t, ht, by rw [e, ← h2]; exact hx⟩
  obtain ⟨s, t, r, rfl, ht, hs⟩ := first_of (fun t : Tur => t.lot ∈ l) pl hturn
  obtain ⟨h1, h2, h3, h4, h5⟩ := h.lot hr ht
  have hr1 : ∀ u ∈ r, u.lot ≠ t.lot := fun u hu e => hno ⟨t.lot, ht, by
    rw [List.map_append, List.count_append, List.map_cons, List.count_cons_self]
    have : 1 ≤ (r.map fun t => t.lot).count t.lot := List.count_pos_iff.2 (List.mem_map.2 ⟨u, hu, e⟩)
    omega⟩
  rw [goP_append] at hg
  cases hp : goP b (firstP b) s with
  | none => rw [hp] at hg; cases hg
  | some p =>
    rw [hp] at hg
    obtain ⟨g1, g2⟩ := goP_cons (show goP b p (t :: r) = some q from hg)
    have hx1 := h1
    have hy1 := h2
    unfold Barn.is at hx1 hy1
    have e1 := go_stay (b := b) (i := t.lot.toNat) (by omega) r g2 fun u hu e => hr1 u hu (by omega)
    rw [moved_nth (by omega), if_pos rfl] at e1
    have e2 := go_stay (b := b) (i := (follows b t.lot).toNat) (by omega) s hp fun u hu e => hs u hu (by
      rw [show u.lot = follows b t.lot by omega]; exact h.next ht)
    rw [first_nth h6 (by omega)] at e2
    have e3 := (made_at hm (i := t.lot.toNat) (by omega)).resolve_left h4
    have g3 := (mem_turnsL.1 g1).2.2.2.2.1
    have g4 : takenP b p t.aim = true := (taken_iff h6).2 ⟨(follows b t.lot).toNat, by omega, by rw [e2, ← e1, ← e3]; exact h3⟩
    rw [g3] at g4; cases g4
inductive Each {α β : Type} (P : α → β → Prop) : List α → List β → Prop
  | nil : Each P [] []
  | cons {a : α} {c : β} {l : List α} {r : List β} : P a c → Each P l r → Each P (a :: l) (c :: r)
theorem choose_each {α β : Type} {P : α → β → Prop} : ∀ (l : List α), (∀ x ∈ l, ∃ y, P x y) → ∃ r : List β, r.length = l.length ∧ Each P l r
  | [], _ => ⟨[], rfl, .nil⟩
  | x :: l, h => by
    obtain ⟨y, hy⟩ := h x List.mem_cons_self
    obtain ⟨r, h1, h2⟩ := choose_each l fun z hz => h z (List.mem_cons_of_mem _ hz)
    exact ⟨y :: r, by rw [List.length_cons, List.length_cons, h1], .cons hy h2⟩
theorem each_mem {α β : Type} {P : α → β → Prop} : ∀ {l : List α} {r : List β}, Each P l r → ∀ y ∈ r, ∃ x ∈ l, P x y
  | _, _, .nil, y, hy => by cases hy
  | _, _, .cons h t, y, hy => by
    rcases List.mem_cons.1 hy with rfl | hy
    · exact ⟨_, List.mem_cons_self, h⟩
    · obtain ⟨x, hx, hp⟩ := each_mem t y hy
      exact ⟨x, List.mem_cons_of_mem _ hx, hp⟩
theorem each_nodup {P : List Int → Int → Prop} (hP : ∀ l x, P l x → x ∈ l) : ∀ {l : List (List Int)} {r : List Int}, Each P l r → (l.Pairwise fun a c => ∀ x ∈ a, x ∉ c) → r.Nodup
  | _, _, .nil, _ => List.nodup_nil
  | _, _, .cons (a := a) h t, hl => by
    rw [List.pairwise_cons] at hl
    rw [List.nodup_cons]
    refine ⟨fun hm => ?_, each_nodup hP t hl.2⟩
    obtain ⟨c, hc, hp⟩ := each_mem t _ hm
    exact hl.1 c hc _ (hP _ _ h) (hP _ _ hp)
theorem ring_least (hr : b.Right) {pl : List Tur} (h : rightV b pl = true) : (mustL b).length + (ringsL b).length ≤ pl.length := by
  obtain ⟨q, hg, hm⟩ := (right_iff hr.lots).1 h
  obtain ⟨xs, h1, h2⟩ := choose_each (P := fun l x => x ∈ l ∧ x ∈ mustL b ∧ 2 ≤ (pl.map fun t => t.lot).count x) (ringsL b) fun l hl => by
    obtain ⟨i, hi, hR⟩ := (mem_rings hr).1 hl
    obtain ⟨x, hx, h2⟩ := ring_twice hr hR hg hm
    exact ⟨x, hx, hR.must hr hx, h2⟩
  have := count_len xs (mustL b) (pl.map fun t => t.lot) (each_nodup (fun _ _ h => h.1) h2 ((rings_apart hr).imp fun h => h.2)) (fun x hx => by
    obtain ⟨_, _, h⟩ := each_mem h2 x hx; exact h.2) (filtUp_nodup _ _) fun m hm' => by
      obtain ⟨k, hk, e1, e2⟩ := filtUp_mem.1 hm'
      obtain ⟨t, ht, e⟩ := must_turned hr hg hm hk e1
      exact List.count_pos_iff.2 (List.mem_map.2 ⟨t, ht, by rw [e, e2]⟩)
  rw [h1, List.length_map] at this
  exact this
end Go.Proofs.Ytpnndljmhpepgaa

namespace Go.Proofs.Ytpnndljmhpepgaa
open Go Go.T
variable {b : Barn}
inductive Stp (b : Barn) (i : Int) : Nat → Int → Prop
  | zero : Stp b i 0 i
  | step {m : Nat} {x : Int} : Stp b i m x → 0 ≤ follows b x → Stp b i (m + 1) (follows b x)
theorem Stp.is {i : Int} (hi : b.is i) {m : Nat} {x : Int} (h : Stp b i m x) : b.is x := by
  cases h with
  | zero => exact hi
  | step _ h => exact (fol_at h).1
theorem Stp.det {i : Int} {m : Nat} {x : Int} (h : Stp b i m x) : ∀ {y : Int}, Stp b i m y → x = y := by
  induction h with
  | zero => intro y h'; cases h'; rfl
  | step _ _ ih => intro y h'; cases h' with | step h1 h2 => rw [ih h1]
theorem Stp.less {i : Int} : ∀ {m : Nat} {x : Int}, Stp b i m x → ∀ k, k ≤ m → ∃ y, Stp b i k y := by
  intro m x h
  induction h with
  | zero => intro k hk; exact ⟨i, by rw [Nat.le_zero.1 hk]; exact .zero⟩
  | step h1 h2 ih =>
    intro k hk
    rcases Nat.lt_or_ge k (Nat.succ _) with h | h
    · exact ih k (Nat.lt_succ_iff.1 h)
    · exact ⟨_, by rw [Nat.le_antisymm hk h]; exact .step h1 h2⟩
theorem Stp.add {i : Int} {m : Nat} {x : Int} (h : Stp b i m x) : ∀ {k : Nat} {y : Int}, Stp b x k y → Stp b i (m + k) y := by
  intro k y h'
  induction h' with
  | zero => exact h
  | step _ h2 ih => exact .step ih h2
theorem Stp.back (hr : b.Right) {i : Int} (hi : b.is i) : ∀ (a c : Nat) {x : Int}, a ≤ c → Stp b i a x → Stp b i c x → Stp b i (c - a) i
  | 0, c, x, _, h1, h2 => by cases h1; exact h2
  | a + 1, c, x, hac, h1, h2 => by
    obtain ⟨c, rfl⟩ : ∃ d, c = d + 1 := ⟨c - 1, by omega⟩
    cases h1 with
    | step g1 g2 =>
      rename_i u
      generalize hv : follows b u = v at *
      cases h2 with
      | step e1 e2 =>
        rename_i w
        have : w = u := fol_inj hr (e1.is hi) (g1.is hi) e2 hv.symm
        subst this
        rw [show c + 1 - (a + 1) = c - a by omega]
        exact Stp.back hr hi a c (by omega) g1 e1
theorem least_nat {P : Nat → Prop} : ∀ n, P n → ∃ m, m ≤ n ∧ P m ∧ ∀ k, k < m → ¬ P k := by
  intro n
  induction n using Nat.strongRecOn with
  | ind n ih =>
    intro h
    by_cases c : ∃ k, k < n ∧ P k
    · obtain ⟨k, hk, hp⟩ := c
      obtain ⟨m, h1, h2, h3⟩ := ih k hk hp
      exact ⟨m, by omega, h2, h3⟩
    · exact ⟨n, Nat.le_refl _, h, fun k hk hp => c ⟨k, hk, hp⟩⟩
open Classical in
noncomputable def stM (b : Barn) (i : Int) (m : Nat) : Int := if h : ∃ x, Stp b i m x then h.choose else -1
theorem stM_eq {i : Int} {m : Nat} {x : Int} (h : Stp b i m x) : stM b i m = x := by
  unfold stM; rw [dif_pos ⟨x, h⟩]
  exact (Exists.choose_spec (⟨x, h⟩ : ∃ x, Stp b i m x)).det h
noncomputable def stL (b : Barn) (i : Int) (n : Nat) : List Int := (List.range n).map (stM b i)
theorem stL_nth {i : Int} {n k : Nat} (hk : k < n) : nth (stL b i n) k = stM b i k := by
  unfold stL
  rw [nth_lt (by simpa using hk), List.getElem_map, List.getElem_range]
theorem stL_len {i : Int} {n : Nat} : (stL b i n).length = n := by unfold stL; simp
theorem stL_nodup (hr : b.Right) {i : Int} (hi : b.is i) {n : Nat} (h : ∀ k, k < n → ∃ x, Stp b i k x) (hn : ∀ k, 1 ≤ k → k < n → ¬ Stp b i k i) : (stL b i n).Nodup := by
  rw [List.nodup_iff_pairwise_ne, List.pairwise_iff_getElem]
  intro j k hj hk hjk e
  rw [stL_len] at hj hk
  rw [← nth_lt, ← nth_lt, stL_nth hj, stL_nth hk] at e
  obtain ⟨x, hx⟩ := h j hj
  obtain ⟨y, hy⟩ := h k hk
  rw [stM_eq hx, stM_eq hy] at e
  subst e
  exact hn (k - j) (by omega) (by omega) (Stp.back hr hi j k (by omega) hx hy)
theorem stL_le (hr : b.Right) {i : Int} (hi : b.is i) {n : Nat} (h : ∀ k, k < n → ∃ x, Stp b i k x) (hn : ∀ k, 1 ≤ k → k < n → ¬ Stp b i k i) : n ≤ b.lots.length := by
  have := is_len (stL_nodup hr hi h hn) fun x hx => by
    obtain ⟨k, hk, rfl⟩ := List.mem_map.1 hx
    obtain ⟨y, hy⟩ := h k (List.mem_range.1 hk)
    rw [stM_eq hy]; exact hy.is hi
  rwa [stL_len] at this
theorem comes_back (hr : b.Right) {i : Int} (hi : b.is i) (h : ∃ n, 1 ≤ n ∧ Stp b i n i) : ∃ n, 1 ≤ n ∧ n ≤ b.lots.length ∧ Stp b i n i ∧ ∀ k, 1 ≤ k → k < n → ¬ Stp b i k i := by
  obtain ⟨n, h1, h2⟩ := h
  obtain ⟨m, _, ⟨h4, h5⟩, h6⟩ := least_nat (P := fun n => 1 ≤ n ∧ Stp b i n i) n ⟨h1, h2⟩
  have h7 : ∀ k, 1 ≤ k → k < m → ¬ Stp b i k i := fun k hk hkm hs => h6 k hkm ⟨hk, hs⟩
  exact ⟨m, h4, stL_le hr hi (fun k hk => h5.less k (by omega)) h7, h5, h7⟩
theorem must_back (hr : b.Right) {i : Int} (hi : b.is i) (h : ∀ n, ∃ x, Stp b i n x) : ∃ n, 1 ≤ n ∧ Stp b i n i := by
  apply Classical.byContradiction
  intro hno
  have := stL_le hr hi (n := b.lots.length + 1) (fun k _ => h k) fun k hk _ hs => hno ⟨k, hk, hs⟩
  omega
theorem is_step {i : Int} {m : Nat} {x : Int} (h : Stp b i (m + 1) x) : ∃ y, Stp b i m y ∧ x = follows b y ∧ 0 ≤ x := by
  cases h with
  | step h1 h2 => exact ⟨_, h1, rfl, h2⟩
theorem ring_least_of (hr : b.Right) {i : Int} (hi : b.is i) {n : Nat} (h1 : 2 ≤ n) (h2 : Stp b i n i) (h3 : ∀ k, 1 ≤ k → k < n → ¬ Stp b i k i) (h4 : ∀ k x, k < n → Stp b i k x → i ≤ x) : Ring b i (stL b i n) := by
  have hl : (stL b i n).length = n := stL_len
  have hex : ∀ k, k < n → ∃ x, Stp b i k x := fun k hk => h2.less k (by omega)
  refine ⟨by omega, by rw [stL_nth (by omega)]; exact stM_eq .zero, fun x hx => ?_, hi.1, fun j hj => ?_, ?_, stL_nodup hr hi hex h3⟩
  · obtain ⟨k, hk, rfl⟩ := List.mem_map.1 hx
    have hk := List.mem_range.1 hk
    obtain ⟨y, hy⟩ := hex k hk
    rw [stM_eq hy]
    exact ⟨h4 k y hk hy, (hy.is hi).2⟩
  · rw [hl] at hj
    obtain ⟨y, hy⟩ := hex (j + 1) hj
    obtain ⟨z, hz, e, _⟩ := is_step hy
    rw [stL_nth (by omega), stL_nth hj, stM_eq hz, stM_eq hy, e]
  · rw [hl]
    obtain ⟨k, rfl⟩ : ∃ k, n = k + 1 := ⟨n - 1, by omega⟩
    obtain ⟨z, hz, e, _⟩ := is_step h2
    rw [stL_nth (by omega), show k + 1 - 1 = k by omega, stM_eq hz, ← e]
theorem ring_iff (hr : b.Right) {i : Int} (hi : b.is i) : (∃ l ∈ ringsL b, i ∈ l) ↔ (b.at i).aim ≠ (b.at i).inn ∧ ∃ n, 1 ≤ n ∧ Stp b i n i := by
  constructor
  · rintro ⟨l, hl, hil⟩
    obtain ⟨s, hs, hR⟩ := (mem_rings hr).1 hl
    obtain ⟨h1, h2, h3, h4, h5⟩ := hR.lot hr hil
    refine ⟨fun e => h5 (at_inn hr h2 h1 (h3.trans e)), must_back hr hi fun n => ?_⟩
    have key : ∀ n, ∃ x, Stp b i n x ∧ x ∈ l := by
      intro n
      induction n with
      | zero => exact ⟨i, .zero, hil⟩
      | succ n ih =>
        obtain ⟨x, hx, hxl⟩ := ih
        exact ⟨_, .step hx (hR.lot hr hxl).2.1.1, hR.next hxl⟩
    obtain ⟨x, hx, _⟩ := key n
    exact ⟨x, hx⟩
  · rintro ⟨hne, hb⟩
    obtain ⟨n, h1, h2, h3, h4⟩ := comes_back hr hi hb
    -- the least lot of the way
    obtain ⟨s, _, ⟨k, hk, hs⟩, hmin⟩ := least_nat (P := fun s : Nat => ∃ k, k < n ∧ Stp b i k (s : Int)) i.toNat ⟨0, by omega, by rw [show ((i.toNat : Nat) : Int) = i from Int.toNat_of_nonneg hi.1]; exact .zero⟩
    have hsi := hs.is hi
    -- from s on
    have hgo : ∀ j x, Stp b s j x → ∃ m, m < n ∧ Stp b i m x := by
      intro j
      induction j with
      | zero => intro x hx; cases hx; exact ⟨k, hk, hs⟩
      | succ j ih =>
        intro x hx
        obtain ⟨y, hy, e, h0⟩ := is_step hx
        obtain ⟨m, hm, hmy⟩ := ih y hy
        have hst : Stp b i (m + 1) x := by rw [e]; exact .step hmy (by rw [← e]; exact h0)
        by_cases c : m + 1 < n
        · exact ⟨m + 1, c, hst⟩
        · rw [show m + 1 = n by omega] at hst
          rw [hst.det h3]; exact ⟨0, by omega, .zero⟩
    have hfrom : ∀ d x, k + d ≤ n → Stp b i (k + d) x → Stp b s d x := by
      intro d
      induction d with
      | zero => intro x _ hx; rw [Nat.add_zero] at hx; rw [hx.det hs]; exact .zero
      | succ d ih =>
        intro x hd hx
        obtain ⟨y, hy, e, h0⟩ := is_step (show Stp b i ((k + d) + 1) x from hx)
        rw [e]; exact .step (ih y (by omega) hy) (by rw [← e]; exact h0)
    have hsi1 : Stp b s (n - k) i := hfrom (n - k) i (by omega) (by rw [show k + (n - k) = n by omega]; exact h3)
    have hsn : Stp b s n s := by
      have := hsi1.add hs
      rw [show n - k + k = n by omega] at this; exact this
    obtain ⟨r, r1, r2, r3, r4⟩ := comes_back hr hsi ⟨n, h1, hsn⟩
    have hr2 : 2 ≤ r := by
      apply Classical.byContradiction
      intro hc
      have e1 : r = 1 := by omega
      subst e1
      obtain ⟨y, hy, e, _⟩ := is_step r3
      cases hy
      -- s follows itself: so does each lot that leads there
      have hall : ∀ d x, Stp b s d x → x = (s : Int) := by
        intro d
        induction d with
        | zero => intro x hx; cases hx; rfl
        | succ d ih =>
          intro x hx
          obtain ⟨y, hy, e', _⟩ := is_step hx
          rw [e', ih y hy]; exact e.symm
      have his := hall _ _ hsi1
      rw [← his] at e
      have h0 : 0 ≤ follows b i := by rw [← e]; exact hi.1
      have := (fol_at h0).2
      rw [← e] at this
      exact hne this.symm
    have hR := ring_least_of hr hsi hr2 r3 r4 fun k' x _ hx => by
      obtain ⟨m, hm, hmx⟩ := hgo k' x hx
      have hxi := hmx.is hi
      apply Classical.byContradiction
      intro hlt
      exact hmin x.toNat (by have := hxi.1; omega) ⟨m, hm, by rw [show ((x.toNat : Nat) : Int) = x from Int.toNat_of_nonneg hxi.1]; exact hmx⟩
    refine ⟨_, (mem_rings hr).2 ⟨s, by have := hsi.2; omega, hR⟩, ?_⟩
    -- i is on the way from s
    have hmem : ∀ d x, Stp b s d x → x ∈ stL b s r := by
      intro d
      induction d with
      | zero =>
        intro x hx; cases hx
        have := nth_mem (xs := stL b s r) (k := 0) (by rw [stL_len]; omega)
        rw [hR.head] at this; exact this
      | succ d ih =>
        intro x hx
        obtain ⟨y, hy, e, _⟩ := is_step hx
        rw [e]; exact hR.next (ih y hy)
    exact hmem _ _ hsi1
end Go.Proofs.Ytpnndljmhpepgaa

namespace Go.Proofs.Ytpnndljmhpepgaa
open Go Go.T
variable {b b' : Barn} {x k : Int}
def mustP (b : Barn) (j : Int) : Prop := ((b.at j).aim ≠ -1 ∧ (b.at j).aim ≠ (b.at j).inn) ∨ ((b.at j).aim = -1 ∧ ∃ m, b.is m ∧ (b.at m).aim = (b.at j).inn)
theorem must_iff {j : Int} (hj : b.is j) : j ∈ mustL b ↔ mustP b j := by
  have hj' := hj
  unfold Barn.is at hj'
  have e : j ∈ mustL b ↔ mustI b j.toNat = true := by
    unfold mustL
    rw [filtUp_mem]
    constructor
    · rintro ⟨n, _, h, e⟩; rw [show j.toNat = n by omega]; exact h
    · intro h; exact ⟨j.toNat, by omega, h, by omega⟩
  rw [e]
  unfold mustI mustP Barn.wanted
  simp only [Bool.or_eq_true, Bool.and_eq_true, Bool.not_eq_true', decide_eq_false_iff_not, decide_eq_true_eq, List.any_eq_true]
  constructor
  · rintro (h | ⟨h1, l, hl, e⟩)
    · exact .inl h
    · obtain ⟨n, hn, rfl⟩ := mem_nth hl
      exact .inr ⟨h1, (n : Int), ⟨by omega, by omega⟩, e⟩
  · rintro (h | ⟨h1, m, hm, e⟩)
    · exact .inl h
    · unfold Barn.is at hm
      exact .inr ⟨h1, _, nth_mem (k := m.toNat) (by omega), e⟩
theorem must_is {j : Int} (h : j ∈ mustL b) : b.is j := must_in b j h
structure Mv (b b' : Barn) (x k : Int) : Prop where
  right : b.Right
  right' : b'.Right
  is : b.is x
  len : b'.lots.length = b.lots.length
  inn : ∀ j, b.is j → (b'.at j).inn = if j = x then k else (b.at j).inn
  aim : ∀ j, b.is j → (b'.at j).aim = (b.at j).aim
  own : ∀ j, b.is j → (b.at j).aim = k → j = x
  must : mustP b x
  pos : 0 ≤ k
theorem Mv.is' (h : Mv b b' x k) {j : Int} : b'.is j ↔ b.is j := by unfold Barn.is; rw [h.len]
theorem Mv.fol (h : Mv b b' x k) {i : Int} {l : List Int} (hR : Ring b' i l) {j : Int} (hj : j ∈ l) : follows b' j ≠ x ∧ follows b j = follows b' j := by
  obtain ⟨h1, h2, h3, _, h5⟩ := hR.lot h.right' hj
  rw [h.is'] at h1 h2
  rw [h.aim j h1] at h3
  have hne : follows b' j ≠ x := fun e => by
    rw [e, h.inn x h.is, if_pos rfl] at h3
    have := h.own j h1 h3.symm
    exact h5 (e.trans this.symm)
  rw [h.inn _ h2, if_neg hne] at h3
  exact ⟨hne, fol_eq h.right h2 h3⟩
theorem Ring.pred {i : Int} {l : List Int} (h : Ring b i l) {y : Int} (hy : y ∈ l) : ∃ j ∈ l, follows b j = y := by
  obtain ⟨n, hn, rfl⟩ := mem_nth hy
  have two := h.two
  cases n with
  | zero => exact ⟨_, nth_mem (k := l.length - 1) (by omega), by rw [h.last, h.head]⟩
  | succ n => exact ⟨_, nth_mem (k := n) (by omega), h.fol n hn⟩
theorem Mv.ring (h : Mv b b' x k) {i : Int} {l : List Int} (hR : Ring b' i l) : Ring b i l := by
  have two := hR.two
  refine ⟨two, hR.head, fun y hy => by rw [← h.len]; exact hR.rng y hy, hR.zero, fun j hj => ?_, ?_, hR.nodup⟩
  · rw [(h.fol hR (nth_mem (k := j) (by omega))).2]; exact hR.fol j hj
  · rw [(h.fol hR (nth_mem (k := l.length - 1) (by omega))).2]; exact hR.last
theorem Mv.not_in (h : Mv b b' x k) {i : Int} {l : List Int} (hR : Ring b' i l) : x ∉ l := fun hx => by
  obtain ⟨j, hj, e⟩ := hR.pred hx
  exact (h.fol hR hj).1 e
theorem Mv.rings (h : Mv b b' x k) : ∀ l ∈ ringsL b', l ∈ ringsL b := fun l hl => by
  obtain ⟨i, hi, hR⟩ := (mem_rings h.right').1 hl
  exact (mem_rings h.right).2 ⟨i, by rw [← h.len]; exact hi, h.ring hR⟩
theorem rings_nd (hr : b.Right) : (ringsL b).Nodup := by
  rw [List.nodup_iff_pairwise_ne]
  exact (rings_apart hr).imp fun {l r} h e => by
    have h1 := h.1
    rw [e] at h1
    omega
theorem Mv.musts (h : Mv b b' x k) : ∀ j ∈ mustL b', j ∈ mustL b := fun j hj => by
  have h1 := must_is hj
  rw [must_iff h1] at hj
  rw [h.is'] at h1
  rw [must_iff h1]
  by_cases e : j = x
  · rw [e]; exact h.must
  · unfold mustP at hj ⊢
    rw [h.aim j h1, h.inn j h1, if_neg e] at hj
    rcases hj with hj | ⟨g1, m, hm, g2⟩
    · exact .inl hj
    · rw [h.is'] at hm
      rw [h.aim m hm] at g2
      exact .inr ⟨g1, m, hm, g2⟩
def costB (b : Barn) : Nat := (mustL b).length + (ringsL b).length
theorem Mv.fewer (h : Mv b b' x k) (hx : ¬ mustP b' x) : costB b' + 1 ≤ costB b := by
  have h1 := nodup_sub (rings_nd h.right') h.rings
  have hn : x ∉ mustL b' := fun hm => hx ((must_iff (h.is'.2 h.is)).1 hm)
  have h2 := nodup_sub (l := x :: mustL b') (L := mustL b) (List.nodup_cons.2 ⟨hn, filtUp_nodup _ _⟩) fun j hj => by
    rcases List.mem_cons.1 hj with rfl | hj
    · exact (must_iff h.is).2 h.must
    · exact h.musts j hj
  rw [List.length_cons] at h2
  unfold costB; omega
theorem Mv.opened (h : Mv b b' x k) (hx : ∃ l ∈ ringsL b, x ∈ l) : costB b' + 1 ≤ costB b := by
  obtain ⟨l0, hl0, hxl⟩ := hx
  have h2 : (mustL b').length ≤ (mustL b).length := nodup_sub (filtUp_nodup _ _) h.musts
  have hn : l0 ∉ ringsL b' := fun hm => by
    obtain ⟨i, _, hR⟩ := (mem_rings h.right').1 hm
    exact h.not_in hR hxl
  have h1 := nodup_sub (l := l0 :: ringsL b') (L := ringsL b) (List.nodup_cons.2 ⟨hn, rings_nd h.right'⟩) fun l hl => by
    rcases List.mem_cons.1 hl with rfl | hl
    · exact hl0
    · exact h.rings l hl
  rw [List.length_cons] at h1
  unfold costB; omega
structure Easy (b : Barn) : Prop where
  right : b.Right
  all : ∀ i k : Int, b.is i → 0 ≤ k → k < b.sizes.length → (b.at i).sacks ≤ nth b.sizes k.toNat
  room : b.lots.length < b.sizes.length
theorem put_at (h6 : b.lots.length ≤ 6) {t : Tur} (ht : b.is t.lot) {j : Int} (hj : b.is j) : (putP b (moved (firstP b) t)).at j = ⟨(b.at j).sacks, if j = t.lot then t.aim else (b.at j).inn, (b.at j).aim⟩ := by
  unfold Barn.is at ht hj
  show nth (putP b (moved (firstP b) t)).lots j.toNat = _
  rw [put_nth (by omega), moved_nth (by omega), first_nth h6 (by omega)]
  by_cases e : j = t.lot
  · rw [if_pos e, if_pos (by omega)]
  · rw [if_neg e, if_neg (by omega)]
theorem easy_turn (hE : Easy b) {x k : Int} (hx : b.is x) (hk : 0 ≤ k ∧ k < b.sizes.length) (hf : ∀ j, b.is j → (b.at j).inn ≠ k) (hown : ∀ j, b.is j → (b.at j).aim = k → j = x) (hm : mustP b x) :
    (⟨x, k⟩ : Tur) ∈ turnsL b (firstP b) ∧ Easy (putP b (moved (firstP b) ⟨x, k⟩)) ∧ Mv b (putP b (moved (firstP b) ⟨x, k⟩)) x k := by
  have hr := hE.right
  have h6 := hr.lots
  have ht : (⟨x, k⟩ : Tur) ∈ turnsL b (firstP b) := by
    refine mem_turnsL.2 ⟨hx.1, hx.2, hk.1, hk.2, ?_, decide_eq_true (hE.all x k hx hk.1 hk.2)⟩
    rw [takenP_not, first_inn h6]
    intro hc
    obtain ⟨l, hl, e⟩ := List.mem_map.1 hc
    obtain ⟨n, hn, rfl⟩ := mem_nth hl
    exact hf n ⟨by omega, by omega⟩ e
  have hr' := right_put hr (vp_moved h6 (vp_first hr) ht)
  have hat := fun j (hj : b.is j) => put_at h6 (t := ⟨x, k⟩) hx hj
  have hlen := put_len b (moved (firstP b) ⟨x, k⟩)
  refine ⟨ht, ⟨hr', fun i n hi h1 h2 => ?_, by rw [hlen]; exact hE.room⟩, ⟨hr, hr', hx, hlen, fun j hj => by rw [hat j hj], fun j hj => by rw [hat j hj], hown, hm, hk.1⟩⟩
  have hi : b.is i := by unfold Barn.is at hi ⊢; rw [hlen] at hi; exact hi
  rw [hat i hi]
  exact hE.all i n hi h1 h2
theorem free_is {k : Int} : b.free k = true ↔ ∀ j, b.is j → (b.at j).inn ≠ k := by
  rw [free_inn]
  constructor
  · intro h j hj e
    unfold Barn.is at hj
    exact h (List.mem_map.2 ⟨_, nth_mem (k := j.toNat) (by omega), e⟩)
  · intro h hm
    obtain ⟨l, hl, e⟩ := List.mem_map.1 hm
    obtain ⟨n, hn, rfl⟩ := mem_nth hl
    exact h n ⟨by omega, by omega⟩ e
theorem easy_step (hE : Easy b) (hne : mustL b ≠ []) : ∃ t, t ∈ turnsL b (firstP b) ∧ Easy (putP b (moved (firstP b) t)) ∧ costB (putP b (moved (firstP b) t)) + 1 ≤ costB b := by
  have hr := hE.right
  obtain ⟨x0, hx0⟩ : ∃ x, x ∈ mustL b := List.exists_mem_of_ne_nil _ hne
  have hx0i := must_is hx0
  rw [must_iff hx0i] at hx0
  by_cases cA : ∃ x, b.is x ∧ (b.at x).aim ≠ -1 ∧ (b.at x).aim ≠ (b.at x).inn ∧ b.free (b.at x).aim = true
  · obtain ⟨x, hx, h1, h2, h3⟩ := cA
    have ha : -1 ≤ (b.at x).aim ∧ (b.at x).aim < b.sizes.length := hr.aim _ (nth_mem (k := x.toNat) (by unfold Barn.is at hx; omega))
    have hk : 0 ≤ (b.at x).aim ∧ (b.at x).aim < b.sizes.length := ⟨by omega, ha.2⟩
    obtain ⟨g1, g2, g3⟩ := easy_turn hE hx hk (free_is.1 h3) (fun j hj e => at_aim hr hj hx e (by rw [e]; exact h1)) (.inl ⟨h1, h2⟩)
    refine ⟨_, g1, g2, g3.fewer fun hm => ?_⟩
    have e1 := g3.inn x hx
    have e2 := g3.aim x hx
    rw [if_pos rfl] at e1
    rcases hm with ⟨_, hm⟩ | ⟨hm, _⟩
    · rw [e1, e2] at hm; exact hm rfl
    · rw [e2] at hm; exact h1 hm
  · obtain ⟨k, hkm⟩ : ∃ k, k ∈ freeL b := by
      have h1 := free_count hr
      have h2 := hE.room
      exact List.exists_mem_of_length_pos (by omega)
    obtain ⟨n, hn, hfree, rfl⟩ := filtUp_mem.1 hkm
    have hfree : b.free (n : Int) = true := hfree
    have hk : 0 ≤ (n : Int) ∧ (n : Int) < b.sizes.length := by omega
    have hno : ∀ j, b.is j → (b.at j).aim ≠ (n : Int) := fun j hj e => cA ⟨j, hj, by rw [e]; omega, by rw [e]; exact fun e' => free_is.1 hfree j hj e'.symm, by rw [e]; exact hfree⟩
    have hown : ∀ x j, b.is j → (b.at j).aim = (n : Int) → j = x := fun x j hj e => absurd e (hno j hj)
    by_cases cB : ∃ x, b.is x ∧ mustP b x ∧ (b.at x).aim = -1
    · obtain ⟨x, hx, h1, h2⟩ := cB
      obtain ⟨g1, g2, g3⟩ := easy_turn hE hx hk (free_is.1 hfree) (hown x) h1
      refine ⟨_, g1, g2, g3.fewer fun hm => ?_⟩
      have e1 := g3.inn x hx
      have e2 := g3.aim x hx
      rw [if_pos rfl] at e1
      rcases hm with ⟨hm, _⟩ | ⟨_, m, hm, e⟩
      · rw [e2] at hm; exact hm h2
      · have hm : b.is m := g3.is'.1 hm
        rw [g3.aim m hm, e1] at e
        exact hno m hm e
    · obtain ⟨g1, g2, g3⟩ := easy_turn hE hx0i hk (free_is.1 hfree) (hown x0) hx0
      -- each lot that must be turned is followed by another one
      have hgo : ∀ m, ∃ y, Stp b x0 m y ∧ mustP b y ∧ b.is y := by
        intro m
        induction m with
        | zero => exact ⟨x0, .zero, hx0, hx0i⟩
        | succ m ih =>
          obtain ⟨y, hy, hym, hyi⟩ := ih
          have h1 : (b.at y).aim ≠ -1 := fun e => cB ⟨y, hyi, hym, e⟩
          have h2 : (b.at y).aim ≠ (b.at y).inn := by
            rcases hym with h | h
            · exact h.2
            · exact absurd h.1 h1
          have h3 : ¬ b.free (b.at y).aim = true := fun h => cA ⟨y, hyi, h1, h2, h⟩
          rw [free_is] at h3
          obtain ⟨z, h3⟩ := Classical.not_forall.1 h3
          obtain ⟨hz, h3⟩ := Classical.not_imp.1 h3
          have h3 := Classical.not_not.1 h3
          have hf := fol_eq hr hz h3
          refine ⟨z, by rw [← hf]; exact .step hy (by rw [hf]; exact hz.1), ?_, hz⟩
          by_cases c : (b.at z).aim = -1
          · exact .inr ⟨c, y, hyi, h3.symm⟩
          · refine .inl ⟨c, fun e => ?_⟩
            have : z = y := at_aim hr hz hyi (e.trans h3) c
            subst this
            exact h2 e
      have hne0 : (b.at x0).aim ≠ (b.at x0).inn := by
        rcases hx0 with h | h
        · exact h.2
        · exact absurd h.1 fun e => cB ⟨x0, hx0i, .inr h, e⟩
      exact ⟨_, g1, g2, g3.opened ((ring_iff hr hx0i).2 ⟨hne0, must_back hr hx0i fun m => let ⟨y, hy, _⟩ := hgo m; ⟨y, hy⟩⟩)⟩
theorem must_none (hr : b.Right) (h : mustL b = []) : rightV b [] = true := by
  refine (right_iff hr.lots).2 ⟨firstP b, rfl, ?_⟩
  unfold madeP
  rw [List.all_eq_true]
  intro i hi
  have hi := List.mem_range.1 hi
  have his : b.is (i : Int) := ⟨by omega, by omega⟩
  have hn : ¬ mustP b (i : Int) := fun hm => by
    have := (must_iff his).2 hm
    rw [h] at this; cases this
  rw [first_nth hr.lots hi, Bool.or_eq_true, decide_eq_true_eq, decide_eq_true_eq]
  by_cases c : (nth b.lots i).aim = -1
  · exact .inl c
  · refine .inr ?_
    apply Classical.byContradiction
    intro e
    exact hn (.inl ⟨c, e⟩)
theorem easy_plan : ∀ (n : Nat) {b : Barn}, Easy b → costB b ≤ n → ∃ l, rightV b l = true ∧ l.length ≤ costB b
  | n, b, hE, hn => by
    have hr := hE.right
    by_cases c : mustL b = []
    · exact ⟨[], must_none hr c, Nat.zero_le _⟩
    · obtain ⟨t, h1, h2, h3⟩ := easy_step hE c
      cases n with
      | zero => omega
      | succ n =>
        obtain ⟨l, g1, g2⟩ := easy_plan n h2 (by omega)
        refine ⟨t :: l, ?_, by rw [List.length_cons]; omega⟩
        obtain ⟨q, e1, e2⟩ := (right_iff h2.right.lots).1 g1
        rw [firstP_put hr (goP_one h1), goP_put] at e1
        rw [made_put] at e2
        exact (right_iff hr.lots).2 ⟨q, by rw [goP_cons' h1]; exact e1, e2⟩
structure Best (b : Barn) (plain : Bool) : Prop where
  plan : planE b oneC = 0 → (((planR b oneC).length : Int) = costR b oneC ∧ rightV b (planR b oneC) = true) ∧ ((mustL b).length : Int) + (ringsL b).length ≤ costR b oneC ∧ (costR b oneC = 0 ↔ (mustL b).length = 0)
  easy : plain = true → planE b oneC = 0 ∧ costR b oneC = ((mustL b).length : Int) + (ringsL b).length
  err : planE b oneC = 0 ∨ planE b oneC = 7
  few : ∀ l, rightV b l = true → planE b oneC = 0 ∧ costR b oneC ≤ l.length
theorem best (hr : b.Right) {plain : Bool} (he : plain = true → Easy b) : Best b plain := by
  have hc := cheap hr (one_ok b)
  have few : ∀ l, rightV b l = true → planE b oneC = 0 ∧ costR b oneC ≤ l.length := fun l hl => by
    rcases hc.err with e | e
    · have := (hc.yes e).2.2 l hl
      rw [cost_one] at this
      exact ⟨e, this⟩
    · rw [(hc.no e).2.2 l] at hl; cases hl
  have hplan : planE b oneC = 0 → (((planR b oneC).length : Int) = costR b oneC ∧ rightV b (planR b oneC) = true) ∧ ((mustL b).length : Int) + (ringsL b).length ≤ costR b oneC ∧ (costR b oneC = 0 ↔ (mustL b).length = 0) := fun e => by
    obtain ⟨h1, h2, h3⟩ := hc.yes e
    rw [cost_one] at h2
    have h4 := ring_least hr h1
    refine ⟨⟨h2, h1⟩, by omega, fun h => by omega, fun h => ?_⟩
    have h5 := h3 [] (must_none hr (List.length_eq_zero_iff.1 h))
    rw [cost_one, List.length_nil] at h5
    omega
  refine ⟨hplan, fun hp => ?_, hc.err, few⟩
  obtain ⟨l, h1, h2⟩ := easy_plan _ (he hp) (Nat.le_refl _)
  obtain ⟨h3, h4⟩ := few l h1
  have h5 := (hplan h3).2.1
  unfold costB at h2
  exact ⟨h3, by omega⟩
end Go.Proofs.Ytpnndljmhpepgaa

namespace Go.Proofs.Ytpnndljmhpepgaa
open Go Go.T
def Md.psizes (d : Md) : List Int := List.replicate d.n 60
def Md.pmany (d : Md) : Nat := min d.many (d.n - 1)
def Md.psackV (d : Md) (s : Sk) (k : Nat) : Int := skAmong s 1 (nth d.psizes (nth d.ks.1 k).toNat)
def Md.plotV (d : Md) (s : Sk) (k : Nat) : Lot := ⟨if d.aimV s k ≠ -1 ∧ nth d.psizes (d.aimV s k).toNat < d.psackV s k then nth d.psizes (d.aimV s k).toNat else d.psackV s k, nth d.ks.1 k, d.aimV s k⟩
def Md.plt (d : Md) : Nat → List Lot × Sk
  | 0 => ([], d.ks.2)
  | k + 1 => ((d.plt k).1 ++ [d.plotV (d.plt k).2 k], skNext (skNext (d.plt k).2))
def Md.pbarn (d : Md) : Barn := ⟨d.psizes, (d.plt d.pmany).1⟩
def Md.psk (d : Md) : Sk := (d.plt d.pmany).2
variable {d : Md}
theorem Md.psizes_ok (d : Md) : d.psizes.length = d.n ∧ (∀ x ∈ d.psizes, 20 ≤ x ∧ x ≤ 60) := ⟨List.length_replicate, fun x hx => by rw [List.eq_of_mem_replicate hx]; omega⟩
theorem Md.pmany_in (h : d.Ok) : d.pmany + 1 ≤ d.n ∧ (d.pmany : Int) ≤ d.lots ∧ (d.pmany : Int) = min (d.many : Int) ((d.n : Int) - 1) := by
  have h1 := d.n_in h
  have h2 := d.many_in h
  unfold Md.pmany; omega
theorem Md.plt_len (d : Md) : ∀ k, (d.plt k).1.length = k ∧ (d.plt k).2.taken = d.s.taken + 2 + 3 * d.n + 2 * k
  | 0 => ⟨rfl, by show d.ks.2.taken = _; rw [d.ks_ok.2.2.2]; simp⟩
  | k + 1 => by
    obtain ⟨h1, h2⟩ := d.plt_len k
    refine ⟨by show ((d.plt k).1 ++ [_]).length = _; rw [List.length_append, h1]; rfl, ?_⟩
    show (skNext (skNext _)).taken = _
    rw [skNext_taken, skNext_taken, h2]; omega
theorem Md.plt_nth (d : Md) : ∀ k i, i < k → nth (d.plt k).1 i = d.plotV (d.plt i).2 i
  | 0, i, h => by omega
  | k + 1, i, h => by
    have hl := (d.plt_len k).1
    show nth ((d.plt k).1 ++ [d.plotV (d.plt k).2 k]) i = _
    unfold nth
    by_cases e : i < k
    · rw [List.getD_eq_getElem?_getD, List.getElem?_append_left (by omega), ← List.getD_eq_getElem?_getD]
      exact d.plt_nth k i e
    · have e : i = k := by omega
      subst e
      rw [List.getD_eq_getElem?_getD, List.getElem?_append_right (by omega), hl]; simp
theorem Md.psize_at (d : Md) {x : Int} (h : 0 ≤ x ∧ x < (d.n : Int)) : 20 ≤ nth d.psizes x.toNat ∧ nth d.psizes x.toNat ≤ 60 := d.psizes_ok.2 _ (nth_mem (by rw [d.psizes_ok.1]; omega))
theorem Md.plot_ok (d : Md) (s : Sk) {k : Nat} (hk : k < d.n) : (0 ≤ nth d.ks.1 k ∧ nth d.ks.1 k < (d.n : Int)) ∧ (d.aimV s k = -1 ∨ (d.aimV s k = nth d.to.1 k ∧ 0 ≤ nth d.to.1 k ∧ nth d.to.1 k < (d.n : Int))) ∧ 1 ≤ d.psackV s k ∧ d.psackV s k ≤ nth d.psizes (nth d.ks.1 k).toNat := by
  have h1 := d.ks_ok.2.2.1 _ (nth_mem (xs := d.ks.1) (k := k) (by rw [d.ks_ok.1]; exact hk))
  have h2 := d.to_ok.2.2.1 _ (nth_mem (xs := d.to.1) (k := k) (by rw [d.to_ok.1]; exact hk))
  have h3 := d.psize_at h1
  refine ⟨h1, ?_, ?_⟩
  · unfold Md.aimV
    by_cases e : skRare (skNext s) 4 = true
    · exact .inl (if_pos e)
    · exact .inr ⟨if_neg e, h2⟩
  · exact skAmong_in s (by omega)
theorem Md.pright (h : d.Ok) : d.pbarn.Right := by
  have hn := d.n_in h
  have hm := d.pmany_in h
  have hs := d.psizes_ok
  have hl := (d.plt_len d.pmany).1
  have hlots : d.pbarn.lots.length = d.pmany := hl
  have hsz : d.pbarn.sizes.length = d.n := hs.1
  have key : ∀ l ∈ d.pbarn.lots, ∃ i, i < d.pmany ∧ l = d.plotV (d.plt i).2 i := fun l hl' => by
    obtain ⟨i, hi, rfl⟩ := mem_nth hl'
    rw [hlots] at hi
    exact ⟨i, hi, d.plt_nth _ i hi⟩
  have hlo := h.lots
  have hsack : ∀ i, i < d.pmany → 1 ≤ (d.plotV (d.plt i).2 i).sacks ∧ (d.plotV (d.plt i).2 i).sacks ≤ nth d.psizes (nth d.ks.1 i).toNat ∧ ((d.plotV (d.plt i).2 i).aim ≠ -1 → (d.plotV (d.plt i).2 i).sacks ≤ nth d.psizes (d.plotV (d.plt i).2 i).aim.toNat) := fun i hi => by
    obtain ⟨e1, e2, e3, e4⟩ := d.plot_ok (d.plt i).2 (k := i) (by omega)
    unfold Md.plotV
    show 1 ≤ ite _ _ _ ∧ ite _ _ _ ≤ _ ∧ (d.aimV _ _ ≠ -1 → ite _ _ _ ≤ _)
    by_cases c : d.aimV (d.plt i).2 i ≠ -1 ∧ nth d.psizes (d.aimV (d.plt i).2 i).toNat < d.psackV (d.plt i).2 i
    · rw [if_pos c]
      rcases e2 with e2 | ⟨e2, e5⟩
      · exact absurd e2 c.1
      · have := d.psize_at (x := d.aimV (d.plt i).2 i) (by omega)
        exact ⟨by omega, by omega, fun _ => Int.le_refl _⟩
    · rw [if_neg c]
      refine ⟨e3, e4, fun hne => ?_⟩
      show d.psackV (d.plt i).2 i ≤ nth d.psizes (d.aimV (d.plt i).2 i).toNat
      · by_cases c2 : nth d.psizes (d.aimV (d.plt i).2 i).toNat < d.psackV (d.plt i).2 i
        · exact absurd ⟨hne, c2⟩ c
        · omega
  refine ⟨by omega, by omega, fun x hx => by have := hs.2 x hx; omega, fun l hl' => ?_, fun l hl' => ?_, fun l hl' => ?_, fun i k hk hi => ?_, fun i hi => ?_⟩
  · obtain ⟨i, hi, rfl⟩ := key l hl'
    have h1 := hsack i hi
    have h2 := d.psize_at (d.plot_ok (d.plt i).2 (k := i) (by omega)).1
    omega
  · obtain ⟨i, hi, rfl⟩ := key l hl'
    have h2 := (d.plot_ok (d.plt i).2 (k := i) (by omega)).1
    show 0 ≤ nth d.ks.1 i ∧ nth d.ks.1 i < _
    rw [hsz]; exact h2
  · obtain ⟨i, hi, rfl⟩ := key l hl'
    have h2 := (d.plot_ok (d.plt i).2 (k := i) (by omega)).2.1
    show -1 ≤ d.aimV _ _ ∧ d.aimV _ _ < _
    rw [hsz]; omega
  · rw [hlots] at hi
    have e1 : nth d.pbarn.lots i = d.plotV (d.plt i).2 i := d.plt_nth _ i hi
    have e2 : nth d.pbarn.lots k = d.plotV (d.plt k).2 k := d.plt_nth _ k (by omega)
    rw [e1, e2]
    refine ⟨fun e => ?_, fun e => ?_⟩
    · have := nodup_nth d.ks_ok.2.1 (i := i) (k := k) (by rw [d.ks_ok.1]; omega) (by rw [d.ks_ok.1]; omega) e
      omega
    · have e : d.aimV (d.plt i).2 i = d.aimV (d.plt k).2 k := e
      show d.aimV (d.plt i).2 i = -1
      rcases (d.plot_ok (d.plt i).2 (k := i) (by omega)).2.1 with h1 | ⟨h1, h1'⟩
      · exact h1
      · rcases (d.plot_ok (d.plt k).2 (k := k) (by omega)).2.1 with h2 | ⟨h2, h2'⟩
        · omega
        · have := nodup_nth d.to_ok.2.1 (i := i) (k := k) (by rw [d.to_ok.1]; omega) (by rw [d.to_ok.1]; omega) (by omega)
          omega
  · rw [hlots] at hi
    have e1 : nth d.pbarn.lots i = d.plotV (d.plt i).2 i := d.plt_nth _ i hi
    rw [e1]
    exact ⟨(hsack i hi).2.1, (hsack i hi).2.2⟩
theorem Md.peasy (h : d.Ok) : Easy d.pbarn := by
  have hn := d.n_in h
  have hm := d.pmany_in h
  have hl := (d.plt_len d.pmany).1
  have hlots : d.pbarn.lots.length = d.pmany := hl
  have hsz : d.pbarn.sizes.length = d.n := d.psizes_ok.1
  refine ⟨Md.pright h, fun i k hi h0 h1 => ?_, by omega⟩
  have hr := Md.pright h
  have e : ∀ x : Int, 0 ≤ x → x < d.pbarn.sizes.length → nth d.pbarn.sizes x.toNat = 60 := fun x g0 g1 => List.eq_of_mem_replicate (nth_mem (xs := d.pbarn.sizes) (k := x.toNat) (by omega))
  unfold Barn.is at hi
  have h2 := (hr.holds i.toNat (by omega)).1
  have h3 := hr.inn _ (nth_mem (xs := d.pbarn.lots) (k := i.toNat) (by omega))
  rw [e _ h3.1 h3.2] at h2
  rw [e _ h0 h1]; exact h2
end Go.Proofs.Ytpnndljmhpepgaa

namespace Go.Proofs.Ytpnndljmhpepgaa
open Go Go.T
set_option maxHeartbeats 4000000
attribute [local irreducible] dInt dBool dSl dPp dPtr dAgg dTup dClo dAny dEx dStr dGd dCells dVec dVs dRow dOp nth Tri Into TOps Ctr bodyPost Exit.then Exit.inBlock Code.wp Code.wpIn dWhen dPa dPe dAo dArr dMp dPm dMap dCJ CtrG CtrI OpY keepPost iterPost bodyPostM roundQ
theorem paim_in {d : Md} {s : Sk} {i : Nat} (hi : i < d.n) (h : (!decide (d.aimV s i = -1)) = true) : 0 ≤ d.aimV s i ∧ (d.aimV s i).toNat < d.psizes.length := by
  have h1 := (d.plot_ok s hi).2.1
  have h2 := d.psizes_ok.1
  simp only [Bool.not_eq_true', decide_eq_false_iff_not] at h
  omega
theorem psack_less {d : Md} {s : Sk} {i : Nat} (h : (!decide (d.aimV s i = -1) && decide (nth d.psizes (d.aimV s i).toNat < d.psackV s i)) = true) : nth d.psizes (d.aimV s i).toNat = (d.plotV s i).sacks := (if_pos (less_yes h)).symm
theorem psack_same {d : Md} {s : Sk} {i : Nat} (h : (!decide (d.aimV s i = -1) && decide (nth d.psizes (d.aimV s i).toNat < d.psackV s i)) = false) : d.psackV s i = (d.plotV s i).sacks := (if_neg (less_no h)).symm
theorem plt_zero (d : Md) : d.plt 0 = ([], d.ks.2) := rfl
theorem plt_succ (d : Md) (k : Nat) : d.plt (k + 1) = ((d.plt k).1 ++ [d.plotV (d.plt k).2 k], skNext (skNext (d.plt k).2)) := rfl
def setU (d : Md) (k : Nat) : List Int := List.replicate k 60 ++ (d.up d.n).1.drop k
theorem setU_zero (d : Md) : (d.up d.n).1 = setU d 0 := by unfold setU; rw [List.drop_zero]; rfl
theorem setU_succ {d : Md} {k : Nat} (hk : k < (d.up d.n).1.length) : (setU d k).set k 60 = setU d (k + 1) := by
  unfold setU
  rw [List.set_append_right _ _ (by simp), List.length_replicate, Nat.sub_self, List.replicate_succ', List.append_assoc, List.drop_eq_getElem_cons hk]; rfl
theorem setU_all {d : Md} {k : Nat} (hk : (d.up d.n).1.length = k) (hn : k = d.n) : setU d k = d.psizes := by
  unfold setU Md.psizes; rw [List.drop_of_length_le (by omega), List.append_nil, hn]
theorem setU_len {d : Md} {k : Nat} (hk : k ≤ (d.up d.n).1.length) : (setU d k).length = (d.up d.n).1.length := by
  unfold setU; rw [List.length_append, List.length_replicate, List.length_drop]; omega
attribute [local irreducible] Md.up Md.to Md.ks Md.plt Md.aimV Md.psackV shufUp Md.n Md.many Md.pmany Md.psizes setU
set_option maxRecDepth 100000 in
theorem c_MadeP (d : Md) (hd : d.Ok) (h : d.s.Ok 1000) : CtrG Try.prog 50 [1000] [(1000, Cont.cells 141 (skTys d.s))] [Ty.ptr 1000 0, Ty.int .i64 d.bins, Ty.int .i64 d.lots, Ty.bool true] [(1000, Cont.cells 141 (skTys d.psk))] (barnT d.pbarn) := by
  refine fnG_intro Try.func50 rfl (by decide) Try.ntmps50 (by exact Nat.le_of_ble_eq_true rfl) fun w0 M0 => ?_
  have h0 : 0 ≤ d.s.taken ∧ d.s.taken + 1000 ≤ 4611686018427387904 := h
  have hdb := hd.bins
  have hdl := hd.lots
  have hn := d.n_in hd
  have hm := d.pmany_in hd
  have hmm := d.many_in hd
  have hsz := d.psizes_ok
  have hto := d.to_ok
  have hks := d.ks_ok
  have hs1 := skNext_taken d.s
  have hup : ∀ k, (d.up k).1.length = k ∧ (d.up k).2.taken = d.s.taken + 1 + k := fun k => ⟨by unfold Md.up; exact (sizeUp_ok _ k).1, d.up_taken k⟩
  refine t_seq ?_
  refine t_region ?_
  refine r_alloc rfl (by exact List.cons_ne_nil _ _) rfl ?_
  refine r_nil ?_
  refine i_then ?_
  refine t_seq ?_
  refine t_region ?_
  refine r_alloc rfl (by exact List.cons_ne_nil _ _) rfl ?_
  refine r_nil ?_
  refine i_then ?_
  refine t_seq ?_
  refine t_seq ?_
  refine t_region ?_
  refine mvO rfl ?_
  refine mvI rfl ?_
  refine r_callG [(1000, 1000)] [] [(1000, Cont.cells 141 (skTys (skNext d.s)))] (c_Among d.s ⟨by omega, by omega⟩ 2 d.bins (by omega) (by omega)) rfl rfl (by repeat (first | exact cv_nil | refine cv_cons ?_ ?_ | exact cv_ptr List.mem_cons_self | exact cv_pub rfl rfl)) (pre_cons (a := 1000) (b := 1000) (by exact List.mem_cons_self) rfl (cc_cells_eq (by exact List.mem_cons_self) rfl rfl rfl) pre_nil) (post_cons (a := 1000) (b := 1000) (by exact List.mem_cons_self) rfl (cc_cells_eq (by exact List.mem_cons_self) rfl rfl rfl) post_nil) (cv_pub rfl rfl) ?_
  refine mvI rfl ?_
  refine r_nil ?_
  refine i_then ?_
  refine t_block ?_
  refine t_loop (fun (k : {k : Nat // k ≤ d.n}) => live [(0, Ty.ptr 1000 0), (2, Ty.int .i64 d.lots), (3, Ty.bool true), (8, Ty.ptr 9 0), (9, Ty.ptr 10 0), (18, Ty.int .i64 (d.n : Nat)), (19, Ty.int .i64 (k.1 : Nat))] [(9, Cont.cells 25 [Ty.ex (.slice none 0 0), Ty.ex (.slice none 0 0)]), (10, Cont.cells 25 [Ty.row I64 3 27 (d.up k.1).1, Ty.ex (.slice none 0 0)]), (1000, Cont.cells 141 (skTys (d.up k.1).2))]) (fun k => d.n - k.1) (⟨0, by omega⟩) ?_ fun k => ?_
  · (refine Ent.mk' ?_ ?_ <;> (repeat' (first | exact allSub_zero | exact allTags_nil | exact subs_nil | refine allSub_succ' ?_ (Ty.sub_any _) | refine allSub_succ' ?_ (Ty.sub_refl _) | refine allTags_cons rfl (Cont.sub_refl _) ?_ | refine allTags_cons rfl (Cont.sub_subs ?_) ?_ | refine subs_cons ?_ (Ty.sub_refl _) | refine subs_cons ?_ ?_ | refine allSub_succ' ?_ ?_)))
    all_goals first | exact Ty.sub_int hn.2.2.2.symm | exact Ty.sub_int (congrArg (fun p : List Int × Sk => p.2.mixed) (up_zero d).symm) | exact Ty.sub_int (congrArg (fun p : List Int × Sk => p.2.taken) (up_zero d).symm) | exact Ty.sub_sl (congrArg (fun p : List Int × Sk => p.2.grain) (up_zero d).symm) | exact nil_row_eq (congrArg Prod.fst (up_zero d).symm)
  ·
    have hk := k.2
    have hul := (hup k.1).1
    have hut := (hup k.1).2
    refine t_seq ?_
    refine t_region ?_
    refine r_bin rfl rfl rfl ?_
    refine r_nil ?_
    refine i_then ?_
    refine t_seq ?_
    refine t_cond_dec rfl (fun hc1 => ?_) (fun hc1 => ?_)
    ·
      refine t_skip ?_
      refine i_then ?_
      refine t_seq ?_
      refine t_block ?_
      refine t_draw mixed rfl ?_
      refine r_field_ptr rfl rfl rfl rfl rfl (by decide) ?_
      refine r_load_ptr rfl rfl (by decide) rfl rfl rfl ?_
      refine mvO rfl ?_
      refine r_callG [(1000, 1000)] [] [(1000, Cont.cells 141 (skTys (skNext (d.up k.1).2)))] (c_Among (d.up k.1).2 ⟨by omega, by omega⟩ 20 60 (by omega) (by omega)) rfl rfl (by repeat (first | exact cv_nil | refine cv_cons ?_ ?_ | exact cv_ptr List.mem_cons_self | exact cv_pub rfl rfl)) (pre_cons (a := 1000) (b := 1000) (by exact List.mem_cons_self) rfl (cc_cells_eq (by exact List.mem_cons_self) rfl rfl rfl) pre_nil) (post_cons (a := 1000) (b := 1000) (by exact List.mem_cons_self) rfl (cc_cells_eq (by exact List.mem_cons_self) rfl rfl rfl) post_nil) (cv_pub rfl rfl) ?_
      refine r_buildSlice (E := I64) (xs := [_]) rfl rfl rfl rfl rfl (by decide) (by decide) (by repeat (first | exact (Parts.nil : Parts _ _ [] _) | (show Parts _ _ ((_, _) :: _) _; apply Parts.one; (· exact (rfl : _ = Ty.int _ _)); (· exact rfl)))) (by exact rfl) rfl ?_
      refine r_append rfl rfl (by decide) rfl rfl rfl rfl rfl rfl (by decide) (by (simp <;> omega)) (by (simp <;> omega)) ?_
      refine r_field_ptr rfl rfl rfl rfl rfl (by decide) ?_
      refine r_store1 rfl rfl (by decide) rfl rfl (by exact (rfl : _ = Ty.row _ _ _ _)) rfl (by exact Nat.le_of_ble_eq_true rfl) rfl rfl (by exact rfl) ?_
      refine r_nil ?_
      refine ⟨by kernel_rfl, ?_⟩
      refine i_block ?_
      refine i_then ?_
      refine t_region ?_
      refine r_add rfl rfl (by omega) (by omega) ?_
      refine mvI rfl ?_
      refine r_nil ?_
      refine i_round (⟨k.1 + 1, by omega⟩) ?_ (by show d.n - (k.1 + 1) < d.n - k.1; omega)
      (refine Ent.mk' ?_ ?_ <;> (repeat' (first | exact allSub_zero | exact allTags_nil | exact subs_nil | refine allSub_succ' ?_ (Ty.sub_any _) | refine allSub_succ' ?_ (Ty.sub_refl _) | refine allTags_cons rfl (Cont.sub_refl _) ?_ | refine allTags_cons rfl (Cont.sub_subs ?_) ?_ | refine subs_cons ?_ (Ty.sub_refl _) | refine subs_cons ?_ ?_)))
      all_goals skip
      all_goals first | exact Ty.sub_row (congrArg Prod.fst (up_succ d _)).symm | exact Ty.sub_int (congrArg (fun p : List Int × Sk => p.2.mixed) (up_succ d _).symm) | exact Ty.sub_int (congrArg (fun p : List Int × Sk => p.2.taken) (up_succ d _).symm) | exact Ty.sub_sl (congrArg (fun p : List Int × Sk => p.2.grain) (up_succ d _).symm)
    ·
      refine t_exit ?_
      refine i_then_exit ?_
      refine i_then_exit ?_
      refine i_block_exit rfl ?_
      refine i_then ?_
      refine t_seq ?_
      obtain ⟨k, hk⟩ := k
      obtain rfl : k = d.n := by have h1 : ¬ (k : Int) < (d.n : Int) := hc1; have h2 : k ≤ d.n := hk; omega
      have hun := (hup d.n).1
      have hut := (hup d.n).2
      refine t_region ?_
      refine mvO rfl ?_
      refine mvI rfl ?_
      refine r_field_ptr rfl rfl rfl rfl rfl (by decide) ?_
      refine r_load_ptr rfl rfl (by decide) rfl rfl rfl ?_
      refine r_len_row rfl rfl rfl ?_
      refine r_min rfl rfl ?_
      refine r_add rfl rfl (by omega) (by omega) ?_
      refine r_callG [(1000, 1000)] [] [(1000, Cont.cells 141 (skTys (skNext (d.up d.n).2)))] (c_Below (d.up d.n).2 ⟨by omega, by omega⟩ _) rfl rfl (by repeat (first | exact cv_nil | refine cv_cons ?_ ?_ | exact cv_ptr List.mem_cons_self | exact cv_pub rfl rfl)) (pre_cons (a := 1000) (b := 1000) (by exact List.mem_cons_self) rfl (cc_cells_eq (by exact List.mem_cons_self) rfl rfl rfl) pre_nil) (post_cons (a := 1000) (b := 1000) (by exact List.mem_cons_self) rfl (cc_cells_eq (by exact List.mem_cons_self) rfl rfl rfl) post_nil) (cv_pub rfl rfl) ?_
      refine asI rfl ?_
      refine r_nil ?_
      refine i_then ?_
      refine t_seq ?_
      refine t_seq ?_
      refine t_region ?_
      refine mvB rfl ?_
      refine r_nil ?_
      refine i_then ?_
      refine t_cond_tt rfl (rfl) ?_
      refine t_seq ?_
      refine t_as (s := 10) rfl (Ty.sub_int (show skBelow (d.up d.n).2 (min d.lots ((d.up d.n).1.length : Nat) + 1) = (d.many : Nat) by rw [hun]; exact hmm.2.2.symm)) ?_
      refine t_region ?_
      refine mvI rfl ?_
      refine r_field_ptr rfl rfl rfl rfl rfl (by decide) ?_
      refine r_load_ptr rfl rfl (by decide) rfl rfl rfl ?_
      refine r_len_row rfl rfl rfl ?_
      refine r_sub rfl rfl (by omega) (by omega) ?_
      refine r_min rfl rfl ?_
      refine asI rfl ?_
      refine r_nil ?_
      refine i_then ?_
      refine t_seq ?_
      refine t_own (s := 40) rfl rfl ?_
      refine t_asC (tg := 10) rfl (Cont.sub_cellsL (l' := [Ty.vs 27 (setU d 0).length, Ty.ex (.slice none 0 0)]) ⟨Ty.row_vs (congrArg List.length (setU_zero d)), Ty.sub_refl _, trivial⟩) ?_
      refine t_region ?_
      refine r_field_ptr rfl rfl rfl rfl rfl (by decide) ?_
      refine r_load_ptr rfl rfl (by decide) rfl rfl rfl ?_
      refine r_len_vs rfl rfl rfl ?_
      refine mvI rfl ?_
      refine r_nil ?_
      refine i_then ?_
      refine t_block ?_
      refine t_loop (fun (q : {q : Nat // q ≤ d.n}) => live [(0, Ty.ptr 1000 0), (8, Ty.ptr 9 0), (9, Ty.ptr 10 0), (10, Ty.int .i64 (d.pmany : Nat)), (46, Ty.int .i64 (d.n : Nat)), (47, Ty.int .i64 (q.1 : Nat))] [(9, Cont.cells 25 [Ty.ex (.slice none 0 0), Ty.ex (.slice none 0 0)]), (10, Cont.cells 25 [Ty.vs 27 (setU d q.1).length, Ty.ex (.slice none 0 0)]), (27, Cont.vec I64 3 (setU d q.1)), (1000, Cont.cells 141 (skTys (skNext (d.up d.n).2)))]) (fun q => d.n - q.1) (⟨0, by omega⟩) ?_ fun q => ?_
      · (refine Ent.mk' ?_ ?_ <;> (repeat' (first | exact allSub_zero | exact allTags_nil | refine allSub_succ' ?_ (Ty.sub_any _) | refine allSub_succ' ?_ (Ty.sub_refl _) | refine allTags_cons rfl (Cont.sub_refl _) ?_ | refine allTags_cons rfl ?_ ?_ | refine allSub_succ' ?_ ?_)))
        all_goals first | exact Ty.sub_int (show min (d.many : Int) (((d.up d.n).1.length : Int) - 1) = (d.pmany : Nat) by rw [hun]; exact hm.2.2.symm) | exact Ty.sub_int (show ((setU d 0).length : Int) = (d.n : Nat) by rw [setU_len (Nat.zero_le _), hun]) | exact Cont.sub_vec (setU_zero d)
      ·
        have hq := q.2
        have hsl := setU_len (d := d) (k := q.1) (by omega)
        refine t_seq ?_
        refine t_region ?_
        refine r_bin rfl rfl rfl ?_
        refine r_nil ?_
        refine i_then ?_
        refine t_seq ?_
        refine t_cond_dec rfl (fun hc3 => ?_) (fun hc3 => ?_)
        ·
          refine t_skip ?_
          refine i_then ?_
          refine t_seq ?_
          refine t_block ?_
          refine t_seq ?_
          refine t_region ?_
          refine mvI rfl ?_
          refine asI rfl ?_
          refine r_nil ?_
          refine i_then ?_
          refine t_region ?_
          refine r_field_ptr rfl rfl rfl rfl rfl (by decide) ?_
          refine r_load_ptr rfl rfl (by decide) rfl rfl rfl ?_
          refine mvI rfl ?_
          refine r_index_vs rfl rfl rfl rfl rfl (by omega) ?_
          refine r_store_vecB rfl rfl rfl (by decide) rfl rfl (by exact (rfl : _ = Ty.int _ _)) rfl (by omega) (by decide) rfl rfl ?_
          refine r_nil ?_
          refine i_block ?_
          refine i_then ?_
          refine t_region ?_
          refine r_add rfl rfl (by omega) (by omega) ?_
          refine mvI rfl ?_
          refine r_nil ?_
          refine i_round (⟨q.1 + 1, by omega⟩) ?_ (by show d.n - (q.1 + 1) < d.n - q.1; omega)
          (refine Ent.mk' ?_ ?_ <;> (repeat' (first | exact allSub_zero | exact allTags_nil | exact subs_nil | refine allSub_succ' ?_ (Ty.sub_any _) | refine allSub_succ' ?_ (Ty.sub_refl _) | refine allTags_cons rfl (Cont.sub_refl _) ?_ | refine allTags_cons rfl (Cont.sub_subs ?_) ?_ | refine subs_cons ?_ (Ty.sub_refl _) | refine subs_cons ?_ ?_ | refine allTags_cons rfl ?_ ?_)))
          all_goals skip
          all_goals first | exact Cont.sub_vec (setU_succ (by omega)) | exact Ty.sub_eq (congrArg (Ty.vs 27) ((setU_len (d := d) (k := q.1) (by omega)).trans (setU_len (d := d) (k := q.1 + 1) (by omega)).symm))
        ·
          refine t_exit ?_
          refine i_then_exit ?_
          refine i_then_exit ?_
          refine i_block_exit rfl ?_
          refine i_then ?_
          refine t_seq ?_
          obtain ⟨q, hq⟩ := q
          obtain rfl : q = d.n := by have h1 : ¬ (q : Int) < (d.n : Int) := hc3; have h2 : q ≤ d.n := hq; omega
          have hst := skNext_taken (d.up d.n).2
          have hps := setU_all (d := d) hun rfl
          refine t_pubC (tg := 27) [] [(10, Cont.cells 25 [Ty.sl I64 (setU d d.n), Ty.ex (.slice none 0 0)])] (by decide) rfl trivial ⟨pubC_cells rfl rfl ⟨pubTy_vs rfl rfl (by decide), pubTy_same rfl, trivial⟩, trivial⟩ ?_
          refine t_asC (tg := 10) rfl (Cont.sub_cells (congrArg (fun l => [Ty.sl I64 l, Ty.ex (.slice none 0 0)]) hps)) ?_
          refine t_forget (B := live [(0, Ty.ptr 1000 0), (8, Ty.ptr 9 0), (9, Ty.ptr 10 0), (10, Ty.int .i64 (d.pmany : Nat))] [(9, Cont.cells 25 [Ty.ex (.slice none 0 0), Ty.ex (.slice none 0 0)]), (10, Cont.cells 25 [Ty.sl I64 d.psizes, Ty.ex (.slice none 0 0)]), (1000, Cont.cells 141 (skTys (skNext (d.up d.n).2)))]) ?_ ?_
          · (refine Ent.mk' ?_ ?_ <;> (repeat' (first | exact allSub_zero | exact allTags_nil | refine allSub_succ' ?_ (Ty.sub_any _) | refine allSub_succ' ?_ (Ty.sub_refl _) | refine allTags_cons rfl (Cont.sub_refl _) ?_)))
          refine t_region ?_
          refine mvO rfl ?_
          refine r_field_ptr rfl rfl rfl rfl rfl (by decide) ?_
          refine r_load_ptr rfl rfl (by decide) rfl rfl rfl ?_
          refine r_len rfl rfl rfl ?_
          refine r_callG [(1000, 1000)] [] [(1000, Cont.cells 141 (skTys d.to.2))] (c_Shuffle_at (skNext (d.up d.n).2) d.n d.psizes.length hsz.1 (by omega) ⟨by omega, by omega⟩) rfl rfl (by repeat (first | exact cv_nil | refine cv_cons ?_ ?_ | exact cv_ptr List.mem_cons_self | exact cv_pub rfl rfl)) (pre_cons (a := 1000) (b := 1000) (by exact List.mem_cons_self) rfl (cc_cells_eq (by exact List.mem_cons_self) rfl rfl rfl) pre_nil) (post_cons (a := 1000) (b := 1000) (by exact List.mem_cons_self) rfl (cc_cells_eq (by exact List.mem_cons_self) rfl rfl (by rw [to_eq])) post_nil) (cv_pub rfl rfl) ?_
          refine asS rfl ?_
          refine r_nil ?_
          refine i_then ?_
          refine t_seq ?_
          refine t_seq ?_
          refine t_as (s := 12) rfl (Ty.sub_sl (show (shufUp (skNext (d.up d.n).2) d.n).1 = d.to.1 by rw [to_eq])) ?_
          have hkl : d.pmany ≤ (shufUp d.to.2 d.n).1.length := by rw [ks_eq, hks.1]; omega
          refine t_region ?_
          refine mvO rfl ?_
          refine r_field_ptr rfl rfl rfl rfl rfl (by decide) ?_
          refine r_load_ptr rfl rfl (by decide) rfl rfl rfl ?_
          refine r_len rfl rfl rfl ?_
          refine r_callG [(1000, 1000)] [] [(1000, Cont.cells 141 (skTys d.ks.2))] (c_Shuffle_at d.to.2 d.n d.psizes.length hsz.1 (by omega) ⟨by omega, by omega⟩) rfl rfl (by repeat (first | exact cv_nil | refine cv_cons ?_ ?_ | exact cv_ptr List.mem_cons_self | exact cv_pub rfl rfl)) (pre_cons (a := 1000) (b := 1000) (by exact List.mem_cons_self) rfl (cc_cells_eq (by exact List.mem_cons_self) rfl rfl rfl) pre_nil) (post_cons (a := 1000) (b := 1000) (by exact List.mem_cons_self) rfl (cc_cells_eq (by exact List.mem_cons_self) rfl rfl (by rw [ks_eq])) post_nil) (cv_pub rfl rfl) ?_
          refine mvI rfl ?_
          refine r_cut_hi rfl rfl rfl rfl rfl rfl hkl ?_
          refine r_len rfl rfl rfl ?_
          refine mvI rfl ?_
          refine r_nil ?_
          refine i_then ?_
          refine t_as (s := 66) rfl (Ty.sub_sl (show (shufUp d.to.2 d.n).1.take d.pmany = d.ks.1.take d.pmany by rw [ks_eq])) ?_
          refine t_as (s := 67) rfl (Ty.sub_int (show (((shufUp d.to.2 d.n).1.take d.pmany).length : Int) = (d.pmany : Nat) by rw [ks_eq, List.length_take, hks.1]; omega)) ?_
          refine t_block ?_
          refine t_loop (fun (i : {i : Nat // i ≤ d.pmany}) => live [(0, Ty.ptr 1000 0), (8, Ty.ptr 9 0), (9, Ty.ptr 10 0), (12, Ty.sl I64 d.to.1), (66, Ty.sl I64 (d.ks.1.take d.pmany)), (67, Ty.int .i64 (d.pmany : Nat)), (68, Ty.int .i64 (i.1 : Nat))] [(9, Cont.cells 25 [Ty.ex (.slice none 0 0), Ty.ex (.slice none 0 0)]), (10, Cont.cells 25 [Ty.sl I64 d.psizes, Ty.row LotE 57 115 (d.plt i.1).1]), (1000, Cont.cells 141 (skTys (d.plt i.1).2))]) (fun i => d.pmany - i.1) (⟨0, by omega⟩) ?_ fun i => ?_
          · (refine Ent.mk' ?_ ?_ <;> (repeat' (first | exact allSub_zero | exact allTags_nil | exact subs_nil | refine allSub_succ' ?_ (Ty.sub_any _) | refine allSub_succ' ?_ (Ty.sub_refl _) | refine allTags_cons rfl (Cont.sub_refl _) ?_ | refine allTags_cons rfl (Cont.sub_subs ?_) ?_ | refine subs_cons ?_ (Ty.sub_refl _) | refine subs_cons ?_ ?_)))
            all_goals first | exact Ty.sub_int (congrArg (fun p : List Lot × Sk => p.2.mixed) (plt_zero d).symm) | exact Ty.sub_int (congrArg (fun p : List Lot × Sk => p.2.taken) (plt_zero d).symm) | exact Ty.sub_sl (congrArg (fun p : List Lot × Sk => p.2.grain) (plt_zero d).symm) | exact nil_row_eq (congrArg Prod.fst (plt_zero d).symm)
          ·
            have hi := i.2
            have hll := (d.plt_len i.1).1
            have hlt := (d.plt_len i.1).2
            have hkt : (d.ks.1.take d.pmany).length = d.pmany := by rw [List.length_take, hks.1]; omega
            refine t_seq ?_
            refine t_region ?_
            refine r_bin rfl rfl rfl ?_
            refine r_nil ?_
            refine i_then ?_
            refine t_seq ?_
            refine t_cond_dec rfl (fun hc4 => ?_) (fun hc4 => ?_)
            ·
              refine t_skip ?_
              refine i_then ?_
              refine t_seq ?_
              refine t_block ?_
              refine t_seq ?_
              refine t_region ?_
              refine mvI rfl ?_
              refine r_index_slN rfl rfl rfl rfl rfl rfl (by omega) ?_
              refine r_load_pp rfl rfl rfl rfl ?_
              refine asI rfl ?_
              refine asI rfl ?_
              refine r_nil ?_
              refine i_then ?_
              refine t_seq ?_
              have hlo := d.plot_ok (d.plt i.1).2 (k := i.1) (by omega)
              have hlk := hlo.1
              have hlz := d.psize_at hlk
              refine t_as (s := 14) rfl (Ty.sub_int (show nth (d.ks.1.take d.pmany) i.1 = nth d.ks.1 i.1 by rw [nth_lt (by omega), nth_lt (by rw [hks.1]; omega), List.getElem_take])) ?_
              refine t_draw mixed rfl ?_
              refine mvO rfl ?_
              refine r_field_ptr rfl rfl rfl rfl rfl (by decide) ?_
              refine r_load_ptr rfl rfl (by decide) rfl rfl rfl ?_
              refine mvI rfl ?_
              refine r_index_sl rfl rfl rfl rfl rfl rfl hlk.1 (by rw [hsz.1]; omega) ?_
              refine r_load_pp rfl rfl rfl rfl ?_
              refine r_callG [(1000, 1000)] [] [(1000, Cont.cells 141 (skTys (skNext (d.plt i.1).2)))] (c_Among (d.plt i.1).2 ⟨by omega, by omega⟩ 1 (nth d.psizes (nth d.ks.1 i.1).toNat) (by omega) (by omega)) rfl rfl (by repeat (first | exact cv_nil | refine cv_cons ?_ ?_ | exact cv_ptr List.mem_cons_self | exact cv_pub rfl rfl)) (pre_cons (a := 1000) (b := 1000) (by exact List.mem_cons_self) rfl (cc_cells_eq (by exact List.mem_cons_self) rfl rfl rfl) pre_nil) (post_cons (a := 1000) (b := 1000) (by exact List.mem_cons_self) rfl (cc_cells_eq (by exact List.mem_cons_self) rfl rfl rfl) post_nil) (cv_pub rfl rfl) ?_
              refine mvI rfl ?_
              refine mvS rfl ?_
              refine mvI rfl ?_
              refine r_index_slN rfl rfl rfl rfl rfl rfl (by rw [hto.1]; omega) ?_
              refine r_load_pp rfl rfl rfl rfl ?_
              refine r_build rfl rfl (by exact List.cons_ne_nil _ _) rfl (by repeat (first | exact (Parts.nil : Parts _ _ [] _) | (show Parts _ _ ((_, _) :: _) _; apply Parts.one; (· exact (rfl : _ = Ty.int _ _)); (· exact rfl)))) (by exact (rfl : _ = some [_, _, _])) ?_
              refine r_alloc rfl (by exact List.cons_ne_nil _ _) rfl ?_
              refine r_storeN rfl rfl (by decide) rfl rfl rfl rfl rfl rfl ?_
              refine r_nil ?_
              refine ⟨by kernel_rfl, ?_⟩
              refine i_then ?_
              refine t_join (J := live [(0, Ty.ptr 1000 0), (8, Ty.ptr 9 0), (9, Ty.ptr 10 0), (12, Ty.sl I64 d.to.1), (15, Ty.ptr 16 0), (66, Ty.sl I64 (d.ks.1.take d.pmany)), (67, Ty.int .i64 (d.pmany : Nat)), (68, Ty.int .i64 (i.1 : Nat))] [(9, Cont.cells 25 [Ty.ex (.slice none 0 0), Ty.ex (.slice none 0 0)]), (10, Cont.cells 25 [Ty.sl I64 d.psizes, Ty.row LotE 57 115 (d.plt i.1).1]), (16, Cont.cells 57 [Ty.int .i64 (d.psackV (d.plt i.1).2 i.1), Ty.int .i64 (nth d.ks.1 i.1), Ty.int .i64 (d.aimV (d.plt i.1).2 i.1)]), (1000, Cont.cells 141 (skTys (skNext (skNext (d.plt i.1).2))))]) ?_ ?_
              ·
                refine t_seq ?_
                have hst2 := skNext_taken (d.plt i.1).2
                refine t_region ?_
                refine mvO rfl ?_
                refine r_callG [(1000, 1000)] [] [(1000, Cont.cells 141 (skTys (skNext (skNext (d.plt i.1).2))))] (c_Rare (skNext (d.plt i.1).2) ⟨by omega, by omega⟩ 4) rfl rfl (by repeat (first | exact cv_nil | refine cv_cons ?_ ?_ | exact cv_ptr List.mem_cons_self | exact cv_pub rfl rfl)) (pre_cons (a := 1000) (b := 1000) (by exact List.mem_cons_self) rfl (cc_cells_eq (by exact List.mem_cons_self) rfl rfl rfl) pre_nil) (post_cons (a := 1000) (b := 1000) (by exact List.mem_cons_self) rfl (cc_cells_eq (by exact List.mem_cons_self) rfl rfl rfl) post_nil) (cv_pub rfl rfl) ?_
                refine r_nil ?_
                refine i_then ?_
                refine t_cond_dec rfl (fun hc5 => ?_) (fun hc5 => ?_)
                ·
                  refine t_region ?_
                  refine r_field_ptr rfl rfl rfl rfl rfl (by decide) ?_
                  refine r_store1 rfl rfl (by decide) rfl rfl (by exact (rfl : _ = Ty.int _ _)) rfl (by exact Nat.le_of_ble_eq_true rfl) rfl rfl (by exact rfl) ?_
                  refine r_nil ?_
                  refine i_join ?_
                  (refine Ent.mk' ?_ ?_ <;> (repeat' (first | exact allSub_zero | exact allTags_nil | exact subs_nil | refine allSub_succ' ?_ (Ty.sub_any _) | refine allSub_succ' ?_ (Ty.sub_refl _) | refine allTags_cons rfl (Cont.sub_refl _) ?_ | refine allTags_cons rfl (Cont.sub_subs ?_) ?_ | refine subs_cons ?_ (Ty.sub_refl _) | refine subs_cons ?_ ?_)))
                  all_goals first | exact Ty.sub_int (aim_rare (decide_eq_true hc5)) | exact Ty.sub_int (by unfold Md.psackV; rfl)
                ·
                  refine t_skip ?_
                  refine i_join ?_
                  (refine Ent.mk' ?_ ?_ <;> (repeat' (first | exact allSub_zero | exact allTags_nil | exact subs_nil | refine allSub_succ' ?_ (Ty.sub_any _) | refine allSub_succ' ?_ (Ty.sub_refl _) | refine allTags_cons rfl (Cont.sub_refl _) ?_ | refine allTags_cons rfl (Cont.sub_subs ?_) ?_ | refine subs_cons ?_ (Ty.sub_refl _) | refine subs_cons ?_ ?_)))
                  all_goals first | exact Ty.sub_int (aim_not (decide_eq_false hc5)) | exact Ty.sub_int (by unfold Md.psackV; rfl)
              ·
                refine t_join (J := live [(0, Ty.ptr 1000 0), (8, Ty.ptr 9 0), (9, Ty.ptr 10 0), (12, Ty.sl I64 d.to.1), (15, Ty.ptr 16 0), (66, Ty.sl I64 (d.ks.1.take d.pmany)), (67, Ty.int .i64 (d.pmany : Nat)), (68, Ty.int .i64 (i.1 : Nat))] [(9, Cont.cells 25 [Ty.ex (.slice none 0 0), Ty.ex (.slice none 0 0)]), (10, Cont.cells 25 [Ty.sl I64 d.psizes, Ty.row LotE 57 115 (d.plt i.1).1]), (16, Cont.cells 57 (LotE.tys (d.plotV (d.plt i.1).2 i.1))), (1000, Cont.cells 141 (skTys (skNext (skNext (d.plt i.1).2))))]) ?_ ?_
                ·
                  refine t_seq ?_
                  refine t_draw mixed rfl ?_
                  refine r_field_ptr rfl rfl rfl rfl rfl (by decide) ?_
                  refine r_load_ptr rfl rfl (by decide) rfl rfl rfl ?_
                  refine r_bin rfl rfl rfl ?_
                  refine mvB rfl ?_
                  apply r_guard (s := 92) rfl rfl rfl
                  · intro hg; apply opT_of; (refine r_field_ptr rfl rfl rfl rfl rfl (by decide) ?_); refine r_nil ?_; exact rfl
                  · exact rfl
                  · exact rfl
                  apply r_guard (s := 92) rfl rfl rfl
                  · intro hg; apply opT_strip (s := 93) rfl (by (rw [hg]; rfl)); apply opT_of; (refine r_load_ptr rfl rfl (by decide) rfl rfl rfl ?_); refine r_nil ?_; exact rfl
                  · exact rfl
                  · exact rfl
                  apply r_guard (s := 92) rfl rfl rfl
                  · intro hg; apply opT_of; (refine r_field_ptr rfl rfl rfl rfl rfl (by decide) ?_); refine r_nil ?_; exact rfl
                  · exact rfl
                  · exact rfl
                  apply r_guard (s := 92) rfl rfl rfl
                  · intro hg; apply opT_strip (s := 95) rfl (by (rw [hg]; rfl)); apply opT_of; (refine r_load_ptr rfl rfl (by decide) rfl rfl rfl ?_); refine r_nil ?_; exact rfl
                  · exact rfl
                  · exact rfl
                  apply r_guard (s := 92) rfl rfl rfl
                  · intro hg; apply opT_strip (s := 94) rfl (by (rw [hg]; rfl)); apply opT_strip (s := 96) rfl (by (rw [hg]; rfl)); apply opT_of; (refine r_index_sl rfl rfl rfl rfl rfl rfl (paim_in (by omega) hg).1 (paim_in (by omega) hg).2 ?_); refine r_nil ?_; exact rfl
                  · exact rfl
                  · exact rfl
                  apply r_guard (s := 92) rfl rfl rfl
                  · intro hg; apply opT_strip (s := 97) rfl (by (rw [hg]; rfl)); apply opT_of; (refine r_load_pp rfl rfl rfl rfl ?_); refine r_nil ?_; exact rfl
                  · exact rfl
                  · exact rfl
                  apply r_guard (s := 92) rfl rfl rfl
                  · intro hg; apply opT_of; (refine r_field_ptr rfl rfl rfl rfl rfl (by decide) ?_); refine r_nil ?_; exact rfl
                  · exact rfl
                  · exact rfl
                  apply r_guard (s := 92) rfl rfl rfl
                  · intro hg; apply opT_strip (s := 99) rfl (by (rw [hg]; rfl)); apply opT_of; (refine r_load_ptr rfl rfl (by decide) rfl rfl rfl ?_); refine r_nil ?_; exact rfl
                  · exact rfl
                  · exact rfl
                  apply r_guard (s := 92) rfl rfl rfl
                  · intro hg; apply opT_strip (s := 98) rfl (by (rw [hg]; rfl)); apply opT_strip (s := 100) rfl (by (rw [hg]; rfl)); apply opT_of; (refine r_bin rfl rfl rfl ?_); refine r_nil ?_; exact rfl
                  · exact rfl
                  · exact rfl
                  refine r_and rfl rfl ?_
                  refine r_nil ?_
                  refine ⟨by kernel_rfl, ?_⟩
                  refine i_then ?_
                  refine t_cond rfl (fun hc6 => ?_) (fun hc6 => ?_)
                  ·
                    have hai := paim_in (i := i.1) (s := (d.plt i.1).2) (by omega) (show (!decide (d.aimV (d.plt i.1).2 i.1 = -1)) = true by have := (less_yes hc6).1; simpa using this)
                    refine t_region ?_
                    refine r_field_ptr rfl rfl rfl rfl rfl (by decide) ?_
                    refine r_load_ptr rfl rfl (by decide) rfl rfl rfl ?_
                    refine r_field_ptr rfl rfl rfl rfl rfl (by decide) ?_
                    refine r_load_ptr rfl rfl (by decide) rfl rfl rfl ?_
                    refine r_index_sl rfl rfl rfl rfl rfl rfl hai.1 hai.2 ?_
                    refine r_load_pp rfl rfl rfl rfl ?_
                    refine r_field_ptr rfl rfl rfl rfl rfl (by decide) ?_
                    refine r_store1 rfl rfl (by decide) rfl rfl (by exact (rfl : _ = Ty.int _ _)) rfl (by exact Nat.le_of_ble_eq_true rfl) rfl rfl (by exact rfl) ?_
                    refine r_nil ?_
                    refine i_join ?_
                    (refine Ent.mk' ?_ ?_ <;> (repeat' (first | exact allSub_zero | exact allTags_nil | exact subs_nil | refine allSub_succ' ?_ (Ty.sub_any _) | refine allSub_succ' ?_ (Ty.sub_refl _) | refine allTags_cons rfl (Cont.sub_refl _) ?_ | refine allTags_cons rfl (Cont.sub_subs ?_) ?_ | refine subs_cons ?_ (Ty.sub_refl _) | refine subs_cons ?_ ?_)))
                    all_goals exact Ty.sub_int (psack_less hc6)
                  ·
                    refine t_skip ?_
                    refine i_join ?_
                    (refine Ent.mk' ?_ ?_ <;> (repeat' (first | exact allSub_zero | exact allTags_nil | exact subs_nil | refine allSub_succ' ?_ (Ty.sub_any _) | refine allSub_succ' ?_ (Ty.sub_refl _) | refine allTags_cons rfl (Cont.sub_refl _) ?_ | refine allTags_cons rfl (Cont.sub_subs ?_) ?_ | refine subs_cons ?_ (Ty.sub_refl _) | refine subs_cons ?_ ?_)))
                    all_goals exact Ty.sub_int (psack_same hc6)
                ·
                  refine t_region ?_
                  refine r_field_ptr rfl rfl rfl rfl rfl (by decide) ?_
                  refine r_load_ptr rfl rfl (by decide) rfl rfl rfl ?_
                  refine r_load_ptrN rfl rfl (by decide) rfl rfl (by exact Nat.le_of_ble_eq_true rfl) ?_
                  refine r_buildSlice (E := LotE) (xs := [d.plotV (d.plt i.1).2 i.1]) rfl rfl rfl rfl rfl (by decide) (by decide) (by repeat (first | exact (Parts.nil : Parts _ _ [] _) | (show Parts _ _ ((_, _) :: _) _; apply Parts.agg; (· exact (rfl : _ = Ty.agg _))))) (by exact rfl) rfl ?_
                  refine r_append rfl rfl (by decide) rfl rfl rfl rfl rfl rfl (by decide) (by (simp <;> omega)) (by (simp <;> omega)) ?_
                  refine r_field_ptr rfl rfl rfl rfl rfl (by decide) ?_
                  refine r_store1 rfl rfl (by decide) rfl rfl (by exact (rfl : _ = Ty.row _ _ _ _)) rfl (by exact Nat.le_of_ble_eq_true rfl) rfl rfl (by exact rfl) ?_
                  refine r_nil ?_
                  refine i_block ?_
                  refine i_then ?_
                  refine t_region ?_
                  refine r_add rfl rfl (by omega) (by omega) ?_
                  refine mvI rfl ?_
                  refine r_nil ?_
                  refine i_round (⟨i.1 + 1, by omega⟩) ?_ (by show d.pmany - (i.1 + 1) < d.pmany - i.1; omega)
                  (refine Ent.mk' ?_ ?_ <;> (repeat' (first | exact allSub_zero | exact allTags_nil | exact subs_nil | refine allSub_succ' ?_ (Ty.sub_any _) | refine allSub_succ' ?_ (Ty.sub_refl _) | refine allTags_cons rfl (Cont.sub_refl _) ?_ | refine allTags_cons rfl (Cont.sub_subs ?_) ?_ | refine subs_cons ?_ (Ty.sub_refl _) | refine subs_cons ?_ ?_)))
                  all_goals skip
                  all_goals first | exact Ty.sub_row (congrArg Prod.fst (plt_succ d _)).symm | exact Ty.sub_int (congrArg (fun p : List Lot × Sk => p.2.mixed) (plt_succ d _).symm) | exact Ty.sub_int (congrArg (fun p : List Lot × Sk => p.2.taken) (plt_succ d _).symm) | exact Ty.sub_sl (congrArg (fun p : List Lot × Sk => p.2.grain) (plt_succ d _).symm)
            ·
              refine t_exit ?_
              refine i_then_exit ?_
              refine i_then_exit ?_
              refine i_block_exit rfl ?_
              refine i_then ?_
              refine t_seq ?_
              obtain ⟨i, hi⟩ := i
              obtain rfl : i = d.pmany := by have h1 : ¬ (i : Int) < (d.pmany : Int) := hc4; have h2 : i ≤ d.pmany := hi; omega
              refine t_pubC (tg := 115) [] [(10, Cont.cells 25 [Ty.sl I64 d.psizes, Ty.sl LotE (d.plt d.pmany).1])] (by decide) rfl trivial ⟨pubC_cells rfl rfl ⟨pubTy_same rfl, pubTy_row, trivial⟩, trivial⟩ ?_
              refine t_region ?_
              refine r_load_ptrN rfl rfl (by decide) rfl rfl (by exact Nat.le_of_ble_eq_true rfl) ?_
              refine r_storeN rfl rfl (by decide) rfl rfl rfl rfl rfl rfl ?_
              refine r_nil ?_
              refine i_then ?_
              refine t_ret ?_
              refine g_rcell [1000] rfl rfl rfl rfl (by decide) rfl rfl rfl (by decide) (by repeat (first | exact rc_nil | refine rc_cons rfl (cc_cells_eq (by decide) rfl rfl rfl) ?_)) ?_
              all_goals exact rg_cv (cv_pub rfl rfl)
              all_goals trace_state
end Go.Proofs.Ytpnndljmhpepgaa

namespace Go.Proofs.Ytpnndljmhpepgaa
open Go Go.T
set_option maxHeartbeats 4000000
theorem und4 : Try.prog.underlying 4 = some .bool := Try.underlying4
theorem made9 (g : List Int) (p : Bool) : ∃ b s', b.Right ∧ (p = true → Easy b) ∧ CtrG Try.prog 50 [1000] [(1000, Cont.cells 141 (skTys (skFill g)))] [Ty.ptr 1000 0, Ty.int .i64 6, Ty.int .i64 5, Ty.bool p] [(1000, Cont.cells 141 (skTys s'))] (barnT b) := by
  have hd : Md.Ok ⟨skFill g, 6, 5⟩ := ⟨⟨show (2 : Int) ≤ 6 by decide, show (6 : Int) ≤ 7 by decide⟩, show (0 : Int) ≤ 5 by decide, show (5 : Int) ≤ 6 by decide⟩
  cases p with
  | false => exact ⟨_, _, Md.right hd, (fun h => by cases h), c_Made ⟨skFill g, 6, 5⟩ hd (fill_ok8 g)⟩
  | true => exact ⟨_, _, Md.pright hd, fun _ => Md.peasy hd, c_MadeP ⟨skFill g, 6, 5⟩ hd (fill_ok8 g)⟩
theorem c_ShowsOk (b : Barn) (hr : b.Right) : Ctr Try.prog 46 [barnT b, Ty.sl RowE (ringsL b)] (Ty.tup [Ty.int .i64 (((mustL b).length : Int) + (ringsL b).length), Ty.int .i64 0]) := by
  have h6 := hr.lots
  have h := c_Shows b (small_right hr) (ringsL b) (by have := ringsUp_len b b.lots.length; show (ringsUp b b.lots.length).length ≤ 1000; omega) (by
    have hn : (ringsL b).flatten.Nodup := by
      rw [List.nodup_iff_pairwise_ne, List.pairwise_flatten]
      refine ⟨fun l hl => ?_, (rings_apart hr).imp fun {l r} h x hx y hy e => h.2 x hx (by rw [e]; exact hy)⟩
      obtain ⟨i, hi, hR⟩ := (mem_rings hr).1 hl
      exact List.nodup_iff_pairwise_ne.1 hR.nodup
    have := is_len (b := b) hn fun x hx => by
      obtain ⟨l, hl, hx⟩ := List.mem_flatten.1 hx
      obtain ⟨i, hi, hR⟩ := (mem_rings hr).1 hl
      exact (hR.lot hr hx).1
    omega)
  rw [shows_rings hr] at h; exact h
section
variable {b : Barn} {p : Bool}
theorem lbe1 (h : Best b p) (h0 : checkB b = 0) {S : Int} : ((((((!decide (checkB b = 0) || !decide (planE b oneC = planE b oneC)) || (!decide (planE b oneC = 0) && !decide (planE b oneC = 7))) || !decide ((0 : Int) = 0)) || !decide ((0 : Int) = 0)) || !decide ((0 : Int) = 0)) || !decide (S = S)) = false := by
  rw [decide_eq_true h0, decide_eq_true (rfl : planE b oneC = planE b oneC), decide_eq_true (rfl : S = S)]
  rcases h.err with e | e
  · rw [decide_eq_true e]; simp
  · rw [decide_eq_true e]; simp
theorem lbe2 (h : Best b p) : ((decide (planE b oneC = 0) && (((!decide (((planR b oneC).length : Int) = costR b oneC) || !rightV b (planR b oneC)) || decide (costR b oneC < ((mustL b).length : Int) + (ringsL b).length)) || !(decide (costR b oneC = 0) == decide (((mustL b).length : Int) = 0)))) || (p && (!decide (planE b oneC = 0) || !decide (costR b oneC = ((mustL b).length : Int) + (ringsL b).length)))) = false := by
  have h2 : (p && (!decide (planE b oneC = 0) || !decide (costR b oneC = ((mustL b).length : Int) + (ringsL b).length))) = false := by
    cases hp : p with
    | false => rfl
    | true =>
      obtain ⟨e1, e2⟩ := h.easy hp
      rw [decide_eq_true e1, decide_eq_true e2]; rfl
  rw [h2, Bool.or_false]
  by_cases c : planE b oneC = 0
  · obtain ⟨⟨e1, e2⟩, e3, e4⟩ := h.plan c
    rw [decide_eq_true c, decide_eq_true e1, e2, decide_eq_false (show ¬ costR b oneC < ((mustL b).length : Int) + (ringsL b).length by omega)]
    have e5 : decide (costR b oneC = 0) = decide (((mustL b).length : Int) = 0) := by
      rw [Bool.eq_iff_iff, decide_eq_true_eq, decide_eq_true_eq]; omega
    rw [e5]; simp
  · rw [decide_eq_false c]; rfl
theorem lbe4 (h : Best b p) {x : List Tur} : (rightV b x && (!decide (planE b oneC = 0) || decide ((x.length : Int) < costR b oneC))) = false := by
  cases hx : rightV b x with
  | false => rfl
  | true =>
    obtain ⟨e1, e2⟩ := h.few x hx
    rw [decide_eq_true e1, decide_eq_false (show ¬ (x.length : Int) < costR b oneC by omega)]; rfl
end
attribute [local irreducible] planE costR planR checkB mustL ringsL rightV walkP walkE
attribute [local irreducible] dInt dBool dSl dPp dPtr dAgg dTup dClo dAny dEx dStr dGd dCells dVec dVs dRow dOp nth Tri Into TOps Ctr bodyPost Exit.then Exit.inBlock Code.wp Code.wpIn dWhen dPa dPe dAo dArr dMp dPm dMap dCJ CtrG CtrI OpY keepPost iterPost bodyPostM roundQ
set_option maxRecDepth 100000 in
theorem c_TurnBest (g t : List Int) (p : Bool) : Ctr Try.prog 10 [Ty.sl U8 g, Ty.sl U8 t, Ty.bool p] (Ty.bool true) := by
  refine fn_intro Try.func10 rfl (by decide) Try.ntmps10 (by exact Nat.le_of_ble_eq_true rfl) fun w0 M0 => ?_
  refine t_seq ?_
  refine t_region ?_
  refine asB rfl ?_
  refine r_nil ?_
  refine i_then ?_
  refine t_seq ?_
  obtain ⟨b, s1, hr, hEasy, hM⟩ := made9 g p
  have h0 := right_check hr
  have hs := small_right hr
  have h6 := hr.lots
  have hB := best hr hEasy
  have hml := must_len b
  have hrll : (ringsL b).length ≤ b.lots.length := by unfold ringsL; exact ringsUp_len _ _
  have hBl := planR_len hr (one_ok b)
  refine t_region ?_
  refine mvS rfl ?_
  refine r_callG [(22, 10)] [22] [(22, Cont.cells 141 (skTys (skFill g)))] (c_Fill g) rfl rfl (by repeat (first | exact cv_nil | refine cv_cons ?_ ?_ | exact cv_pub rfl rfl)) pre_nil (post_cons (a := 22) (b := 10) (by exact List.mem_cons_self) rfl (cc_cells_eq (by exact List.mem_cons_self) rfl rfl rfl) post_nil) (cv_ptr (by exact List.mem_cons_self)) ?_
  refine mvB rfl ?_
  refine r_callG [(22, 1000)] [] [(22, Cont.cells 141 (skTys (s1)))] (hM) rfl rfl (by repeat (first | exact cv_nil | refine cv_cons ?_ ?_ | exact cv_ptr List.mem_cons_self | exact cv_pub rfl rfl)) (pre_cons (a := 22) (b := 1000) (by exact List.mem_cons_self) rfl (cc_cells_eq (by exact List.mem_cons_self) rfl rfl rfl) pre_nil) (post_cons (a := 22) (b := 1000) (by exact List.mem_cons_self) rfl (cc_cells_eq (by exact List.mem_cons_self) rfl rfl rfl) post_nil) (cv_pub rfl rfl) ?_
  refine mvS rfl ?_
  refine r_callG [(26, 10)] [26] [(26, Cont.cells 141 (skTys (skFill t)))] (c_Fill t) rfl rfl (by repeat (first | exact cv_nil | refine cv_cons ?_ ?_ | exact cv_pub rfl rfl)) pre_nil (post_cons (a := 26) (b := 10) (by exact List.mem_cons_self) rfl (cc_cells_eq (by exact List.mem_cons_self) rfl rfl rfl) post_nil) (cv_ptr (by exact List.mem_cons_self)) ?_
  refine r_alloc rfl (by exact List.cons_ne_nil _ _) rfl ?_
  refine r_storeN rfl rfl (by decide) rfl rfl rfl rfl rfl rfl ?_
  refine asO rfl ?_
  refine r_nil ?_
  refine i_then ?_
  refine t_seq ?_
  refine t_region ?_
  refine r_load_ptrN rfl rfl (by decide) rfl rfl (by exact Nat.le_of_ble_eq_true rfl) ?_
  refine r_call (c_Fewest b hs) rfl rfl rfl rfl rfl ?_
  refine mvT rfl ?_
  refine r_extract rfl rfl ?_
  refine r_extract rfl rfl ?_
  refine asI rfl ?_
  refine asI rfl ?_
  refine r_nil ?_
  refine i_then ?_
  refine t_seq ?_
  refine t_region ?_
  refine r_load_ptrN rfl rfl (by decide) rfl rfl (by exact Nat.le_of_ble_eq_true rfl) ?_
  refine r_call (c_Plan b hs) rfl rfl rfl rfl rfl ?_
  refine mvT rfl ?_
  refine r_extract rfl rfl ?_
  refine r_extract rfl rfl ?_
  refine asS rfl ?_
  refine asI rfl ?_
  refine r_nil ?_
  refine i_then ?_
  refine t_seq ?_
  refine t_region ?_
  refine r_load_ptrN rfl rfl (by decide) rfl rfl (by exact Nat.le_of_ble_eq_true rfl) ?_
  refine r_call (c_Must b hs) rfl rfl rfl rfl rfl ?_
  refine mvT rfl ?_
  refine r_extract rfl rfl ?_
  refine r_extract rfl rfl ?_
  refine asS rfl ?_
  refine asI rfl ?_
  refine r_nil ?_
  refine i_then ?_
  refine t_seq ?_
  refine t_region ?_
  refine r_load_ptrN rfl rfl (by decide) rfl rfl (by exact Nat.le_of_ble_eq_true rfl) ?_
  refine r_call (c_Rings b hs) rfl rfl rfl rfl rfl ?_
  refine mvT rfl ?_
  refine r_extract rfl rfl ?_
  refine r_extract rfl rfl ?_
  refine asS rfl ?_
  refine asI rfl ?_
  refine r_nil ?_
  refine i_then ?_
  refine t_seq ?_
  refine t_as (s := 13) rfl (Ty.sub_sl (if_pos h0)) ?_
  refine t_as (s := 14) rfl (Ty.sub_int h0) ?_
  refine t_as (s := 15) rfl (Ty.sub_sl (if_pos h0)) ?_
  refine t_as (s := 16) rfl (Ty.sub_int h0) ?_
  refine t_region ?_
  refine r_load_ptrN rfl rfl (by decide) rfl rfl (by exact Nat.le_of_ble_eq_true rfl) ?_
  refine mvS rfl ?_
  refine r_call (c_ShowsOk b hr) rfl rfl rfl rfl rfl ?_
  refine mvT rfl ?_
  refine r_extract rfl rfl ?_
  refine r_extract rfl rfl ?_
  refine asI rfl ?_
  refine asI rfl ?_
  refine r_nil ?_
  refine i_then ?_
  refine t_seq ?_
  refine t_seq ?_
  refine t_forget (B := live [(2, Ty.bool p), (7, Ty.ptr 8 0), (8, Ty.ptr 26 0), (9, Ty.int .i64 (costR b oneC)), (10, Ty.int .i64 (planE b oneC)), (11, Ty.sl TurE (planR b oneC)), (12, Ty.int .i64 (planE b oneC)), (13, Ty.sl I64 (mustL b)), (14, Ty.int .i64 0), (15, Ty.sl RowE (ringsL b)), (16, Ty.int .i64 0), (17, Ty.int .i64 (((mustL b).length : Int) + (ringsL b).length)), (18, Ty.int .i64 0)] [(8, Cont.cells 25 (barnTys b)), (26, Cont.cells 141 (skTys (skFill t)))]) ?_ ?_
  · (refine Ent.mk' ?_ ?_ <;> (repeat' (first | exact allSub_zero | exact allTags_nil | refine allSub_succ' ?_ (Ty.sub_any _) | refine allSub_succ' ?_ (Ty.sub_refl _) | refine allTags_cons rfl (Cont.sub_refl _) ?_)))
  refine t_region ?_
  refine r_load_ptrN rfl rfl (by decide) rfl rfl (by exact Nat.le_of_ble_eq_true rfl) ?_
  refine r_call (c_Check b hs) rfl rfl rfl rfl rfl ?_
  refine r_bin rfl rfl rfl ?_
  refine mvB rfl ?_
  apply r_guard (s := 55) rfl rfl rfl
  · intro hg; apply opT_of; (refine mvI rfl ?_); refine r_nil ?_; exact rfl
  · exact rfl
  · exact rfl
  apply r_guard (s := 55) rfl rfl rfl
  · intro hg; apply opT_of; (refine mvI rfl ?_); refine r_nil ?_; exact rfl
  · exact rfl
  · exact rfl
  apply r_guard (s := 55) rfl rfl rfl
  · intro hg; apply opT_strip (s := 56) rfl (by (rw [hg]; rfl)); apply opT_strip (s := 57) rfl (by (rw [hg]; rfl)); apply opT_of; (refine r_bin rfl rfl rfl ?_); refine r_nil ?_; exact rfl
  · exact rfl
  · exact rfl
  refine r_or rfl rfl ?_
  refine mvB rfl ?_
  apply r_guard (s := 60) rfl rfl rfl
  · intro hg; apply opT_of; (refine mvI rfl ?_); refine r_nil ?_; exact rfl
  · exact rfl
  · exact rfl
  apply r_guard (s := 60) rfl rfl rfl
  · intro hg; apply opT_strip (s := 61) rfl (by (rw [hg]; rfl)); apply opT_of; (refine r_bin rfl rfl rfl ?_); refine r_nil ?_; exact rfl
  · exact rfl
  · exact rfl
  apply r_guard (s := 60) rfl rfl rfl
  · intro hg; apply opT_strip (s := 62) rfl (by (rw [hg]; rfl)); apply opT_of; (refine mvB rfl ?_); refine r_nil ?_; exact rfl
  · exact rfl
  · exact rfl
  apply r_guardG (s := 63) rfl rfl rfl
  · intro hg1 hg2; apply opT_of; (refine mvI rfl ?_); refine r_nil ?_; exact rfl
  · exact rfl
  · exact rfl
  apply r_guardG (s := 63) rfl rfl rfl
  · intro hg1 hg2; apply opT_strip (s := 64) rfl (by (rw [hg1, hg2]; rfl)); apply opT_of; (refine r_bin rfl rfl rfl ?_); refine r_nil ?_; exact rfl
  · exact rfl
  · exact rfl
  apply r_guard (s := 60) rfl rfl rfl
  · intro hg; apply opT_strip (s := 63) rfl (by (rw [hg]; rfl)); apply opT_stripG (s := 65) rfl (by (rw [hg]; rfl)); apply opT_of; (refine r_and rfl rfl ?_); refine r_nil ?_; exact rfl
  · exact rfl
  · exact rfl
  refine r_or rfl rfl ?_
  refine mvB rfl ?_
  apply r_guard (s := 68) rfl rfl rfl
  · intro hg; apply opT_of; (refine mvI rfl ?_); refine r_nil ?_; exact rfl
  · exact rfl
  · exact rfl
  apply r_guard (s := 68) rfl rfl rfl
  · intro hg; apply opT_strip (s := 69) rfl (by (rw [hg]; rfl)); apply opT_of; (refine r_bin rfl rfl rfl ?_); refine r_nil ?_; exact rfl
  · exact rfl
  · exact rfl
  refine r_or rfl rfl ?_
  refine mvB rfl ?_
  apply r_guard (s := 72) rfl rfl rfl
  · intro hg; apply opT_of; (refine mvI rfl ?_); refine r_nil ?_; exact rfl
  · exact rfl
  · exact rfl
  apply r_guard (s := 72) rfl rfl rfl
  · intro hg; apply opT_strip (s := 73) rfl (by (rw [hg]; rfl)); apply opT_of; (refine r_bin rfl rfl rfl ?_); refine r_nil ?_; exact rfl
  · exact rfl
  · exact rfl
  refine r_or rfl rfl ?_
  refine mvB rfl ?_
  apply r_guard (s := 76) rfl rfl rfl
  · intro hg; apply opT_of; (refine mvI rfl ?_); refine r_nil ?_; exact rfl
  · exact rfl
  · exact rfl
  apply r_guard (s := 76) rfl rfl rfl
  · intro hg; apply opT_strip (s := 77) rfl (by (rw [hg]; rfl)); apply opT_of; (refine r_bin rfl rfl rfl ?_); refine r_nil ?_; exact rfl
  · exact rfl
  · exact rfl
  refine r_or rfl rfl ?_
  refine mvB rfl ?_
  apply r_guard (s := 80) rfl rfl rfl
  · intro hg; apply opT_of; (refine mvI rfl ?_); refine r_nil ?_; exact rfl
  · exact rfl
  · exact rfl
  apply r_guard (s := 80) rfl rfl rfl
  · intro hg; apply opT_of; (refine mvS rfl ?_); refine r_nil ?_; exact rfl
  · exact rfl
  · exact rfl
  apply r_guard (s := 80) rfl rfl rfl
  · intro hg; apply opT_strip (s := 82) rfl (by (rw [hg]; rfl)); apply opT_of; (refine r_len rfl rfl rfl ?_); refine r_nil ?_; exact rfl
  · exact rfl
  · exact rfl
  apply r_guard (s := 80) rfl rfl rfl
  · intro hg; apply opT_of; (refine mvS rfl ?_); refine r_nil ?_; exact rfl
  · exact rfl
  · exact rfl
  apply r_guard (s := 80) rfl rfl rfl
  · intro hg; apply opT_strip (s := 84) rfl (by (rw [hg]; rfl)); apply opT_of; (refine r_len rfl rfl rfl ?_); refine r_nil ?_; exact rfl
  · exact rfl
  · exact rfl
  apply r_guard (s := 80) rfl rfl rfl
  · intro hg; apply opT_strip (s := 83) rfl (by (rw [hg]; rfl)); apply opT_strip (s := 85) rfl (by (rw [hg]; rfl)); apply opT_of; (refine r_add rfl rfl (by omega) (by omega) ?_); refine r_nil ?_; exact rfl
  · exact rfl
  · exact rfl
  apply r_guard (s := 80) rfl rfl rfl
  · intro hg; apply opT_strip (s := 81) rfl (by (rw [hg]; rfl)); apply opT_strip (s := 86) rfl (by (rw [hg]; rfl)); apply opT_of; (refine r_bin rfl rfl rfl ?_); refine r_nil ?_; exact rfl
  · exact rfl
  · exact rfl
  refine r_or rfl rfl ?_
  refine r_nil ?_
  refine i_then ?_
  refine t_cond_ff rfl (lbe1 hB h0) ?_
  refine t_skip ?_
  refine i_then ?_
  refine t_seq ?_
  refine t_seq ?_
  refine t_region ?_
  refine mvI rfl ?_
  refine r_bin rfl rfl rfl ?_
  refine mvB rfl ?_
  apply r_guard (s := 91) rfl rfl rfl
  · intro hg; apply opT_of; (refine mvS rfl ?_); refine r_nil ?_; exact rfl
  · exact rfl
  · exact rfl
  apply r_guard (s := 91) rfl rfl rfl
  · intro hg; apply opT_strip (s := 92) rfl (by (rw [hg]; rfl)); apply opT_of; (refine r_len rfl rfl rfl ?_); refine r_nil ?_; exact rfl
  · exact rfl
  · exact rfl
  apply r_guard (s := 91) rfl rfl rfl
  · intro hg; apply opT_of; (refine mvI rfl ?_); refine r_nil ?_; exact rfl
  · exact rfl
  · exact rfl
  apply r_guard (s := 91) rfl rfl rfl
  · intro hg; apply opT_strip (s := 93) rfl (by (rw [hg]; rfl)); apply opT_strip (s := 94) rfl (by (rw [hg]; rfl)); apply opT_of; (refine r_bin rfl rfl rfl ?_); refine r_nil ?_; exact rfl
  · exact rfl
  · exact rfl
  apply r_guard (s := 91) rfl rfl rfl
  · intro hg; apply opT_strip (s := 95) rfl (by (rw [hg]; rfl)); apply opT_of; (refine mvB rfl ?_); refine r_nil ?_; exact rfl
  · exact rfl
  · exact rfl
  apply r_guardG (s := 96) rfl rfl rfl
  · intro hg1 hg2; apply opT_of; (refine r_load_ptrN rfl rfl (by decide) rfl rfl (by exact Nat.le_of_ble_eq_true rfl) ?_); refine r_nil ?_; exact rfl
  · exact rfl
  · exact rfl
  apply r_guardG (s := 96) rfl rfl rfl
  · intro hg1 hg2; apply opT_of; (refine mvS rfl ?_); refine r_nil ?_; exact rfl
  · exact rfl
  · exact rfl
  apply r_guardG (s := 96) rfl rfl rfl
  · intro hg1 hg2; apply opT_strip (s := 97) rfl (by (rw [hg1, hg2]; rfl)); apply opT_strip (s := 98) rfl (by (rw [hg1, hg2]; rfl)); apply opT_of; (refine r_call (c_lright b hs h6 (planR b oneC) hBl) rfl rfl rfl rfl rfl ?_); refine r_nil ?_; exact rfl
  · exact rfl
  · exact rfl
  apply r_guardG (s := 96) rfl rfl rfl
  · intro hg1 hg2; apply opT_strip (s := 99) rfl (by (rw [hg1, hg2]; rfl)); apply opT_of; (refine r_not rfl ?_); refine r_nil ?_; exact rfl
  · exact rfl
  · exact rfl
  apply r_guard (s := 91) rfl rfl rfl
  · intro hg; apply opT_strip (s := 96) rfl (by (rw [hg]; rfl)); apply opT_stripG (s := 100) rfl (by (rw [hg]; rfl)); apply opT_of; (refine r_or rfl rfl ?_); refine r_nil ?_; exact rfl
  · exact rfl
  · exact rfl
  apply r_guard (s := 91) rfl rfl rfl
  · intro hg; apply opT_strip (s := 101) rfl (by (rw [hg]; rfl)); apply opT_of; (refine mvB rfl ?_); refine r_nil ?_; exact rfl
  · exact rfl
  · exact rfl
  apply r_guardG (s := 102) rfl rfl rfl
  · intro hg1 hg2; apply opT_of; (refine mvI rfl ?_); refine r_nil ?_; exact rfl
  · exact rfl
  · exact rfl
  apply r_guardG (s := 102) rfl rfl rfl
  · intro hg1 hg2; apply opT_of; (refine mvI rfl ?_); refine r_nil ?_; exact rfl
  · exact rfl
  · exact rfl
  apply r_guardG (s := 102) rfl rfl rfl
  · intro hg1 hg2; apply opT_strip (s := 103) rfl (by (rw [hg1, hg2]; rfl)); apply opT_strip (s := 104) rfl (by (rw [hg1, hg2]; rfl)); apply opT_of; (refine r_bin rfl rfl rfl ?_); refine r_nil ?_; exact rfl
  · exact rfl
  · exact rfl
  apply r_guard (s := 91) rfl rfl rfl
  · intro hg; apply opT_strip (s := 102) rfl (by (rw [hg]; rfl)); apply opT_stripG (s := 105) rfl (by (rw [hg]; rfl)); apply opT_of; (refine r_or rfl rfl ?_); refine r_nil ?_; exact rfl
  · exact rfl
  · exact rfl
  apply r_guard (s := 91) rfl rfl rfl
  · intro hg; apply opT_strip (s := 106) rfl (by (rw [hg]; rfl)); apply opT_of; (refine mvB rfl ?_); refine r_nil ?_; exact rfl
  · exact rfl
  · exact rfl
  apply r_guardG (s := 107) rfl rfl rfl
  · intro hg1 hg2; apply opT_of; (refine mvI rfl ?_); refine r_nil ?_; exact rfl
  · exact rfl
  · exact rfl
  apply r_guardG (s := 107) rfl rfl rfl
  · intro hg1 hg2; apply opT_strip (s := 108) rfl (by (rw [hg1, hg2]; rfl)); apply opT_of; (refine r_bin rfl rfl rfl ?_); refine r_nil ?_; exact rfl
  · exact rfl
  · exact rfl
  apply r_guardG (s := 107) rfl rfl rfl
  · intro hg1 hg2; apply opT_of; (refine mvS rfl ?_); refine r_nil ?_; exact rfl
  · exact rfl
  · exact rfl
  apply r_guardG (s := 107) rfl rfl rfl
  · intro hg1 hg2; apply opT_strip (s := 110) rfl (by (rw [hg1, hg2]; rfl)); apply opT_of; (refine r_len rfl rfl rfl ?_); refine r_nil ?_; exact rfl
  · exact rfl
  · exact rfl
  apply r_guardG (s := 107) rfl rfl rfl
  · intro hg1 hg2; apply opT_strip (s := 111) rfl (by (rw [hg1, hg2]; rfl)); apply opT_of; (refine r_bin rfl rfl rfl ?_); refine r_nil ?_; exact rfl
  · exact rfl
  · exact rfl
  apply r_guardG (s := 107) rfl rfl rfl
  · intro hg1 hg2; apply opT_strip (s := 109) rfl (by (rw [hg1, hg2]; rfl)); apply opT_strip (s := 112) rfl (by (rw [hg1, hg2]; rfl)); apply opT_of; (refine r_neq_B und4 rfl rfl ?_); refine r_nil ?_; exact rfl
  · exact rfl
  · exact rfl
  apply r_guard (s := 91) rfl rfl rfl
  · intro hg; apply opT_strip (s := 107) rfl (by (rw [hg]; rfl)); apply opT_stripG (s := 113) rfl (by (rw [hg]; rfl)); apply opT_of; (refine r_or rfl rfl ?_); refine r_nil ?_; exact rfl
  · exact rfl
  · exact rfl
  refine r_and rfl rfl ?_
  refine mvB rfl ?_
  apply r_guard (s := 116) rfl rfl rfl
  · intro hg; apply opT_of; (refine mvB rfl ?_); refine r_nil ?_; exact rfl
  · exact rfl
  · exact rfl
  apply r_guard (s := 116) rfl rfl rfl
  · intro hg; apply opT_strip (s := 117) rfl (by (rw [hg]; rfl)); apply opT_of; (refine mvB rfl ?_); refine r_nil ?_; exact rfl
  · exact rfl
  · exact rfl
  apply r_guardG (s := 118) rfl rfl rfl
  · intro hg1 hg2; apply opT_of; (refine mvI rfl ?_); refine r_nil ?_; exact rfl
  · exact rfl
  · exact rfl
  apply r_guardG (s := 118) rfl rfl rfl
  · intro hg1 hg2; apply opT_strip (s := 119) rfl (by (rw [hg1, hg2]; rfl)); apply opT_of; (refine r_bin rfl rfl rfl ?_); refine r_nil ?_; exact rfl
  · exact rfl
  · exact rfl
  apply r_guardG (s := 118) rfl rfl rfl
  · intro hg1 hg2; apply opT_strip (s := 120) rfl (by (rw [hg1, hg2]; rfl)); apply opT_of; (refine mvB rfl ?_); refine r_nil ?_; exact rfl
  · exact rfl
  · exact rfl
  apply r_guardG (s := 121) rfl rfl rfl
  · intro hg1 hg2; apply opT_of; (refine mvI rfl ?_); refine r_nil ?_; exact rfl
  · exact rfl
  · exact rfl
  apply r_guardG (s := 121) rfl rfl rfl
  · intro hg1 hg2; apply opT_of; (refine mvI rfl ?_); refine r_nil ?_; exact rfl
  · exact rfl
  · exact rfl
  apply r_guardG (s := 121) rfl rfl rfl
  · intro hg1 hg2; apply opT_strip (s := 122) rfl (by (rw [hg1, hg2]; rfl)); apply opT_strip (s := 123) rfl (by (rw [hg1, hg2]; rfl)); apply opT_of; (refine r_bin rfl rfl rfl ?_); refine r_nil ?_; exact rfl
  · exact rfl
  · exact rfl
  apply r_guardG (s := 118) rfl rfl rfl
  · intro hg1 hg2; apply opT_strip (s := 121) rfl (by (rw [hg1, hg2]; rfl)); apply opT_stripG (s := 124) rfl (by (rw [hg1, hg2]; rfl)); apply opT_of; (refine r_or rfl rfl ?_); refine r_nil ?_; exact rfl
  · exact rfl
  · exact rfl
  apply r_guard (s := 116) rfl rfl rfl
  · intro hg; apply opT_strip (s := 118) rfl (by (rw [hg]; rfl)); apply opT_stripG (s := 125) rfl (by (rw [hg]; rfl)); apply opT_of; (refine r_and rfl rfl ?_); refine r_nil ?_; exact rfl
  · exact rfl
  · exact rfl
  refine r_or rfl rfl ?_
  refine r_nil ?_
  refine i_then ?_
  refine t_cond_ff rfl (lbe2 hB) ?_
  refine t_skip ?_
  refine i_then ?_
  refine t_seq ?_
  refine t_seq ?_
  refine t_region ?_
  refine mvI rfl ?_
  refine r_nil ?_
  refine i_then ?_
  refine t_block ?_
  refine t_loop (fun (q : {k : Nat // k ≤ 6}) => live [(7, Ty.ptr 8 0), (8, Ty.ptr 26 0), (9, Ty.int .i64 (costR b oneC)), (10, Ty.int .i64 (planE b oneC)), (128, Ty.int .i64 (q.1 : Nat))] [(8, Cont.cells 25 (barnTys b)), (26, Cont.cells 141 (skTys (walksE b (skFill t) 9 q.1)))]) (fun q => 6 - q.1) (⟨0, by omega⟩) ?_ fun q => ?_
  · (refine Ent.mk' ?_ ?_ <;> (repeat' (first | exact allSub_zero | exact allTags_nil | refine allSub_succ' ?_ (Ty.sub_any _) | refine allSub_succ' ?_ (Ty.sub_refl _) | refine allTags_cons rfl (Cont.sub_refl _) ?_)))
    all_goals trace_state
  ·
    have hq := q.2
    have hwo := walk_ok b (walksE b (skFill t) 9 q.1) (most := 9) (by omega)
    have hwl := hwo.len
    refine t_seq ?_
    refine t_region ?_
    refine r_bin rfl rfl rfl ?_
    refine r_nil ?_
    refine i_then ?_
    refine t_seq ?_
    refine t_cond_dec rfl (fun hc3 => ?_) (fun hc3 => ?_)
    ·
      refine t_skip ?_
      refine i_then ?_
      refine t_seq ?_
      refine t_block ?_
      refine t_seq ?_
      refine t_region ?_
      refine mvO rfl ?_
      refine r_load_ptrN rfl rfl (by decide) rfl rfl (by exact Nat.le_of_ble_eq_true rfl) ?_
      refine r_callG [(26, 1000)] [] [(26, Cont.cells 141 (skTys (walksE b (skFill t) 9 (q.1 + 1))))] (c_walk b hs (walksE b (skFill t) 9 q.1) 9 ⟨by omega, by omega⟩ (walks_ok b t (by omega))) rfl rfl (by repeat (first | exact cv_nil | refine cv_cons ?_ ?_ | exact cv_ptr List.mem_cons_self | exact cv_pub rfl rfl)) (pre_cons (a := 26) (b := 1000) (by exact List.mem_cons_self) rfl (cc_cells_eq (by exact List.mem_cons_self) rfl rfl rfl) pre_nil) (post_cons (a := 26) (b := 1000) (by exact List.mem_cons_self) rfl (cc_cells_eq (by exact List.mem_cons_self) rfl rfl rfl) post_nil) (cv_pub rfl rfl) ?_
      refine asS rfl ?_
      refine r_nil ?_
      refine i_then ?_
      refine t_seq ?_
      refine t_region ?_
      refine r_load_ptrN rfl rfl (by decide) rfl rfl (by exact Nat.le_of_ble_eq_true rfl) ?_
      refine mvS rfl ?_
      refine r_call (c_lright b hs h6 (walkP b (walksE b (skFill t) 9 q.1) 9) (by omega)) rfl rfl rfl rfl rfl ?_
      refine mvB rfl ?_
      apply r_guard (s := 136) rfl rfl rfl
      · intro hg; apply opT_of; (refine mvI rfl ?_); refine r_nil ?_; exact rfl
      · exact rfl
      · exact rfl
      apply r_guard (s := 136) rfl rfl rfl
      · intro hg; apply opT_strip (s := 137) rfl (by (rw [hg]; rfl)); apply opT_of; (refine r_bin rfl rfl rfl ?_); refine r_nil ?_; exact rfl
      · exact rfl
      · exact rfl
      apply r_guard (s := 136) rfl rfl rfl
      · intro hg; apply opT_strip (s := 138) rfl (by (rw [hg]; rfl)); apply opT_of; (refine mvB rfl ?_); refine r_nil ?_; exact rfl
      · exact rfl
      · exact rfl
      apply r_guardG (s := 139) rfl rfl rfl
      · intro hg1 hg2; apply opT_of; (refine mvS rfl ?_); refine r_nil ?_; exact rfl
      · exact rfl
      · exact rfl
      apply r_guardG (s := 139) rfl rfl rfl
      · intro hg1 hg2; apply opT_strip (s := 140) rfl (by (rw [hg1, hg2]; rfl)); apply opT_of; (refine r_len rfl rfl rfl ?_); refine r_nil ?_; exact rfl
      · exact rfl
      · exact rfl
      apply r_guardG (s := 139) rfl rfl rfl
      · intro hg1 hg2; apply opT_of; (refine mvI rfl ?_); refine r_nil ?_; exact rfl
      · exact rfl
      · exact rfl
      apply r_guardG (s := 139) rfl rfl rfl
      · intro hg1 hg2; apply opT_strip (s := 141) rfl (by (rw [hg1, hg2]; rfl)); apply opT_strip (s := 142) rfl (by (rw [hg1, hg2]; rfl)); apply opT_of; (refine r_bin rfl rfl rfl ?_); refine r_nil ?_; exact rfl
      · exact rfl
      · exact rfl
      apply r_guard (s := 136) rfl rfl rfl
      · intro hg; apply opT_strip (s := 139) rfl (by (rw [hg]; rfl)); apply opT_stripG (s := 143) rfl (by (rw [hg]; rfl)); apply opT_of; (refine r_or rfl rfl ?_); refine r_nil ?_; exact rfl
      · exact rfl
      · exact rfl
      refine r_and rfl rfl ?_
      refine r_nil ?_
      refine i_then ?_
      refine t_cond_ff rfl (lbe4 hB) ?_
      refine t_skip ?_
      refine i_block ?_
      refine i_then ?_
      refine t_region ?_
      refine r_add rfl rfl (by omega) (by omega) ?_
      refine mvI rfl ?_
      refine r_nil ?_
      refine i_round (⟨q.1 + 1, by omega⟩) ?_ (by show 6 - (q.1 + 1) < 6 - q.1; omega)
      (refine Ent.mk' ?_ ?_ <;> (repeat' (first | exact allSub_zero | exact allTags_nil | refine allSub_succ' ?_ (Ty.sub_any _) | refine allSub_succ' ?_ (Ty.sub_refl _) | refine allTags_cons rfl (Cont.sub_refl _) ?_)))
      all_goals skip
    ·
      refine t_exit ?_
      refine i_then_exit ?_
      refine i_then_exit ?_
      refine i_block_exit rfl ?_
      refine i_then ?_
      refine t_seq ?_
      refine t_region ?_
      refine r_call (c_awake) rfl rfl rfl rfl rfl ?_
      refine asB rfl ?_
      refine r_nil ?_
      refine i_then ?_
      refine t_ret ?_
      refine i_rp1 rfl rfl ?_
      all_goals exact ret_refl rfl rfl
end Go.Proofs.Ytpnndljmhpepgaa

namespace Go.T
open Go Go.RowKit Go.ChangeShapes Go.WideShapes Go.ChangeAt
def pubs : Tags := fun _ => none
theorem wf_pubs (w : World) : Wf w pubs := ⟨fun _ _ h => (by cases h), fun _ _ _ _ h => (by cases h)⟩
theorem pubs_zero : ∀ b t, pubs b = some t → t = 0 := fun _ _ h => by cases h
structure Rd {α : Type} (P : Program) (e : TypeId) (E : El α) : Prop where
  size : P.cellsOf e = E.size
  pos : 0 < E.size
  rd : ∀ {H : Type} {enc : TypeId × Value → H} {w : World} {base : Nat} {held : Bool} {n : Nat} {cs : List Value} {y : DataW H × List MemPlace}, DataW.trod enc P w base (fun _ => true) held n e cs = some y → ∃ x, dens w pubs (E.tys x) cs
section
variable {H : Type} {enc : TypeId × Value → H} {P : Program} {w : World} {base : Nat} {held : Bool} {α : Type} {E : El α} {t e : TypeId} {n : Nat} {cs : List Value} {y : DataW H × List MemPlace}
theorem rd_sl (hR : Rd P e E) (ht : P.underlying t = some (.slice e)) (h : DataW.trod enc P w base (fun _ => true) held n t cs = some y) : ∃ v xs, cs = [v] ∧ (Ty.sl E xs).den w pubs v := by
  rcases Go.Deep.open_slice ht h with ⟨rfl, _⟩ | ⟨a, len, cap, m, k, D, Pl, rfl, _, hl, hm, hmm, _, hel⟩
  · exact ⟨_, [], rfl, none, 0, rfl, Nat.le_refl _, Nat.zero_le _, fun h => absurd h (Nat.lt_irrefl _)⟩
  have hlm : len ≤ m := by rw [hmm]; simpa using hl
  have hX : ∀ i : Fin len, ∃ x : α, ∃ cs', w.cells? base (a.add (i.1 * P.cellsOf e)) (P.cellsOf e) = some cs' ∧ dens w pubs (E.tys x) cs' := fun i => by
    obtain ⟨cs', h1, h2⟩ := hel i.1 (Nat.lt_of_lt_of_le i.2 hlm)
    obtain ⟨x, hx⟩ := hR.rd h2
    exact ⟨x, cs', h1, hx⟩
  let X : Fin len → α := fun i => (hX i).choose
  have hXs : ∀ i : Fin len, ∃ cs', w.cells? base (a.add (i.1 * P.cellsOf e)) (P.cellsOf e) = some cs' ∧ dens w pubs (E.tys (X i)) cs' := fun i => (hX i).choose_spec
  have hlen : (List.ofFn X).length = len := by simp
  refine ⟨_, List.ofFn X, rfl, some a, cap, by rw [hlen], by rw [hlen]; exact hl, hm, fun h0 => ?_⟩
  rw [hlen] at h0
  have hcell : ∀ (i : Fin len) (j : Nat) (u : Ty), (E.tys (X i))[j]? = some u → ∃ v, w.cell? (a.add (i.1 * E.size + j)) = some v ∧ u.den w pubs v := fun i j u hu => by
    obtain ⟨cs', h1, h2⟩ := hXs i
    obtain ⟨v, hv, hd⟩ := dens_get h2 j u hu
    obtain ⟨_, g1, g2⟩ := World.cells?_some h1
    have hj : j < P.cellsOf e := by
      rw [hR.size, ← E.len (X i)]
      exact (List.getElem?_eq_some_iff.1 hu).1
    refine ⟨v, ?_, hd⟩
    have := g2 j hj
    rw [Go.Deep.add_add, hv, hR.size] at this
    exact this
  have hsz := hR.pos
  have hfirst : ∃ v, w.cell? (a.add 0) = some v := by
    obtain ⟨u, hu⟩ : ∃ u, (E.tys (X ⟨0, h0⟩))[0]? = some u := ⟨_, List.getElem?_eq_getElem (by rw [E.len]; exact hsz)⟩
    obtain ⟨v, hv, _⟩ := hcell ⟨0, h0⟩ 0 u hu
    exact ⟨v, by simpa using hv⟩
  obtain ⟨b, off, sp⟩ := a
  obtain ⟨v0, hv0⟩ := hfirst
  have hsp : sp = none := by simpa [Addr.add] using World.cell?_spot hv0
  subst hsp
  have hb : b < w.heap.size := by
    obtain ⟨cs', h1, _⟩ := hXs ⟨0, h0⟩
    have := World.cells?_block h1 (by rw [hR.size]; exact hsz)
    simpa [Addr.add] using this
  refine ⟨b, off, rfl, rfl, hb, fun i u hu => ?_⟩
  have hi : i < len * E.size := by
    have := (List.getElem?_eq_some_iff.1 hu).1
    rw [flat_len, hlen] at this; exact this
  have hk : i / E.size < len := Nat.div_lt_of_lt_mul (by rw [Nat.mul_comm]; exact hi)
  have hj : i % E.size < E.size := Nat.mod_lt _ hsz
  have hij : i / E.size * E.size + i % E.size = i := by rw [Nat.mul_comm]; exact Nat.div_add_mod i E.size
  have hu2 := hu
  rw [← hij, flat_get E _ _ _ (by rw [hlen]; exact hk) hj, List.getElem?_ofFn, dif_pos hk] at hu2
  obtain ⟨v, hv, hd⟩ := hcell ⟨i / E.size, hk⟩ (i % E.size) u hu2
  refine ⟨v, ?_, hd⟩
  rw [← Go.WideShapes.add_plain]
  rw [hij] at hv
  exact hv
theorem rd_sl1 {c : Value} (hR : Rd P e E) (ht : P.underlying t = some (.slice e)) (h : DataW.trod enc P w base (fun _ => true) held n t [c] = some y) : ∃ xs, (Ty.sl E xs).den w pubs c := by
  obtain ⟨v, xs, e, hd⟩ := rd_sl hR ht h
  exact ⟨xs, by rw [show c = v by simpa using e]; exact hd⟩
end
section
variable {w w' : World} {S K : Nat → Prop} {M' : Tags}
theorem le_block (le : Le S K w pubs w' M') {b : Nat} (hb : b < w.heap.size) : w'.heap[b]? = w.heap[b]? := (le.pub b hb rfl).2
theorem le_same (le : Le S K w pubs w' M') {p : MemPlace} (hp : p.block < w.heap.size) : w.sameAt w' p := by
  cases p with
  | cell b o => exact World.cell?_of_block (w := w) (le_block le hp)
  | map b => exact le_block le hp
theorem le_kept (le : Le S K w pubs w' M') (may : MemPlace → Prop) : w.keptBut w' may := by
  refine ⟨le.os, le.out, fun i hi => ?_⟩
  have e := le_block le hi
  rw [e]
  split
  · rename_i h1 h2
    rw [h1] at h2
    simp only [Option.some.injEq, Obj.cells.injEq] at h2
    obtain ⟨rfl, rfl, rfl⟩ := h2
    exact ⟨rfl, rfl, rfl, fun _ _ => rfl⟩
  · rename_i h1 h2
    rw [h1] at h2
    simp only [Option.some.injEq, Obj.map.injEq] at h2
    exact Or.inr ⟨h2.1.symm, h2.2.symm⟩
  · rfl
theorem le_frozen (le : Le S K w pubs w' M') {a : Addr} (ha : a.block < w.heap.size) : w'.frozen? a = w.frozen? a := by
  unfold World.frozen?
  rw [le_block le ha]
end
section
variable {H : Type} {enc : TypeId × Value → H} {P : Program}
theorem trodAll_stays (hl : laidOutB P = true) {w w' : World} {sp : Nat → Bool} : ∀ {ts : List TypeId} {vs : List Value} {ds : List (DataW H)} {ps : List MemPlace}, (∀ t ∈ ts, P.readableRec t = true ∧ t < P.types.size) →
    DataW.TrodAll enc P w 0 (fun _ => true) true ts vs ds ps → (∀ p ∈ ps, w.sameAt w' p) → (∀ p ∈ ps, sp p.block = true) → DataW.TrodAll enc P w' 0 sp true ts vs ds ps
  | [], [], [], _, _, h, _, _ => h
  | t :: ts, v :: vs, d :: ds, _, ht, ⟨p, q, h1, h2, e⟩, hs, hsp => by
    subst e
    have h0 := ht t List.mem_cons_self
    exact ⟨p, q, Go.WideElems.Trod_stays hl h0.1 h0.2 h1 (fun x hx => hs x (List.mem_append_left _ hx)) (fun x hx => hsp x (List.mem_append_left _ hx)),
      trodAll_stays hl (fun t h => ht t (List.mem_cons_of_mem _ h)) h2 (fun x hx => hs x (List.mem_append_right _ hx)) (fun x hx => hsp x (List.mem_append_right _ hx)), rfl⟩
theorem post_true {f : Func} {s : ChangeSpec} {apart fresh handsOn again : Bool} {W W' : World} {args : Array Value} {ds : List (DataW H)} {before : List MemPlace} {S K : Nat → Prop} {M' : Tags}
    (hl : laidOutB P = true) (hv : s.vars = []) (hrd : ∀ t ∈ f.params.toList, P.readableRec t = true ∧ t < P.types.size) {tb : TypeId} (htb : P.underlying tb = some .bool) (hrt : f.resultTypes = #[tb])
    (hW : DataW.Whole enc P f.params.toList s.vars apart W args.toList ds [] before) (hres : (s.fn H (ds ++ [])).results = [.lit (.bool true)]) (hargs : (s.fn H (ds ++ [])).args = ds) (hvars : (s.fn H (ds ++ [])).vars = [])
    (le : Le S K W pubs W' M') : s.post enc P f apart fresh handsOn again W args (.bool true) W' := by
  have hW0 := hW
  obtain ⟨p, q, hA, hV, hb, hfz, hn⟩ := hW0
  have hlt := DataW.TrodAll.lt hA
  have hq : q = [] := by rw [hv] at hV; exact (trodVars_none hV).2
  subst hq
  have hbp : before = p := by rw [hb]; simp
  have hre : ∀ (b : Nat) (sp : Nat → Bool) (hd : Bool), DataW.TrodAll enc P W' b sp hd f.resultTypes.toList ((Value.bool true).resultList f.resultTypes.size) (s.fn H (ds ++ [])).results [] := fun b sp hd => by
    rw [hrt, hres]; exact trodAll_mk1 (shut_bool htb true)
  have har : ∀ sp : Nat → Bool, (∀ x ∈ p, sp x.block = true) → DataW.TrodAll enc P W' 0 sp true f.params.toList args.toList (s.fn H (ds ++ [])).args p := fun sp hsp => by
    rw [hargs]; exact trodAll_stays hl hrd hA (fun x hx => le_same le (hlt x hx)) hsp
  have hva : ∀ sp : Nat → Bool, DataW.TrodVars enc P W' sp s.vars (s.fn H (ds ++ [])).vars [] := fun sp => by
    rw [hvars, hv]; exact rfl
  have hok : ∀ (j : Nat) (t : TypeId) (r : Value), f.resultTypes[j]? = some t → ((Value.bool true).resultList f.resultTypes.size)[j]? = some r → Value.okWide P W' .any 0 t r := by
    exact ok_one (by rw [hrt]) rfl (okWide_bool_mk htb true)
  refine ⟨ds, [], before, [], p, [], hW, hre _ _ _, har _ (fun x hx => by simpa using hlt x hx), hva _, World.keptBut_mono (fun x hx => hx) (le_kept le _), fun _ => ?_⟩
  refine ⟨hok, _, _, ([] ++ p) ++ [], ⟨[] ++ p, [], trodAll_append (har _ (fun _ _ => rfl)) (hre _ _ _), hva _, rfl, ?_, ?_⟩, ?_⟩
  · intro b off hp
    have hp' : MemPlace.cell b off ∈ p := by simpa using hp
    rw [le_frozen le (hlt _ hp')]
    exact hfz b off (by rw [hbp]; exact hp')
  · intro ha
    have := hn ha
    rw [hbp] at this
    simpa using this
  · intro x hx _
    rw [hbp]
    simpa using hx
end
end Go.T

namespace Go.Proofs.Ytpnndljmhpepgaa
open Go Go.T Go.RowKit Go.ChangeShapes Go.WideShapes Go.ChangeAt
theorem rdU8 : Rd Try.prog 5 U8 := ⟨by kernel_rfl, by decide, fun h => by
  obtain ⟨i, rfl, _⟩ := DataW.trod_int Try.underlying5 h
  exact ⟨i, rfl, trivial⟩⟩
section
variable {H : Type} {enc : TypeId × Value → H} {W : World} {base : Nat} {held : Bool} {v : Value} {d : DataW H} {p : List MemPlace}
set_option maxRecDepth 100000 in
theorem rd_bytes (hv : Value.okWide Try.prog W .any base 83 v) (h : DataW.Trod enc Try.prog W 0 (fun _ => true) held 83 v d p) : ∃ l, (Ty.sl U8 l).den W pubs v := by
  obtain ⟨a, len, cap, rfl⟩ := okWide_slice Try.underlying83 hv
  obtain ⟨n, hn⟩ := h
  exact rd_sl1 rdU8 Try.underlying83 (by simpa [Value.cells] using hn)
end
end Go.Proofs.Ytpnndljmhpepgaa

namespace Go.Proofs.Ytpnndljmhpepgaa
open Go Go.T Go.RowKit Go.ChangeShapes Go.WideShapes Go.ChangeAt
section
variable {H : Type} {enc : TypeId × Value → H} {W : World} {base : Nat} {held : Bool} {v : Value} {d : DataW H} {p : List MemPlace}
set_option maxRecDepth 100000 in
theorem rd_bool (hv : Value.okWide Try.prog W .any base 4 v) (h : DataW.Trod enc Try.prog W 0 (fun _ => true) held 4 v d p) : ∃ n : Bool, (Ty.bool n).den W pubs v := by
  obtain ⟨n, rfl, _⟩ := open_bool Try.underlying4 hv h
  exact ⟨n, rfl⟩
end
end Go.Proofs.Ytpnndljmhpepgaa
