/- Lemmas: the program and the reference walked, plain laws. -/
import Derived.Test.YtpnndljmhpepgaaLd
namespace Go.Proofs.Ytpnndljmhpepgaa
open Go Go.T
set_option maxHeartbeats 4000000
def innU (b : Barn) (k : Nat) : List Int := (b.lots.take k).map fun l => l.inn
theorem innU_len (b : Barn) {k : Nat} (h : k ≤ b.lots.length) : (innU b k).length = k := by unfold innU; rw [List.length_map, List.length_take]; omega
theorem innU_succ {b : Barn} {k : Nat} (h : k < b.lots.length) : innU b k ++ [(nth b.lots k).inn] = innU b (k + 1) := by
  unfold innU; rw [take_nth h, List.map_append]; rfl
theorem innU_all {b : Barn} {k : Nat} (h : b.lots.length ≤ k) : innU b k = innL b := by unfold innU innL; rw [List.take_of_length_le h]
theorem lix_at {b : Barn} {plan : List Tur} {k : Nat} (h : b.lots.length ≤ k) : LIx b plan 0 (innU b k) := by rw [innU_all h]; exact lix0 b plan
theorem no_rng {b : Barn} {p : List Int} {t : Tur} (h : (decide (t.lot < 0) || decide (t.lot ≥ (p.length : Int)) || decide (t.aim < 0) || decide (t.aim ≥ (b.sizes.length : Int)) || decide (t.aim ∈ p)) = false) : (0 ≤ t.lot ∧ t.lot < p.length) ∧ 0 ≤ t.aim ∧ t.aim < b.sizes.length := by
  simp only [Bool.or_eq_false_iff, decide_eq_false_iff_not] at h
  omega
theorem plain_TurE (x : Tur) : ∀ t ∈ TurE.tys x, t.Plain := plain_cons (plain_int _ _) (plain_cons (plain_int _ _) plain_nil)
attribute [local irreducible] dInt dBool dSl dPp dPtr dAgg dTup dClo dAny dEx dStr dGd dCells dVec dVs dRow dOp nth Tri Into TOps Ctr bodyPost Exit.then Exit.inBlock Code.wp Code.wpIn dWhen dPa dPe dAo dArr dMp dPm dMap dCJ CtrG CtrI OpY keepPost iterPost bodyPostM roundQ
set_option maxRecDepth 100000 in
theorem c_ldone (b : Barn) (hs : b.Small) (plan : List Tur) (hp : plan.length ≤ 400000000) : Ctr Try.prog 56 [barnT b, Ty.sl TurE plan] (Ty.tup [Ty.sl I64 (lawV b plan).1, Ty.bool (lawV b plan).2]) := by
  refine fn_intro Try.func56 rfl (by decide) Try.ntmps56 (by exact Nat.le_of_ble_eq_true rfl) fun w0 M0 => ?_
  have hs1 := hs.lots
  refine t_seq ?_
  refine t_region ?_
  refine r_box_agg rfl ?_
  refine asX rfl ?_
  refine asB rfl ?_
  refine r_nil ?_
  refine i_then ?_
  refine t_seq ?_
  refine t_region ?_
  refine asX rfl ?_
  refine r_nil ?_
  refine i_then ?_
  refine t_seq ?_
  refine t_seq ?_
  refine t_region ?_
  refine r_field_pp rfl rfl rfl rfl rfl (by decide) ?_
  refine r_load_pp rfl rfl rfl rfl ?_
  refine r_len rfl rfl rfl ?_
  refine mvI rfl ?_
  refine r_nil ?_
  refine i_then ?_
  refine t_block ?_
  refine t_loop (fun (k : {k : Nat // k ≤ b.lots.length}) => live [(1, Ty.sl TurE plan), (2, Ty.pp (barnTys b)), (6, Ty.row I64 3 23 (innU b k.1)), (12, Ty.sl LotE b.lots), (13, Ty.int .i64 b.lots.length), (14, Ty.int .i64 (k.1 : Nat))] []) (fun k => b.lots.length - k.1) (⟨0, by omega⟩) ?_ fun k => ?_
  · (refine Ent.mk' ?_ ?_ <;> (repeat' (first | exact allSub_zero | exact allTags_nil | refine allSub_succ' ?_ (Ty.sub_any _) | refine allSub_succ' ?_ (Ty.sub_refl _) | refine allSub_succ' ?_ Ty.nil_row)))
    all_goals trace_state
  ·
    have hk := k.2
    have hl := innU_len b hk
    refine t_seq ?_
    refine t_region ?_
    refine r_bin rfl rfl rfl ?_
    refine r_nil ?_
    refine i_then ?_
    refine t_seq ?_
    refine t_cond_dec rfl (fun hc1 => ?_) (fun hc1 => ?_)
    ·
      refine t_skip ?_
      refine i_then ?_
      refine t_seq ?_
      refine t_block ?_
      refine t_seq ?_
      refine t_region ?_
      refine r_index_slN rfl rfl rfl rfl rfl rfl (by omega) ?_
      refine r_load_ppN rfl rfl rfl (by exact Nat.le_of_ble_eq_true rfl) ?_
      refine r_alloc rfl (by exact List.cons_ne_nil _ _) rfl ?_
      refine r_storeN rfl rfl (by decide) rfl rfl rfl rfl rfl rfl ?_
      refine r_nil ?_
      refine i_then ?_
      refine t_region ?_
      refine mvR rfl ?_
      refine r_field_ptr rfl rfl rfl rfl rfl (by decide) ?_
      refine r_load_ptr rfl rfl (by decide) rfl rfl rfl ?_
      refine r_buildSlice (E := I64) (xs := [_]) rfl rfl rfl rfl rfl (by decide) (by decide) (by repeat (first | exact (Parts.nil : Parts _ _ [] _) | (show Parts _ _ ((_, _) :: _) _; apply Parts.one; (· exact (rfl : _ = Ty.int _ _)); (· exact rfl)))) (by exact rfl) rfl ?_
      refine r_append rfl rfl (by decide) rfl rfl rfl rfl rfl rfl (by decide) (by (simp <;> omega)) (by (simp <;> omega)) ?_
      refine asR rfl ?_
      refine r_nil ?_
      refine i_block ?_
      refine i_then ?_
      refine t_region ?_
      refine r_add rfl rfl (by omega) (by omega) ?_
      refine mvI rfl ?_
      refine r_nil ?_
      refine i_round (⟨k.1 + 1, by omega⟩) ?_ (by show b.lots.length - (k.1 + 1) < b.lots.length - k.1; omega)
      (refine Ent.mk' ?_ ?_ <;> (repeat' (first | exact allSub_zero | exact allTags_nil | refine allSub_succ' ?_ (Ty.sub_any _) | refine allSub_succ' ?_ (Ty.sub_refl _) | refine allSub_succ' ?_ ?_)))
      all_goals skip
      all_goals exact Ty.sub_row (innU_succ (by omega))
    ·
      refine t_exit ?_
      refine i_then_exit ?_
      refine i_then_exit ?_
      refine i_block_exit rfl ?_
      refine i_then ?_
      refine t_seq ?_
      refine t_seq ?_
      have hke : k.1 = b.lots.length := by have := k.2; omega
      have hil : (innU b k.1).length = b.lots.length := by rw [innU_len b k.2, hke]
      refine t_own (s := 6) rfl rfl ?_
      refine t_region ?_
      refine mvS rfl ?_
      refine r_len rfl rfl rfl ?_
      refine mvI rfl ?_
      refine r_nil ?_
      refine i_then ?_
      refine t_block ?_
      refine t_loop (fun (x : {x : Nat × List Int // LIx b plan x.1 x.2}) => live [(2, Ty.pp (barnTys b)), (6, Ty.vs 23 x.1.2.length), (24, Ty.sl TurE plan), (25, Ty.int .i64 plan.length), (26, Ty.int .i64 (x.1.1 : Nat))] [(23, Cont.vec I64 3 x.1.2)]) (fun x => plan.length - x.1.1) (⟨(0, innU b k.1), lix_at (by omega)⟩) ?_ fun x => ?_
      · (refine Ent.mk' ?_ ?_ <;> (repeat' (first | exact allSub_zero | exact allTags_nil | refine allSub_succ' ?_ (Ty.sub_any _) | refine allSub_succ' ?_ (Ty.sub_refl _) | refine allTags_cons rfl (Cont.sub_refl _) ?_)))
      ·
        have hxl := x.2.len
        have hxe := x.2.le
        refine t_seq ?_
        refine t_region ?_
        refine r_bin rfl rfl rfl ?_
        refine r_nil ?_
        refine i_then ?_
        refine t_seq ?_
        refine t_cond_dec rfl (fun hc2 => ?_) (fun hc2 => ?_)
        ·
          refine t_skip ?_
          refine i_then ?_
          refine t_seq ?_
          refine t_block ?_
          refine t_seq ?_
          refine t_region ?_
          refine r_index_slN rfl rfl rfl rfl rfl rfl (by omega) ?_
          refine r_load_ppN rfl rfl rfl (by exact Nat.le_of_ble_eq_true rfl) ?_
          refine r_alloc rfl (by exact List.cons_ne_nil _ _) rfl ?_
          refine r_storeN rfl rfl (by decide) rfl rfl rfl rfl rfl rfl ?_
          refine r_nil ?_
          refine i_then ?_
          refine t_seq ?_
          refine t_seq ?_
          refine t_draw mixed rfl ?_
          refine r_field_ptr rfl rfl rfl rfl rfl (by decide) ?_
          refine r_load_ptr rfl rfl (by decide) rfl rfl rfl ?_
          refine r_bin rfl rfl rfl ?_
          refine mvB rfl ?_
          apply r_guard (s := 33) rfl rfl rfl
          · intro hg; apply opT_of; (refine r_field_ptr rfl rfl rfl rfl rfl (by decide) ?_); refine r_nil ?_; exact rfl
          · exact rfl
          · exact rfl
          apply r_guard (s := 33) rfl rfl rfl
          · intro hg; apply opT_strip (s := 34) rfl (by (rw [hg]; rfl)); apply opT_of; (refine r_load_ptr rfl rfl (by decide) rfl rfl rfl ?_); refine r_nil ?_; exact rfl
          · exact rfl
          · exact rfl
          apply r_guard (s := 33) rfl rfl rfl
          · intro hg; apply opT_of; (refine mvV rfl ?_); refine r_nil ?_; exact rfl
          · exact rfl
          · exact rfl
          apply r_guard (s := 33) rfl rfl rfl
          · intro hg; apply opT_strip (s := 36) rfl (by (rw [hg]; rfl)); apply opT_of; (refine r_len_vs rfl rfl rfl ?_); refine r_nil ?_; exact rfl
          · exact rfl
          · exact rfl
          apply r_guard (s := 33) rfl rfl rfl
          · intro hg; apply opT_strip (s := 35) rfl (by (rw [hg]; rfl)); apply opT_strip (s := 37) rfl (by (rw [hg]; rfl)); apply opT_of; (refine r_bin rfl rfl rfl ?_); refine r_nil ?_; exact rfl
          · exact rfl
          · exact rfl
          refine r_or rfl rfl ?_
          refine mvB rfl ?_
          apply r_guard (s := 40) rfl rfl rfl
          · intro hg; apply opT_of; (refine r_field_ptr rfl rfl rfl rfl rfl (by decide) ?_); refine r_nil ?_; exact rfl
          · exact rfl
          · exact rfl
          apply r_guard (s := 40) rfl rfl rfl
          · intro hg; apply opT_strip (s := 41) rfl (by (rw [hg]; rfl)); apply opT_of; (refine r_load_ptr rfl rfl (by decide) rfl rfl rfl ?_); refine r_nil ?_; exact rfl
          · exact rfl
          · exact rfl
          apply r_guard (s := 40) rfl rfl rfl
          · intro hg; apply opT_strip (s := 42) rfl (by (rw [hg]; rfl)); apply opT_of; (refine r_bin rfl rfl rfl ?_); refine r_nil ?_; exact rfl
          · exact rfl
          · exact rfl
          refine r_or rfl rfl ?_
          refine mvB rfl ?_
          apply r_guard (s := 45) rfl rfl rfl
          · intro hg; apply opT_of; (refine r_field_ptr rfl rfl rfl rfl rfl (by decide) ?_); refine r_nil ?_; exact rfl
          · exact rfl
          · exact rfl
          apply r_guard (s := 45) rfl rfl rfl
          · intro hg; apply opT_strip (s := 46) rfl (by (rw [hg]; rfl)); apply opT_of; (refine r_load_ptr rfl rfl (by decide) rfl rfl rfl ?_); refine r_nil ?_; exact rfl
          · exact rfl
          · exact rfl
          apply r_guard (s := 45) rfl rfl rfl
          · intro hg; apply opT_of; (refine r_field_pp rfl rfl rfl rfl rfl (by decide) ?_); refine r_nil ?_; exact rfl
          · exact rfl
          · exact rfl
          apply r_guard (s := 45) rfl rfl rfl
          · intro hg; apply opT_strip (s := 48) rfl (by (rw [hg]; rfl)); apply opT_of; (refine r_load_pp rfl rfl rfl rfl ?_); refine r_nil ?_; exact rfl
          · exact rfl
          · exact rfl
          apply r_guard (s := 45) rfl rfl rfl
          · intro hg; apply opT_strip (s := 49) rfl (by (rw [hg]; rfl)); apply opT_of; (refine r_len rfl rfl rfl ?_); refine r_nil ?_; exact rfl
          · exact rfl
          · exact rfl
          apply r_guard (s := 45) rfl rfl rfl
          · intro hg; apply opT_strip (s := 47) rfl (by (rw [hg]; rfl)); apply opT_strip (s := 50) rfl (by (rw [hg]; rfl)); apply opT_of; (refine r_bin rfl rfl rfl ?_); refine r_nil ?_; exact rfl
          · exact rfl
          · exact rfl
          refine r_or rfl rfl ?_
          refine mvB rfl ?_
          apply r_guard (s := 53) rfl rfl rfl
          · intro hg; apply opT_of; (refine mvV rfl ?_); refine r_nil ?_; exact rfl
          · exact rfl
          · exact rfl
          apply r_guard (s := 53) rfl rfl rfl
          · intro hg; apply opT_of; (refine r_field_ptr rfl rfl rfl rfl rfl (by decide) ?_); refine r_nil ?_; exact rfl
          · exact rfl
          · exact rfl
          apply r_guard (s := 53) rfl rfl rfl
          · intro hg; apply opT_strip (s := 55) rfl (by (rw [hg]; rfl)); apply opT_of; (refine r_load_ptr rfl rfl (by decide) rfl rfl rfl ?_); refine r_nil ?_; exact rfl
          · exact rfl
          · exact rfl
          apply r_guard (s := 53) rfl rfl rfl
          · intro hg; apply opT_strip (s := 54) rfl (by (rw [hg]; rfl)); apply opT_strip (s := 56) rfl (by (rw [hg]; rfl)); apply opT_of; (refine r_callLC [23] (c_Contains_int x.1.2 (nth plan x.1.1).aim) rfl (by repeat (first | exact lendcs_nil | refine lendcs_cons (lendc_of (lend_pub rfl rfl)) ?_ | refine lendcs_cons (lendc_vs rfl (by exact rfl) (by decide) rfl) ?_)) (by exact plain_bool _) ?_); refine r_nil ?_; exact rfl
          · exact rfl
          · exact rfl
          refine r_or rfl rfl ?_
          refine mvB rfl ?_
          apply r_guard (s := 59) rfl rfl rfl
          · intro hg; apply opT_of; (refine r_field_pp rfl rfl rfl rfl rfl (by decide) ?_); refine r_nil ?_; exact rfl
          · exact rfl
          · exact rfl
          apply r_guard (s := 59) rfl rfl rfl
          · intro hg; apply opT_strip (s := 60) rfl (by (rw [hg]; rfl)); apply opT_of; (refine r_load_pp rfl rfl rfl rfl ?_); refine r_nil ?_; exact rfl
          · exact rfl
          · exact rfl
          apply r_guard (s := 59) rfl rfl rfl
          · intro hg; apply opT_of; (refine r_field_ptr rfl rfl rfl rfl rfl (by decide) ?_); refine r_nil ?_; exact rfl
          · exact rfl
          · exact rfl
          apply r_guard (s := 59) rfl rfl rfl
          · intro hg; apply opT_strip (s := 62) rfl (by (rw [hg]; rfl)); apply opT_of; (refine r_load_ptr rfl rfl (by decide) rfl rfl rfl ?_); refine r_nil ?_; exact rfl
          · exact rfl
          · exact rfl
          apply r_guard (s := 59) rfl rfl rfl
          · intro hg; apply opT_strip (s := 61) rfl (by (rw [hg]; rfl)); apply opT_strip (s := 63) rfl (by (rw [hg]; rfl)); apply opT_of; (refine r_index_sl rfl rfl rfl rfl rfl rfl (no_rng hg).2.1 (by have := (no_rng hg).2; omega) ?_); refine r_nil ?_; exact rfl
          · exact rfl
          · exact rfl
          apply r_guard (s := 59) rfl rfl rfl
          · intro hg; apply opT_strip (s := 64) rfl (by (rw [hg]; rfl)); apply opT_of; (refine r_load_pp rfl rfl rfl rfl ?_); refine r_nil ?_; exact rfl
          · exact rfl
          · exact rfl
          apply r_guard (s := 59) rfl rfl rfl
          · intro hg; apply opT_of; (refine r_field_pp rfl rfl rfl rfl rfl (by decide) ?_); refine r_nil ?_; exact rfl
          · exact rfl
          · exact rfl
          apply r_guard (s := 59) rfl rfl rfl
          · intro hg; apply opT_strip (s := 66) rfl (by (rw [hg]; rfl)); apply opT_of; (refine r_load_pp rfl rfl rfl rfl ?_); refine r_nil ?_; exact rfl
          · exact rfl
          · exact rfl
          apply r_guard (s := 59) rfl rfl rfl
          · intro hg; apply opT_of; (refine r_field_ptr rfl rfl rfl rfl rfl (by decide) ?_); refine r_nil ?_; exact rfl
          · exact rfl
          · exact rfl
          apply r_guard (s := 59) rfl rfl rfl
          · intro hg; apply opT_strip (s := 68) rfl (by (rw [hg]; rfl)); apply opT_of; (refine r_load_ptr rfl rfl (by decide) rfl rfl rfl ?_); refine r_nil ?_; exact rfl
          · exact rfl
          · exact rfl
          apply r_guard (s := 59) rfl rfl rfl
          · intro hg; apply opT_strip (s := 67) rfl (by (rw [hg]; rfl)); apply opT_strip (s := 69) rfl (by (rw [hg]; rfl)); apply opT_of; (refine r_index_sl rfl rfl rfl rfl rfl rfl (no_rng hg).1.1 (by have := no_rng hg; omega) ?_); refine r_nil ?_; exact rfl
          · exact rfl
          · exact rfl
          apply r_guard (s := 59) rfl rfl rfl
          · intro hg; apply opT_strip (s := 70) rfl (by (rw [hg]; rfl)); apply opT_of; (refine r_field_pp rfl rfl rfl rfl rfl (by decide) ?_); refine r_nil ?_; exact rfl
          · exact rfl
          · exact rfl
          apply r_guard (s := 59) rfl rfl rfl
          · intro hg; apply opT_strip (s := 71) rfl (by (rw [hg]; rfl)); apply opT_of; (refine r_load_pp rfl rfl rfl rfl ?_); refine r_nil ?_; exact rfl
          · exact rfl
          · exact rfl
          apply r_guard (s := 59) rfl rfl rfl
          · intro hg; apply opT_strip (s := 65) rfl (by (rw [hg]; rfl)); apply opT_strip (s := 72) rfl (by (rw [hg]; rfl)); apply opT_of; (refine r_bin rfl rfl rfl ?_); refine r_nil ?_; exact rfl
          · exact rfl
          · exact rfl
          refine r_or rfl rfl ?_
          refine r_nil ?_
          refine ⟨by kernel_rfl, ?_⟩
          refine i_then ?_
          refine t_cond rfl (fun hc3 => ?_) (fun hc3 => ?_)
          ·
            refine t_seq ?_
            refine t_region ?_
            refine asX rfl ?_
            refine asB rfl ?_
            refine r_nil ?_
            refine i_then ?_
            refine t_ret ?_
            refine i_then_ret ?_
            refine i_block_ret ?_
            refine i_then_ret ?_
            refine i_then_ret ?_
            refine i_block_ret ?_
            refine i_then_ret ?_
            refine i_rp2 rfl rfl rfl ?_ ?_
            all_goals skip
            all_goals first | exact ret_nil_eq (congrArg Prod.fst (x.2.stop (by omega) hc3)) | exact ret_eq rfl rfl (congrArg (fun z : List Int × Bool => Ty.bool z.2) (x.2.stop (by omega) hc3).symm)
          ·
            refine t_skip ?_
            refine i_then ?_
            have hno := noT_false.1 (show noT b x.1.2 (nth plan x.1.1) = false from hc3)
            refine t_region ?_
            refine mvV rfl ?_
            refine r_field_ptr rfl rfl rfl rfl rfl (by decide) ?_
            refine r_load_ptr rfl rfl (by decide) rfl rfl rfl ?_
            refine r_field_ptr rfl rfl rfl rfl rfl (by decide) ?_
            refine r_load_ptr rfl rfl (by decide) rfl rfl rfl ?_
            refine r_index_vsI rfl rfl rfl rfl rfl (by omega) (by omega) ?_
            refine r_store_vecB rfl rfl rfl (by decide) rfl rfl (by exact (rfl : _ = Ty.int _ _)) rfl (by omega) (by decide) rfl rfl ?_
            refine r_nil ?_
            refine i_block ?_
            refine i_then ?_
            refine t_region ?_
            refine r_add rfl rfl (by omega) (by omega) ?_
            refine mvI rfl ?_
            refine r_nil ?_
            refine i_round (⟨(x.1.1 + 1, x.1.2.set (nth plan x.1.1).lot.toNat (nth plan x.1.1).aim), x.2.next (by omega) hc3⟩) ?_ (by show plan.length - (x.1.1 + 1) < plan.length - x.1.1; omega)
            (refine Ent.mk' ?_ ?_ <;> (repeat' (first | exact allSub_zero | exact allTags_nil | refine allSub_succ' ?_ (Ty.sub_any _) | refine allSub_succ' ?_ (Ty.sub_refl _) | refine allTags_cons rfl (Cont.sub_refl _) ?_ | refine allSub_succ' ?_ ?_)))
            all_goals skip
            all_goals exact Ty.sub_eq (congrArg (Ty.vs 23) List.length_set.symm)
        ·
          refine t_exit ?_
          refine i_then_exit ?_
          refine i_then_exit ?_
          refine i_block_exit rfl ?_
          refine i_then ?_
          refine t_seq ?_
          refine t_pub (tg := 23) [(6, Ty.sl I64 x.1.2)] (by decide) rfl ⟨pub_vs rfl rfl rfl (by decide), trivial⟩ ?_
          refine t_region ?_
          refine mvS rfl ?_
          refine asS rfl ?_
          refine asB rfl ?_
          refine r_nil ?_
          refine i_then ?_
          refine t_ret ?_
          refine i_rp2 rfl rfl rfl ?_ ?_
          all_goals skip
          all_goals first | exact ret_eq rfl rfl (congrArg (fun z : List Int × Bool => Ty.sl I64 z.1) (x.2.end (by omega)).symm) | exact ret_eq rfl rfl (congrArg (fun z : List Int × Bool => Ty.bool z.2) (x.2.end (by omega)).symm)
set_option maxRecDepth 100000 in
theorem c_lright (b : Barn) (hs : b.Small) (h6 : b.lots.length ≤ 6) (plan : List Tur) (hp : plan.length ≤ 400000000) : Ctr Try.prog 52 [barnT b, Ty.sl TurE plan] (Ty.bool (rightV b plan)) := by
  refine fn_intro Try.func52 rfl (by decide) Try.ntmps52 (by exact Nat.le_of_ble_eq_true rfl) fun w0 M0 => ?_
  have hvl := lawV_len h6 plan
  refine t_seq ?_
  refine t_region ?_
  refine r_box_agg rfl ?_
  refine asB rfl ?_
  refine r_nil ?_
  refine i_then ?_
  refine t_seq ?_
  refine t_region ?_
  refine r_load_ppN rfl rfl rfl (by exact Nat.le_of_ble_eq_true rfl) ?_
  refine mvS rfl ?_
  refine r_call (c_ldone b hs plan hp) rfl rfl rfl rfl rfl ?_
  refine mvT rfl ?_
  refine r_extract rfl rfl ?_
  refine r_extract rfl rfl ?_
  refine asS rfl ?_
  refine asB rfl ?_
  refine r_nil ?_
  refine i_then ?_
  refine t_seq ?_
  refine t_seq ?_
  refine t_region ?_
  refine mvS rfl ?_
  refine r_len rfl rfl rfl ?_
  refine mvI rfl ?_
  refine r_nil ?_
  refine i_then ?_
  refine t_block ?_
  refine t_loop (fun (k : {k : Nat // k ≤ (lawV b plan).1.length}) => live [(2, Ty.pp (barnTys b)), (6, Ty.bool (isUp b plan k.1)), (15, Ty.sl I64 (lawV b plan).1), (16, Ty.int .i64 (lawV b plan).1.length), (17, Ty.int .i64 (k.1 : Nat))] []) (fun k => (lawV b plan).1.length - k.1) (⟨0, by omega⟩) ?_ fun k => ?_
  · (refine Ent.mk' ?_ ?_ <;> (repeat' (first | exact allSub_zero | exact allTags_nil | refine allSub_succ' ?_ (Ty.sub_any _) | refine allSub_succ' ?_ (Ty.sub_refl _) | refine allSub_succ' ?_ ?_)))
    all_goals exact Ty.sub_bool (isUp_zero b plan).symm
  ·
    have hk := k.2
    refine t_seq ?_
    refine t_region ?_
    refine r_bin rfl rfl rfl ?_
    refine r_nil ?_
    refine i_then ?_
    refine t_seq ?_
    refine t_cond_dec rfl (fun hc1 => ?_) (fun hc1 => ?_)
    ·
      refine t_skip ?_
      refine i_then ?_
      refine t_seq ?_
      refine t_block ?_
      refine t_seq ?_
      refine t_region ?_
      refine mvI rfl ?_
      refine r_index_slN rfl rfl rfl rfl rfl rfl (by omega) ?_
      refine r_load_pp rfl rfl rfl rfl ?_
      refine asI rfl ?_
      refine asI rfl ?_
      refine r_nil ?_
      refine i_then ?_
      refine t_region ?_
      refine mvB rfl ?_
      refine mvB rfl ?_
      apply r_guard (s := 23) rfl rfl rfl
      · intro hg; apply opT_of; (refine r_field_pp rfl rfl rfl rfl rfl (by decide) ?_); refine r_nil ?_; exact rfl
      · exact rfl
      · exact rfl
      apply r_guard (s := 23) rfl rfl rfl
      · intro hg; apply opT_strip (s := 24) rfl (by (rw [hg]; rfl)); apply opT_of; (refine r_load_pp rfl rfl rfl rfl ?_); refine r_nil ?_; exact rfl
      · exact rfl
      · exact rfl
      apply r_guard (s := 23) rfl rfl rfl
      · intro hg; apply opT_of; (refine mvI rfl ?_); refine r_nil ?_; exact rfl
      · exact rfl
      · exact rfl
      apply r_guard (s := 23) rfl rfl rfl
      · intro hg; apply opT_strip (s := 25) rfl (by (rw [hg]; rfl)); apply opT_strip (s := 26) rfl (by (rw [hg]; rfl)); apply opT_of; (refine r_index_sl rfl rfl rfl rfl rfl rfl (by omega) (by omega) ?_); refine r_nil ?_; exact rfl
      · exact rfl
      · exact rfl
      apply r_guard (s := 23) rfl rfl rfl
      · intro hg; apply opT_strip (s := 27) rfl (by (rw [hg]; rfl)); apply opT_of; (refine r_field_pp rfl rfl rfl rfl rfl (by decide) ?_); refine r_nil ?_; exact rfl
      · exact rfl
      · exact rfl
      apply r_guard (s := 23) rfl rfl rfl
      · intro hg; apply opT_strip (s := 28) rfl (by (rw [hg]; rfl)); apply opT_of; (refine r_load_pp rfl rfl rfl rfl ?_); refine r_nil ?_; exact rfl
      · exact rfl
      · exact rfl
      apply r_guard (s := 23) rfl rfl rfl
      · intro hg; apply opT_strip (s := 29) rfl (by (rw [hg]; rfl)); apply opT_of; (refine r_bin rfl rfl rfl ?_); refine r_nil ?_; exact rfl
      · exact rfl
      · exact rfl
      apply r_guard (s := 23) rfl rfl rfl
      · intro hg; apply opT_strip (s := 30) rfl (by (rw [hg]; rfl)); apply opT_of; (refine mvB rfl ?_); refine r_nil ?_; exact rfl
      · exact rfl
      · exact rfl
      apply r_guardG (s := 31) rfl rfl rfl
      · intro hg1 hg2; apply opT_of; (refine r_field_pp rfl rfl rfl rfl rfl (by decide) ?_); refine r_nil ?_; exact rfl
      · exact rfl
      · exact rfl
      apply r_guardG (s := 31) rfl rfl rfl
      · intro hg1 hg2; apply opT_strip (s := 32) rfl (by (rw [hg1, hg2]; rfl)); apply opT_of; (refine r_load_pp rfl rfl rfl rfl ?_); refine r_nil ?_; exact rfl
      · exact rfl
      · exact rfl
      apply r_guardG (s := 31) rfl rfl rfl
      · intro hg1 hg2; apply opT_of; (refine mvI rfl ?_); refine r_nil ?_; exact rfl
      · exact rfl
      · exact rfl
      apply r_guardG (s := 31) rfl rfl rfl
      · intro hg1 hg2; apply opT_strip (s := 33) rfl (by (rw [hg1, hg2]; rfl)); apply opT_strip (s := 34) rfl (by (rw [hg1, hg2]; rfl)); apply opT_of; (refine r_index_sl rfl rfl rfl rfl rfl rfl (by omega) (by omega) ?_); refine r_nil ?_; exact rfl
      · exact rfl
      · exact rfl
      apply r_guardG (s := 31) rfl rfl rfl
      · intro hg1 hg2; apply opT_strip (s := 35) rfl (by (rw [hg1, hg2]; rfl)); apply opT_of; (refine r_field_pp rfl rfl rfl rfl rfl (by decide) ?_); refine r_nil ?_; exact rfl
      · exact rfl
      · exact rfl
      apply r_guardG (s := 31) rfl rfl rfl
      · intro hg1 hg2; apply opT_strip (s := 36) rfl (by (rw [hg1, hg2]; rfl)); apply opT_of; (refine r_load_pp rfl rfl rfl rfl ?_); refine r_nil ?_; exact rfl
      · exact rfl
      · exact rfl
      apply r_guardG (s := 31) rfl rfl rfl
      · intro hg1 hg2; apply opT_of; (refine mvI rfl ?_); refine r_nil ?_; exact rfl
      · exact rfl
      · exact rfl
      apply r_guardG (s := 31) rfl rfl rfl
      · intro hg1 hg2; apply opT_strip (s := 37) rfl (by (rw [hg1, hg2]; rfl)); apply opT_strip (s := 38) rfl (by (rw [hg1, hg2]; rfl)); apply opT_of; (refine r_bin rfl rfl rfl ?_); refine r_nil ?_; exact rfl
      · exact rfl
      · exact rfl
      apply r_guard (s := 23) rfl rfl rfl
      · intro hg; apply opT_strip (s := 31) rfl (by (rw [hg]; rfl)); apply opT_stripG (s := 39) rfl (by (rw [hg]; rfl)); apply opT_of; (refine r_or rfl rfl ?_); refine r_nil ?_; exact rfl
      · exact rfl
      · exact rfl
      refine r_and rfl rfl ?_
      refine asB rfl ?_
      refine r_nil ?_
      refine i_block ?_
      refine i_then ?_
      refine t_region ?_
      refine r_add rfl rfl (by omega) (by omega) ?_
      refine mvI rfl ?_
      refine r_nil ?_
      refine i_round (⟨k.1 + 1, by omega⟩) ?_ (by show (lawV b plan).1.length - (k.1 + 1) < (lawV b plan).1.length - k.1; omega)
      (refine Ent.mk' ?_ ?_ <;> (repeat' (first | exact allSub_zero | exact allTags_nil | refine allSub_succ' ?_ (Ty.sub_any _) | refine allSub_succ' ?_ (Ty.sub_refl _) | refine allSub_succ' ?_ ?_)))
      all_goals skip
      all_goals exact Ty.sub_bool (isUp_succ b plan k.1).symm
    ·
      refine t_exit ?_
      refine i_then_exit ?_
      refine i_then_exit ?_
      refine i_block_exit rfl ?_
      refine i_then ?_
      refine t_seq ?_
      refine t_region ?_
      refine mvB rfl ?_
      refine asB rfl ?_
      refine r_nil ?_
      refine i_then ?_
      refine t_ret ?_
      refine i_rp1 rfl rfl ?_
      all_goals skip
      all_goals exact ret_eq rfl rfl (congrArg Ty.bool (show isUp b plan k.1 = rightV b plan by rw [show k.1 = (lawV b plan).1.length by have := k.2; omega]; rfl))
theorem c_ldoneP (b : Barn) (hs : b.Small) (plan : List Tur) (hp : plan.length ≤ 400000000) : Ctr Try.prog 56 [barnT b, Ty.sl TurE plan] (Ty.tup [Ty.any, Ty.bool (lawV b plan).2]) :=
  (c_ldone b hs plan hp).mono Ty.tup_any2
set_option maxRecDepth 100000 in
theorem c_walk (b : Barn) (hs : b.Small) (s : Sk) (most : Int) (hm : 0 ≤ most ∧ most ≤ 900) (h : s.Ok 2000) : CtrG Try.prog 53 [1000] [(1000, Cont.cells 141 (skTys s))] [Ty.ptr 1000 0, barnT b, Ty.int .i64 most] [(1000, Cont.cells 141 (skTys (walkE b s most)))] (Ty.sl TurE (walkP b s most)) := by
  refine fnG_intro Try.func53 rfl (by decide) Try.ntmps53 (by exact Nat.le_of_ble_eq_true rfl) fun w0 M0 => ?_
  have h0 : 0 ≤ s.taken ∧ s.taken + 2000 ≤ 4611686018427387904 := h
  have hs1 := skNext_taken s
  have hn := walkN_le s hm.1
  have hne := walkN_eq s (most := most)
  have hws := fun k => walkS_ok b (skNext s) k
  refine t_seq ?_
  refine t_region ?_
  refine r_box_agg rfl ?_
  refine asX rfl ?_
  refine r_nil ?_
  refine i_then ?_
  refine t_seq ?_
  refine t_region ?_
  refine asX rfl ?_
  refine r_nil ?_
  refine i_then ?_
  refine t_seq ?_
  refine t_seq ?_
  refine t_region ?_
  refine mvO rfl ?_
  refine mvI rfl ?_
  refine r_add rfl rfl (by omega) (by omega) ?_
  refine r_callG [(1000, 1000)] [] [(1000, Cont.cells 141 (skTys (skNext s)))] (c_Below s ⟨by omega, by omega⟩ _) rfl rfl (by repeat (first | exact cv_nil | refine cv_cons ?_ ?_ | exact cv_ptr List.mem_cons_self | exact cv_pub rfl rfl)) (pre_cons (a := 1000) (b := 1000) (by exact List.mem_cons_self) rfl (cc_cells_eq (by exact List.mem_cons_self) rfl rfl rfl) pre_nil) (post_cons (a := 1000) (b := 1000) (by exact List.mem_cons_self) rfl (cc_cells_eq (by exact List.mem_cons_self) rfl rfl rfl) post_nil) (cv_pub rfl rfl) ?_
  refine mvI rfl ?_
  refine r_nil ?_
  refine i_then ?_
  refine t_block ?_
  refine t_loop (fun (k : {k : Nat // k ≤ walkN s most}) => live [(0, Ty.ptr 1000 0), (4, Ty.pp (barnTys b)), (7, Ty.row TurE 55 43 (walkS b (skNext s) k.1).1), (14, Ty.int .i64 (walkN s most : Nat)), (15, Ty.int .i64 (k.1 : Nat))] [(1000, Cont.cells 141 (skTys (walkS b (skNext s) k.1).2))]) (fun k => walkN s most - k.1) (⟨0, by omega⟩) ?_ fun k => ?_
  · (refine Ent.mk' ?_ ?_ <;> (repeat' (first | exact allSub_zero | exact allTags_nil | refine allSub_succ' ?_ (Ty.sub_any _) | refine allSub_succ' ?_ (Ty.sub_refl _) | refine allSub_succ' ?_ Ty.nil_row | refine allTags_cons rfl (Cont.sub_refl _) ?_ | refine allSub_succ' ?_ ?_)))
    all_goals exact Ty.sub_int hne.symm
  ·
    have hk := k.2
    have hw1 := (hws k.1).1
    have hw2 := (hws k.1).2.1
    have hw3 : (skNext (walkS b (skNext s) k.1).2).Ok 1 := ⟨by rw [skNext_taken]; omega, by rw [skNext_taken]; omega⟩
    refine t_seq ?_
    refine t_region ?_
    refine r_bin rfl rfl rfl ?_
    refine r_nil ?_
    refine i_then ?_
    refine t_seq ?_
    refine t_cond_dec rfl (fun hc1 => ?_) (fun hc1 => ?_)
    ·
      refine t_skip ?_
      refine i_then ?_
      refine t_seq ?_
      refine t_block ?_
      refine t_seq ?_
      refine t_draw mixed rfl ?_
      refine mvO rfl ?_
      refine r_field_pp rfl rfl rfl rfl rfl (by decide) ?_
      refine r_load_pp rfl rfl rfl rfl ?_
      refine r_len rfl rfl rfl ?_
      refine r_callG [(1000, 1000)] [] [(1000, Cont.cells 141 (skTys (skNext (walkS b (skNext s) k.1).2)))] (c_Below (walkS b (skNext s) k.1).2 ⟨by omega, by omega⟩ _) rfl rfl (by repeat (first | exact cv_nil | refine cv_cons ?_ ?_ | exact cv_ptr List.mem_cons_self | exact cv_pub rfl rfl)) (pre_cons (a := 1000) (b := 1000) (by exact List.mem_cons_self) rfl (cc_cells_eq (by exact List.mem_cons_self) rfl rfl rfl) pre_nil) (post_cons (a := 1000) (b := 1000) (by exact List.mem_cons_self) rfl (cc_cells_eq (by exact List.mem_cons_self) rfl rfl rfl) post_nil) (cv_pub rfl rfl) ?_
      refine mvO rfl ?_
      refine r_field_pp rfl rfl rfl rfl rfl (by decide) ?_
      refine r_load_pp rfl rfl rfl rfl ?_
      refine r_len rfl rfl rfl ?_
      refine r_callG [(1000, 1000)] [] [(1000, Cont.cells 141 (skTys (skNext (skNext (walkS b (skNext s) k.1).2))))] (c_Below (skNext (walkS b (skNext s) k.1).2) hw3 _) rfl rfl (by repeat (first | exact cv_nil | refine cv_cons ?_ ?_ | exact cv_ptr List.mem_cons_self | exact cv_pub rfl rfl)) (pre_cons (a := 1000) (b := 1000) (by exact List.mem_cons_self) rfl (cc_cells_eq (by exact List.mem_cons_self) rfl rfl rfl) pre_nil) (post_cons (a := 1000) (b := 1000) (by exact List.mem_cons_self) rfl (cc_cells_eq (by exact List.mem_cons_self) rfl rfl rfl) post_nil) (cv_pub rfl rfl) ?_
      refine r_build rfl rfl (by exact List.cons_ne_nil _ _) rfl (by repeat (first | exact (Parts.nil : Parts _ _ [] _) | (show Parts _ _ ((_, _) :: _) _; apply Parts.one; (· exact (rfl : _ = Ty.int _ _)); (· exact rfl)))) (by exact (rfl : _ = some [_, _])) ?_
      refine r_alloc rfl (by exact List.cons_ne_nil _ _) rfl ?_
      refine r_storeN rfl rfl (by decide) rfl rfl rfl rfl rfl rfl ?_
      refine r_nil ?_
      refine ⟨by kernel_rfl, ?_⟩
      refine i_then ?_
      refine t_seq ?_
      refine t_draw mixed rfl ?_
      refine r_load_ppN rfl rfl rfl (by exact Nat.le_of_ble_eq_true rfl) ?_
      refine mvR rfl ?_
      refine r_callGL [43] 32 (k_Clone_tur (walkS b (skNext s) k.1).1 (by omega)) rfl (by repeat (first | exact lends_nil | refine lends_cons (lend_row rfl) ?_)) plain_TurE (by decide) (by decide) rfl ?_
      refine r_load_ptrN rfl rfl (by decide) rfl rfl (by exact Nat.le_of_ble_eq_true rfl) ?_
      refine r_buildSlice (E := TurE) (xs := [tryT b (walkS b (skNext s) k.1).2]) rfl rfl rfl rfl rfl (by decide) (by decide) (by repeat (first | exact (Parts.nil : Parts _ _ [] _) | (show Parts _ _ ((_, _) :: _) _; apply Parts.agg; (· exact (rfl : _ = Ty.agg _))))) (by exact rfl) rfl ?_
      refine r_append rfl rfl (by decide) rfl rfl rfl rfl rfl rfl (by decide) (by (simp <;> omega)) (by (simp <;> omega)) ?_
      refine r_callL [32] (c_ldoneP b hs ((walkS b (skNext s) k.1).1 ++ [tryT b (walkS b (skNext s) k.1).2]) (by rw [List.length_append, List.length_singleton]; omega)) rfl (by repeat (first | exact lends_nil | refine lends_cons (lend_pub rfl rfl) ?_ | refine lends_cons (lend_row rfl) ?_)) (plain_tup (plain_cons plain_any (plain_cons (plain_bool _) plain_nil))) ?_
      refine mvT rfl ?_
      refine r_extract rfl rfl ?_
      refine r_extract rfl rfl ?_
      refine r_assign (ty := Ty.any) rfl ?_
      refine asB rfl ?_
      refine r_nil ?_
      refine ⟨by kernel_rfl, ?_⟩
      refine i_then ?_
      refine t_seq ?_
      refine t_forget (B := live [(0, Ty.ptr 1000 0), (4, Ty.pp (barnTys b)), (7, Ty.row TurE 55 43 (walkS b (skNext s) k.1).1), (8, Ty.ptr 9 0), (10, Ty.bool (lawV b ((walkS b (skNext s) k.1).1 ++ [tryT b (walkS b (skNext s) k.1).2])).2), (14, Ty.int .i64 (walkN s most : Nat)), (15, Ty.int .i64 (k.1 : Nat))] [(9, Cont.cells 55 (TurE.tys (tryT b (walkS b (skNext s) k.1).2))), (1000, Cont.cells 141 (skTys (walkS b (skNext s) (k.1 + 1)).2))]) ?_ ?_
      · (refine Ent.mk' ?_ ?_ <;> (repeat' (first | exact allSub_zero | exact allTags_nil | refine allSub_succ' ?_ (Ty.sub_any _) | refine allSub_succ' ?_ (Ty.sub_refl _) | refine allTags_cons rfl (Cont.sub_refl _) ?_)))
      refine t_region ?_
      refine mvB rfl ?_
      refine r_nil ?_
      refine i_then ?_
      refine t_cond rfl (fun hc2 => ?_) (fun hc2 => ?_)
      ·
        refine t_region ?_
        refine mvR rfl ?_
        refine r_load_ptrN rfl rfl (by decide) rfl rfl (by exact Nat.le_of_ble_eq_true rfl) ?_
        refine r_buildSlice (E := TurE) (xs := [tryT b (walkS b (skNext s) k.1).2]) rfl rfl rfl rfl rfl (by decide) (by decide) (by repeat (first | exact (Parts.nil : Parts _ _ [] _) | (show Parts _ _ ((_, _) :: _) _; apply Parts.agg; (· exact (rfl : _ = Ty.agg _))))) (by exact rfl) rfl ?_
        refine r_append rfl rfl (by decide) rfl rfl rfl rfl rfl rfl (by decide) (by (simp <;> omega)) (by (simp <;> omega)) ?_
        refine asR rfl ?_
        refine r_nil ?_
        refine i_block ?_
        refine i_then ?_
        refine t_region ?_
        refine r_add rfl rfl (by omega) (by omega) ?_
        refine mvI rfl ?_
        refine r_nil ?_
        refine i_round (⟨k.1 + 1, by omega⟩) ?_ (by show walkN s most - (k.1 + 1) < walkN s most - k.1; omega)
        (refine Ent.mk' ?_ ?_ <;> (repeat' (first | exact allSub_zero | exact allTags_nil | refine allSub_succ' ?_ (Ty.sub_any _) | refine allSub_succ' ?_ (Ty.sub_refl _) | refine allTags_cons rfl (Cont.sub_refl _) ?_ | refine allSub_succ' ?_ ?_)))
        all_goals skip
        all_goals exact Ty.sub_row (walk_yes hc2)
      ·
        refine t_skip ?_
        refine i_block ?_
        refine i_then ?_
        refine t_region ?_
        refine r_add rfl rfl (by omega) (by omega) ?_
        refine mvI rfl ?_
        refine r_nil ?_
        refine i_round (⟨k.1 + 1, by omega⟩) ?_ (by show walkN s most - (k.1 + 1) < walkN s most - k.1; omega)
        (refine Ent.mk' ?_ ?_ <;> (repeat' (first | exact allSub_zero | exact allTags_nil | refine allSub_succ' ?_ (Ty.sub_any _) | refine allSub_succ' ?_ (Ty.sub_refl _) | refine allTags_cons rfl (Cont.sub_refl _) ?_ | refine allSub_succ' ?_ ?_)))
        all_goals skip
        all_goals exact Ty.sub_row (walk_no hc2)
    ·
      refine t_exit ?_
      refine i_then_exit ?_
      refine i_then_exit ?_
      refine i_block_exit rfl ?_
      refine i_then ?_
      refine t_seq ?_
      obtain ⟨k, hk⟩ := k
      obtain rfl : k = walkN s most := by have h1 : ¬ (k : Int) < (walkN s most : Int) := hc1; have h2 : k ≤ walkN s most := hk; omega
      refine t_region ?_
      refine mvR rfl ?_
      refine asR rfl ?_
      refine r_nil ?_
      refine i_then ?_
      refine t_ret ?_
      refine g_ret1 [1000] rfl rfl (by decide) (by repeat (first | exact rc_nil | refine rc_cons rfl (cc_cells_eq (by decide) rfl rfl rfl) ?_)) ?_
      all_goals exact rg_row (by decide) rfl rfl
      all_goals trace_state
end Go.Proofs.Ytpnndljmhpepgaa

namespace Go.Proofs.Ytpnndljmhpepgaa
open Go Go.T
def apartP (b : Barn) (p : Pl) : Prop := ∀ i k, i < b.lots.length → k < b.lots.length → nth p.1 i = nth p.1 k → i = k
theorem apart_moved {b : Barn} (h6 : b.lots.length ≤ 6) {p : Pl} {t : Tur} (h : apartP b p) (ht : t ∈ turnsL b p) : apartP b (moved p t) := fun i k hi hk e => by
  rw [moved_nth (by omega), moved_nth (by omega)] at e
  have h1 := mem_turnsL.1 ht
  have hn : ∀ j, j < b.lots.length → nth p.1 j ≠ t.aim := fun j hj e => by
    have := (taken_iff h6).2 ⟨j, hj, e⟩
    rw [h1.2.2.2.2.1] at this; cases this
  by_cases e1 : t.lot.toNat = i
  · by_cases e2 : t.lot.toNat = k
    · omega
    · rw [if_pos e1, if_neg e2] at e; exact absurd e.symm (hn k hk)
  · by_cases e2 : t.lot.toNat = k
    · rw [if_neg e1, if_pos e2] at e; exact absurd e (hn i hi)
    · rw [if_neg e1, if_neg e2] at e; exact h i k hi hk e
theorem goP_cons {b : Barn} {p q : Pl} {t : Tur} {l : List Tur} (h : goP b p (t :: l) = some q) : t ∈ turnsL b p ∧ goP b (moved p t) l = some q := by
  have h : (if t ∈ turnsL b p then goP b (moved p t) l else none) = some q := h
  by_cases hu : t ∈ turnsL b p
  · rw [if_pos hu] at h; exact ⟨hu, h⟩
  · rw [if_neg hu] at h; cases h
theorem apart_go {b : Barn} (h6 : b.lots.length ≤ 6) : ∀ (l : List Tur) {p q : Pl}, apartP b p → goP b p l = some q → apartP b q
  | [], p, q, h, e => by injection e with e; rw [← e]; exact h
  | t :: l, p, q, h, e => by
    obtain ⟨h1, h2⟩ := goP_cons e
    exact apart_go h6 l (apart_moved h6 h h1) h2
theorem first_nth {b : Barn} (h6 : b.lots.length ≤ 6) {i : Nat} (hi : i < b.lots.length) : nth (firstP b).1 i = (nth b.lots i).inn := by
  rw [← nth_take (n := b.lots.length) hi, first_inn h6]
  unfold innL
  rw [nth_lt (by rw [List.length_map]; exact hi), nth_lt hi, List.getElem_map]
theorem apart_first {b : Barn} (hr : b.Right) : apartP b (firstP b) := fun i k hi hk e => by
  rw [first_nth hr.lots hi, first_nth hr.lots hk] at e
  rcases Nat.lt_trichotomy i k with h | h | h
  · exact absurd e.symm (hr.apart k i h hk).1
  · exact h
  · exact absurd e (hr.apart i k h hi).1
theorem go_stay {b : Barn} {i : Nat} (hi : i < 6) : ∀ (l : List Tur) {p q : Pl}, goP b p l = some q → (∀ t ∈ l, t.lot ≠ i) → nth q.1 i = nth p.1 i
  | [], p, q, e, _ => by injection e with e; rw [e]
  | t :: l, p, q, e, h => by
    obtain ⟨h1, h2⟩ := goP_cons e
    have h3 := mem_turnsL.1 h1
    have h4 := h t List.mem_cons_self
    rw [go_stay hi l h2 fun u hu => h u (List.mem_cons_of_mem _ hu), moved_nth hi, if_neg (by omega)]
theorem made_at {b : Barn} {q : Pl} (h : madeP b q = true) {i : Nat} (hi : i < b.lots.length) : (nth b.lots i).aim = -1 ∨ (nth b.lots i).aim = nth q.1 i := by
  unfold madeP at h
  have := List.all_eq_true.1 h i (List.mem_range.2 hi)
  simpa using this
theorem must_turned {b : Barn} (hr : b.Right) {l : List Tur} {q : Pl} (hg : goP b (firstP b) l = some q) (hm : madeP b q = true) {i : Nat} (hi : i < b.lots.length) (h : mustI b i = true) : ∃ t ∈ l, t.lot = i := by
  apply Classical.byContradiction
  intro hno
  have h6 := hr.lots
  have hs := go_stay (by omega) l hg fun t ht e => hno ⟨t, ht, e⟩
  rw [first_nth h6 hi] at hs
  have ha := apart_go h6 l (apart_first hr) hg
  have hin := hr.inn _ (nth_mem hi)
  have hmi := made_at hm hi
  unfold mustI at h
  simp only [Bool.or_eq_true, Bool.and_eq_true, Bool.not_eq_true', decide_eq_false_iff_not, decide_eq_true_eq] at h
  rcases h with ⟨h1, h2⟩ | ⟨h1, h2⟩
  · rcases hmi with e | e
    · exact h1 e
    · exact h2 (e.trans hs)
  · unfold Barn.wanted at h2
    obtain ⟨x, hx, e⟩ := List.any_eq_true.1 h2
    obtain ⟨k, hk, rfl⟩ := mem_nth hx
    have e := of_decide_eq_true e
    rcases made_at hm hk with e' | e'
    · omega
    · have := ha i k hi hk (by rw [hs, ← e, e'])
      subst this; omega
theorem sum_nonneg' : ∀ (l : List Int), (∀ x ∈ l, 0 ≤ x) → 0 ≤ l.sum
  | [], _ => Int.le_refl _
  | x :: l, h => by
    rw [List.sum_cons]
    have h1 := h x List.mem_cons_self
    have h2 := sum_nonneg' l fun y hy => h y (List.mem_cons_of_mem _ hy)
    omega
theorem sum_turned (f : Int → Int) : ∀ (ms : List Int) (l : List Tur), ms.Nodup → (∀ t ∈ l, 0 ≤ f t.lot) → (∀ m ∈ ms, ∃ t ∈ l, t.lot = m) → (ms.map f).sum ≤ (l.map fun t => f t.lot).sum
  | [], l, _, h0, _ => sum_nonneg' _ fun x hx => by obtain ⟨t, ht, rfl⟩ := List.mem_map.1 hx; exact h0 t ht
  | m :: ms, l, hn, h0, h => by
    obtain ⟨t, ht, e⟩ := h m List.mem_cons_self
    obtain ⟨s, r, rfl⟩ := List.append_of_mem ht
    have hn := List.nodup_cons.1 hn
    have h1 := sum_turned f ms (s ++ r) hn.2 (fun u hu => h0 u (by
      rcases List.mem_append.1 hu with hu | hu
      · exact List.mem_append.2 (.inl hu)
      · exact List.mem_append.2 (.inr (List.mem_cons_of_mem _ hu)))) fun k hk => by
      obtain ⟨u, hu, e'⟩ := h k (List.mem_cons_of_mem _ hk)
      rcases List.mem_append.1 hu with hu | hu
      · exact ⟨u, List.mem_append.2 (.inl hu), e'⟩
      · rcases List.mem_cons.1 hu with rfl | hu
        · have : k = m := by rw [← e', e]
          exact absurd (this ▸ hk) hn.1
        · exact ⟨u, List.mem_append.2 (.inr hu), e'⟩
    simp only [List.map_append, List.map_cons, List.sum_append, List.sum_cons] at h1 ⊢
    rw [e]; omega
theorem filtUp_nodup (p : Nat → Bool) (n : Nat) : (filtUp p n).Nodup := by
  unfold filtUp
  rw [List.nodup_iff_pairwise_ne, List.pairwise_map]
  have h : ((List.range n).filter p).Pairwise fun a c => a ≠ c := List.Pairwise.filter _ (List.nodup_iff_pairwise_ne.1 List.nodup_range)
  exact h.imp fun hne e => hne (by omega)
theorem must_light {b : Barn} (hr : b.Right) {l : List Tur} {q : Pl} (hg : goP b (firstP b) l = some q) (hm : madeP b q = true) (f : Int → Int) (hf : ∀ t ∈ l, 0 ≤ f t.lot) : ((mustL b).map f).sum ≤ (l.map fun t => f t.lot).sum :=
  sum_turned f _ _ (filtUp_nodup _ _) hf fun m hm' => by
    obtain ⟨k, hk, h1, rfl⟩ := filtUp_mem.1 hm'
    exact must_turned hr hg hm hk h1
structure Cheap (b : Barn) (c : Tur → Int) (e : Int) (l : List Tur) (n : Int) : Prop where
  err : e = 0 ∨ e = 7
  yes : e = 0 → rightV b l = true ∧ costL c l = n ∧ ∀ x, rightV b x = true → n ≤ costL c x
  no : e = 7 → l = [] ∧ n = 0 ∧ ∀ x, rightV b x = false
theorem cheap {b : Barn} {c : Tur → Int} (hr : b.Right) (hc : CostOk b c) : Cheap b c (planE b c) (planR b c) (costR b c) := by
  have h0 := right_check hr
  have hp := plan_spec hr hc
  have h6 := hr.lots
  unfold planE planR costR
  rw [if_pos h0, if_pos h0, if_pos h0]
  cases hi : (searchM b c false).is with
  | true =>
    rw [if_pos rfl]
    refine ⟨.inl rfl, fun _ => ?_, fun e => by cases e⟩
    obtain ⟨q, h1, h2, h3, h4⟩ := hp.yes hi
    refine ⟨(right_iff h6).2 ⟨q, h1, h2⟩, h3, fun x hx => ?_⟩
    obtain ⟨q', g1, g2⟩ := (right_iff h6).1 hx
    exact h4 x q' g1 g2
  | false =>
    rw [if_neg (by decide)]
    refine ⟨.inr rfl, (fun e => by cases e), fun _ => ⟨if_neg (by rw [hi]; decide), if_neg (by rw [hi]; decide), fun x => ?_⟩⟩
    rw [Bool.eq_false_iff]; intro hx
    obtain ⟨q', g1, g2⟩ := (right_iff h6).1 hx
    have := hp.no hi x q' g1
    rw [g2] at this; cases this
theorem cheap_same {b : Barn} {c c' : Tur → Int} {e e' : Int} {l l' : List Tur} {n n' : Int} (h : Cheap b c e l n) (h' : Cheap b c' e' l' n') : e = e' := by
  rcases h.err with rfl | rfl
  · rcases h'.err with rfl | rfl
    · rfl
    · have := (h.yes rfl).1; rw [(h'.no rfl).2.2] at this; cases this
  · rcases h'.err with rfl | rfl
    · have := (h'.yes rfl).1; rw [(h.no rfl).2.2] at this; cases this
    · rfl
theorem cost_one (l : List Tur) : costL oneC l = l.length := by
  unfold costL oneC
  induction l with
  | nil => rfl
  | cons t l ih => rw [List.map_cons, List.sum_cons, ih, List.length_cons]; omega
theorem right_rng {b : Barn} (h6 : b.lots.length ≤ 6) {l : List Tur} (h : (lawV b l).2 = true) : ∀ t ∈ l, (0 ≤ t.lot ∧ t.lot < b.lots.length) ∧ 0 ≤ t.aim ∧ t.aim < b.sizes.length := by
  obtain ⟨q, hq⟩ := (lawV_iff h6).1 h
  exact go_rng l hq
theorem rightV_ok {b : Barn} {l : List Tur} (h : rightV b l = true) : (lawV b l).2 = true := by
  unfold rightV isUp at h
  rw [Bool.and_eq_true] at h; exact h.1
def leastUp (b : Barn) (l : List Int) (k : Nat) : Int := ((l.take k).map fun (i : Int) => (nth b.lots i.toNat).sacks).sum
theorem leastUp_succ {b : Barn} {l : List Int} {k : Nat} (hk : k < l.length) : leastUp b l (k + 1) = leastUp b l k + (nth b.lots (nth l k).toNat).sacks := by
  unfold leastUp; rw [take_nth hk, List.map_append, List.sum_append]; simp
theorem sumUp_all (b : Barn) (l : List Tur) : sumUp b l l.length = costL (sackC b) l := by unfold sumUp; rw [List.take_length]
theorem sack_bound {b : Barn} (hr : b.Right) {i : Int} (hi : 0 ≤ i ∧ i < b.lots.length) : 1 ≤ (nth b.lots i.toNat).sacks ∧ (nth b.lots i.toNat).sacks ≤ 300 := hr.sacks _ (nth_mem (by omega))
theorem sumUp_in {b : Barn} (hr : b.Right) {l : List Tur} (h : (lawV b l).2 = true) : ∀ k, k ≤ l.length → 0 ≤ sumUp b l k ∧ sumUp b l k ≤ 300 * k
  | 0, _ => by unfold sumUp; rw [List.take_zero]; exact ⟨Int.le_refl _, Int.le_refl _⟩
  | k + 1, hk => by
    have h1 := sumUp_in hr h k (by omega)
    have h2 := right_rng hr.lots h _ (nth_mem (xs := l) (k := k) (by omega))
    have h3 := sack_bound hr h2.1
    rw [sumUp_succ (by omega)]; omega
theorem leastUp_in {b : Barn} (hr : b.Right) {l : List Int} (h : ∀ i ∈ l, 0 ≤ i ∧ i < b.lots.length) : ∀ k, k ≤ l.length → 0 ≤ leastUp b l k ∧ leastUp b l k ≤ 300 * k
  | 0, _ => by unfold leastUp; rw [List.take_zero]; exact ⟨Int.le_refl _, Int.le_refl _⟩
  | k + 1, hk => by
    have h1 := leastUp_in hr h k (by omega)
    have h3 := sack_bound hr (h _ (nth_mem (xs := l) (k := k) (by omega)))
    rw [leastUp_succ (by omega)]; omega
theorem must_in (b : Barn) : ∀ i ∈ mustL b, 0 ≤ i ∧ i < b.lots.length := fun i hi => by
  obtain ⟨k, hk, _, rfl⟩ := filtUp_mem.1 hi; omega
theorem least_le {b : Barn} (hr : b.Right) {l : List Tur} (h : rightV b l = true) : leastUp b (mustL b) (mustL b).length ≤ costL (sackC b) l := by
  obtain ⟨q, h1, h2⟩ := (right_iff hr.lots).1 h
  unfold leastUp
  rw [List.take_length]
  exact must_light hr h1 h2 (fun i => (nth b.lots i.toNat).sacks) fun t ht => by
    have := sack_bound hr (go_rng l h1 t ht).1
    omega
end Go.Proofs.Ytpnndljmhpepgaa

namespace Go.Proofs.Ytpnndljmhpepgaa
open Go Go.T
set_option maxHeartbeats 4000000
theorem fill_ok8 (g : List Int) : (skFill g).Ok 1000 := by have h := skFill_ok g; unfold Sk.Ok at *; omega
theorem made8 (g : List Int) (bins lots : Int) (hb : 2 ≤ bins ∧ bins ≤ 7) (hl : 0 ≤ lots ∧ lots ≤ 6) : ∃ b s', b.Right ∧ (b.sizes.length : Int) ≤ bins ∧ (b.lots.length : Int) ≤ lots ∧ CtrG Try.prog 50 [1000] [(1000, Cont.cells 141 (skTys (skFill g)))] [Ty.ptr 1000 0, Ty.int .i64 bins, Ty.int .i64 lots, Ty.bool false] [(1000, Cont.cells 141 (skTys s'))] (barnT b) :=
  have hd : Md.Ok ⟨skFill g, bins, lots⟩ := ⟨hb, hl⟩
  ⟨_, _, Md.right hd, by have h := (Md.n_in hd).2.2.1; have e := (Md.sizes_ok ⟨skFill g, bins, lots⟩).1; exact Int.le_trans (Int.ofNat_le.2 (Nat.le_of_eq e)) h, by have h := (Md.many_in hd).2.1; have e := (Md.lt_len ⟨skFill g, bins, lots⟩ (Md.many ⟨skFill g, bins, lots⟩)).1; exact Int.le_trans (Int.ofNat_le.2 (Nat.le_of_eq e)) h, c_Made ⟨skFill g, bins, lots⟩ hd (fill_ok8 g)⟩
def walksE (b : Barn) (s : Sk) (most : Int) : Nat → Sk
  | 0 => s
  | k + 1 => walkE b (walksE b s most k) most
theorem walks_taken (b : Barn) (s : Sk) {most : Int} (hm : 0 ≤ most) : ∀ k : Nat, s.taken ≤ (walksE b s most k).taken ∧ (walksE b s most k).taken ≤ s.taken + k * (1 + 2 * most)
  | 0 => ⟨Int.le_refl _, by simp [walksE]⟩
  | k + 1 => by
    have h1 := walks_taken b s hm k
    have h2 := (walk_ok b (walksE b s most k) hm).taken
    have e : ((k + 1 : Nat) : Int) * (1 + 2 * most) = (k : Int) * (1 + 2 * most) + (1 + 2 * most) := by rw [Int.natCast_add, Int.add_mul]; simp
    show s.taken ≤ (walkE b (walksE b s most k) most).taken ∧ (walkE b (walksE b s most k) most).taken ≤ _
    omega
theorem walks_ok (b : Barn) (t : List Int) {k : Nat} (hk : k ≤ 10) : (walksE b (skFill t) 9 k).Ok 2000 := by
  have h1 := walks_taken b (skFill t) (most := 9) (by omega) k
  have h2 := skFill_ok t
  unfold Sk.Ok at *; omega
theorem sumUp_zero (b : Barn) (l : List Tur) : sumUp b l 0 = 0 := by unfold sumUp; rw [List.take_zero]; rfl
theorem leastUp_zero (b : Barn) (l : List Int) : leastUp b l 0 = 0 := by unfold leastUp; rw [List.take_zero]; rfl
theorem must_len (b : Barn) : (mustL b).length ≤ b.lots.length := filtUp_len _ _
theorem planR_len {b : Barn} {c : Tur → Int} (hr : b.Right) (hc : CostOk b c) : (planR b c).length ≤ 400000000 := by
  unfold planR planV
  rw [if_pos (right_check hr)]
  cases hi : (searchM b c false).is with
  | true => rw [if_pos rfl]; exact plan_len hr hc hi
  | false => rw [if_neg (by decide)]; simp
theorem lgt3 {b : Barn} {A B : List Tur} {n : Int} (h1 : rightV b A = true) (h2 : rightV b B = true) (h3 : costL oneC B = n) (h4 : ∀ x, rightV b x = true → n ≤ costL oneC x) : ((!rightV b A || !rightV b B) || decide ((A.length : Int) < B.length)) = false := by
  have h5 := h4 A h1
  rw [cost_one] at h3 h5
  rw [h1, h2, decide_eq_false (by omega)]; rfl
theorem lgt7 {b : Barn} {i : Nat} (hi : i < (mustL b).length) : (decide (nth (mustL b) i < 0) || decide (nth (mustL b) i ≥ (b.lots.length : Int))) = false := by
  have := must_in b _ (nth_mem hi)
  rw [decide_eq_false (by omega), decide_eq_false (by omega)]; rfl
theorem lgt8 {b : Barn} (hr : b.Right) {A B : List Tur} {n : Int} (h1 : rightV b A = true) (h2 : costL (sackC b) A = n) (h3 : ∀ x, rightV b x = true → n ≤ costL (sackC b) x) (h4 : rightV b B = true) : ((!decide (sumUp b A A.length = n) || decide (n > sumUp b B B.length)) || decide (n < leastUp b (mustL b) (mustL b).length)) = false := by
  have h5 := h3 B h4
  have h6 := least_le hr h1
  rw [sumUp_all, sumUp_all, decide_eq_true h2, decide_eq_false (by omega), decide_eq_false (by omega)]; rfl
theorem lgt11 {b : Barn} {x : List Tur} {n : Int} (h3 : ∀ x, rightV b x = true → n ≤ costL (sackC b) x) : (rightV b x && decide (sumUp b x x.length < n)) = false := by
  rw [sumUp_all]
  cases h : rightV b x with
  | false => rfl
  | true => have := h3 x h; rw [decide_eq_false (by omega)]; rfl
attribute [local irreducible] planR planE costR walkP walkE sumUp leastUp rightV mustL checkB
attribute [local irreducible] dInt dBool dSl dPp dPtr dAgg dTup dClo dAny dEx dStr dGd dCells dVec dVs dRow dOp nth Tri Into TOps Ctr bodyPost Exit.then Exit.inBlock Code.wp Code.wpIn dWhen dPa dPe dAo dArr dMp dPm dMap dCJ CtrG CtrI OpY keepPost iterPost bodyPostM roundQ
set_option maxRecDepth 100000 in
theorem c_TurnLight (g t : List Int) : Ctr Try.prog 6 [Ty.sl U8 g, Ty.sl U8 t] (Ty.bool true) := by
  refine fn_intro Try.func6 rfl (by decide) Try.ntmps6 (by exact Nat.le_of_ble_eq_true rfl) fun w0 M0 => ?_
  refine t_seq ?_
  refine t_region ?_
  refine asB rfl ?_
  refine r_nil ?_
  refine i_then ?_
  refine t_seq ?_
  obtain ⟨b, s1, hr, _, _, hM⟩ := made8 g 6 5 ⟨by decide, by decide⟩ ⟨by decide, by decide⟩
  have h0 := right_check hr
  have hs := small_right hr
  have h6 := hr.lots
  have hL := cheap hr (sack_ok hr)
  have hO := cheap hr (one_ok b)
  have he := cheap_same hL hO
  have hAl := planR_len hr (sack_ok hr)
  have hBl := planR_len hr (one_ok b)
  refine t_region ?_
  refine mvS rfl ?_
  refine r_callG [(29, 10)] [29] [(29, Cont.cells 141 (skTys (skFill g)))] (c_Fill g) rfl rfl (by repeat (first | exact cv_nil | refine cv_cons ?_ ?_ | exact cv_pub rfl rfl)) pre_nil (post_cons (a := 29) (b := 10) (by exact List.mem_cons_self) rfl (cc_cells_eq (by exact List.mem_cons_self) rfl rfl rfl) post_nil) (cv_ptr (by exact List.mem_cons_self)) ?_
  refine r_callG [(29, 1000)] [] [(29, Cont.cells 141 (skTys (s1)))] (hM) rfl rfl (by repeat (first | exact cv_nil | refine cv_cons ?_ ?_ | exact cv_ptr List.mem_cons_self | exact cv_pub rfl rfl)) (pre_cons (a := 29) (b := 1000) (by exact List.mem_cons_self) rfl (cc_cells_eq (by exact List.mem_cons_self) rfl rfl rfl) pre_nil) (post_cons (a := 29) (b := 1000) (by exact List.mem_cons_self) rfl (cc_cells_eq (by exact List.mem_cons_self) rfl rfl rfl) post_nil) (cv_pub rfl rfl) ?_
  refine mvS rfl ?_
  refine r_callG [(32, 10)] [32] [(32, Cont.cells 141 (skTys (skFill t)))] (c_Fill t) rfl rfl (by repeat (first | exact cv_nil | refine cv_cons ?_ ?_ | exact cv_pub rfl rfl)) pre_nil (post_cons (a := 32) (b := 10) (by exact List.mem_cons_self) rfl (cc_cells_eq (by exact List.mem_cons_self) rfl rfl rfl) post_nil) (cv_ptr (by exact List.mem_cons_self)) ?_
  refine r_alloc rfl (by exact List.cons_ne_nil _ _) rfl ?_
  refine r_storeN rfl rfl (by decide) rfl rfl rfl rfl rfl rfl ?_
  refine asO rfl ?_
  refine r_nil ?_
  refine i_then ?_
  refine t_seq ?_
  refine t_region ?_
  refine r_load_ptrN rfl rfl (by decide) rfl rfl (by exact Nat.le_of_ble_eq_true rfl) ?_
  refine r_call (c_Lightest b hs) rfl rfl rfl rfl rfl ?_
  refine mvT rfl ?_
  refine r_extract rfl rfl ?_
  refine r_extract rfl rfl ?_
  refine r_extract rfl rfl ?_
  refine asS rfl ?_
  refine asI rfl ?_
  refine asI rfl ?_
  refine r_nil ?_
  refine i_then ?_
  refine t_seq ?_
  refine t_region ?_
  refine r_load_ptrN rfl rfl (by decide) rfl rfl (by exact Nat.le_of_ble_eq_true rfl) ?_
  refine r_call (c_Plan b hs) rfl rfl rfl rfl rfl ?_
  refine mvT rfl ?_
  refine r_extract rfl rfl ?_
  refine r_extract rfl rfl ?_
  refine asS rfl ?_
  refine asI rfl ?_
  refine r_nil ?_
  refine i_then ?_
  refine t_seq ?_
  refine t_region ?_
  refine r_load_ptrN rfl rfl (by decide) rfl rfl (by exact Nat.le_of_ble_eq_true rfl) ?_
  refine r_call (c_Must b hs) rfl rfl rfl rfl rfl ?_
  refine mvT rfl ?_
  refine r_extract rfl rfl ?_
  refine r_extract rfl rfl ?_
  refine asS rfl ?_
  refine asI rfl ?_
  refine r_nil ?_
  refine i_then ?_
  refine t_seq ?_
  refine t_seq ?_
  refine t_as (s := 11) rfl (Ty.sub_int he.symm) ?_
  refine t_as (s := 12) rfl (Ty.sub_sl (if_pos h0)) ?_
  refine t_as (s := 13) rfl (Ty.sub_int h0) ?_
  refine t_region ?_
  refine mvI rfl ?_
  refine mvI rfl ?_
  refine r_bin rfl rfl rfl ?_
  refine mvB rfl ?_
  apply r_guard (s := 51) rfl rfl rfl
  · intro hg; apply opT_of; (refine mvI rfl ?_); refine r_nil ?_; exact rfl
  · exact rfl
  · exact rfl
  apply r_guard (s := 51) rfl rfl rfl
  · intro hg; apply opT_strip (s := 52) rfl (by (rw [hg]; rfl)); apply opT_of; (refine r_bin rfl rfl rfl ?_); refine r_nil ?_; exact rfl
  · exact rfl
  · exact rfl
  refine r_or rfl rfl ?_
  refine r_nil ?_
  refine i_then ?_
  refine t_cond_ff rfl (by simp) ?_
  refine t_skip ?_
  refine i_then ?_
  refine t_seq ?_
  refine t_seq ?_
  refine t_region ?_
  refine mvI rfl ?_
  refine r_bin rfl rfl rfl ?_
  refine r_nil ?_
  refine i_then ?_
  refine t_cond_ndec rfl (fun hc2 => ?_) (fun hc2 => ?_)
  ·
    refine t_seq ?_
    have h7 := hL.err.resolve_left hc2
    refine t_region ?_
    refine mvI rfl ?_
    refine r_bin rfl rfl rfl ?_
    refine mvB rfl ?_
    apply r_guard (s := 59) rfl rfl rfl
    · intro hg; apply opT_of; (refine r_call (c_awake) rfl rfl rfl rfl rfl ?_); refine r_nil ?_; exact rfl
    · exact rfl
    · exact rfl
    refine r_and rfl rfl ?_
    refine asB rfl ?_
    refine r_nil ?_
    refine i_then ?_
    refine t_ret ?_
    refine i_then_ret ?_
    refine i_rp1 rfl rfl ?_
    all_goals skip
    all_goals exact ret_eq rfl rfl (congrArg Ty.bool (by rw [h7]; rfl))
  ·
    refine t_skip ?_
    refine i_then ?_
    refine t_seq ?_
    obtain ⟨hy1, hy2, hy3⟩ := hL.yes hc2
    obtain ⟨ho1, ho2, ho3⟩ := hO.yes (he.symm.trans hc2)
    have hAi := fun k (hk : k < (planR b (sackC b)).length) => (right_rng h6 (rightV_ok hy1) _ (nth_mem hk)).1
    have hBi := fun k (hk : k < (planR b oneC).length) => (right_rng h6 (rightV_ok ho1) _ (nth_mem hk)).1
    refine t_region ?_
    refine asI rfl ?_
    refine asI rfl ?_
    refine asI rfl ?_
    refine r_nil ?_
    refine i_then ?_
    refine t_seq ?_
    refine t_seq ?_
    refine t_region ?_
    refine r_load_ptrN rfl rfl (by decide) rfl rfl (by exact Nat.le_of_ble_eq_true rfl) ?_
    refine mvS rfl ?_
    refine r_call (c_lright b hs h6 (planR b (sackC b)) hAl) rfl rfl rfl rfl rfl ?_
    refine r_not rfl ?_
    refine mvB rfl ?_
    apply r_guard (s := 66) rfl rfl rfl
    · intro hg; apply opT_of; (refine r_load_ptrN rfl rfl (by decide) rfl rfl (by exact Nat.le_of_ble_eq_true rfl) ?_); refine r_nil ?_; exact rfl
    · exact rfl
    · exact rfl
    apply r_guard (s := 66) rfl rfl rfl
    · intro hg; apply opT_of; (refine mvS rfl ?_); refine r_nil ?_; exact rfl
    · exact rfl
    · exact rfl
    apply r_guard (s := 66) rfl rfl rfl
    · intro hg; apply opT_strip (s := 67) rfl (by (rw [hg]; rfl)); apply opT_strip (s := 68) rfl (by (rw [hg]; rfl)); apply opT_of; (refine r_call (c_lright b hs h6 (planR b oneC) hBl) rfl rfl rfl rfl rfl ?_); refine r_nil ?_; exact rfl
    · exact rfl
    · exact rfl
    apply r_guard (s := 66) rfl rfl rfl
    · intro hg; apply opT_strip (s := 69) rfl (by (rw [hg]; rfl)); apply opT_of; (refine r_not rfl ?_); refine r_nil ?_; exact rfl
    · exact rfl
    · exact rfl
    refine r_or rfl rfl ?_
    refine mvB rfl ?_
    apply r_guard (s := 72) rfl rfl rfl
    · intro hg; apply opT_of; (refine mvS rfl ?_); refine r_nil ?_; exact rfl
    · exact rfl
    · exact rfl
    apply r_guard (s := 72) rfl rfl rfl
    · intro hg; apply opT_strip (s := 73) rfl (by (rw [hg]; rfl)); apply opT_of; (refine r_len rfl rfl rfl ?_); refine r_nil ?_; exact rfl
    · exact rfl
    · exact rfl
    apply r_guard (s := 72) rfl rfl rfl
    · intro hg; apply opT_of; (refine mvS rfl ?_); refine r_nil ?_; exact rfl
    · exact rfl
    · exact rfl
    apply r_guard (s := 72) rfl rfl rfl
    · intro hg; apply opT_strip (s := 75) rfl (by (rw [hg]; rfl)); apply opT_of; (refine r_len rfl rfl rfl ?_); refine r_nil ?_; exact rfl
    · exact rfl
    · exact rfl
    apply r_guard (s := 72) rfl rfl rfl
    · intro hg; apply opT_strip (s := 74) rfl (by (rw [hg]; rfl)); apply opT_strip (s := 76) rfl (by (rw [hg]; rfl)); apply opT_of; (refine r_bin rfl rfl rfl ?_); refine r_nil ?_; exact rfl
    · exact rfl
    · exact rfl
    refine r_or rfl rfl ?_
    refine r_nil ?_
    refine i_then ?_
    refine t_cond_ff rfl (lgt3 hy1 ho1 ho2 ho3) ?_
    refine t_skip ?_
    refine i_then ?_
    refine t_seq ?_
    refine t_seq ?_
    refine t_region ?_
    refine mvS rfl ?_
    refine r_len rfl rfl rfl ?_
    refine mvI rfl ?_
    refine r_nil ?_
    refine i_then ?_
    refine t_block ?_
    refine t_loop (fun (k : {k : Nat // k ≤ (planR b (sackC b)).length}) => live [(5, Ty.ptr 6 0), (6, Ty.ptr 32 0), (8, Ty.int .i64 (costR b (sackC b))), (10, Ty.sl TurE (planR b oneC)), (12, Ty.sl I64 (mustL b)), (14, Ty.int .i64 (sumUp b (planR b (sackC b)) k.1)), (15, Ty.int .i64 0), (16, Ty.int .i64 0), (79, Ty.sl TurE (planR b (sackC b))), (80, Ty.int .i64 (planR b (sackC b)).length), (81, Ty.int .i64 (k.1 : Nat))] [(6, Cont.cells 25 (barnTys b)), (32, Cont.cells 141 (skTys (skFill t)))]) (fun k => (planR b (sackC b)).length - k.1) (⟨0, by omega⟩) ?_ fun k => ?_
    · (refine Ent.mk' ?_ ?_ <;> (repeat' (first | exact allSub_zero | exact allTags_nil | refine allSub_succ' ?_ (Ty.sub_any _) | refine allSub_succ' ?_ (Ty.sub_refl _) | refine allTags_cons rfl (Cont.sub_refl _) ?_ | refine allSub_succ' ?_ ?_)))
      all_goals exact Ty.sub_int (sumUp_zero b _).symm
    ·
      have hk := k.2
      have hsu := sumUp_in hr (rightV_ok hy1) k.1 hk
      refine t_seq ?_
      refine t_region ?_
      refine r_bin rfl rfl rfl ?_
      refine r_nil ?_
      refine i_then ?_
      refine t_seq ?_
      refine t_cond_dec rfl (fun hc4 => ?_) (fun hc4 => ?_)
      ·
        refine t_skip ?_
        refine i_then ?_
        refine t_seq ?_
        refine t_block ?_
        refine t_seq ?_
        refine t_region ?_
        refine r_index_slN rfl rfl rfl rfl rfl rfl (by omega) ?_
        refine r_load_ppN rfl rfl rfl (by exact Nat.le_of_ble_eq_true rfl) ?_
        refine r_alloc rfl (by exact List.cons_ne_nil _ _) rfl ?_
        refine r_storeN rfl rfl (by decide) rfl rfl rfl rfl rfl rfl ?_
        refine r_nil ?_
        refine i_then ?_
        have hlo := hAi k.1 (by omega)
        have hsb := sack_bound hr hlo
        refine t_region ?_
        refine mvI rfl ?_
        refine r_field_ptr rfl rfl rfl rfl rfl (by decide) ?_
        refine r_load_ptr rfl rfl (by decide) rfl rfl rfl ?_
        refine r_field_ptr rfl rfl rfl rfl rfl (by decide) ?_
        refine r_load_ptr rfl rfl (by decide) rfl rfl rfl ?_
        refine r_index_sl rfl rfl rfl rfl rfl rfl hlo.1 (by omega) ?_
        refine r_field_pp rfl rfl rfl rfl rfl (by decide) ?_
        refine r_load_pp rfl rfl rfl rfl ?_
        refine r_add rfl rfl (by omega) (by omega) ?_
        refine asI rfl ?_
        refine r_nil ?_
        refine i_block ?_
        refine i_then ?_
        refine t_region ?_
        refine r_add rfl rfl (by omega) (by omega) ?_
        refine mvI rfl ?_
        refine r_nil ?_
        refine i_round (⟨k.1 + 1, by omega⟩) ?_ (by show (planR b (sackC b)).length - (k.1 + 1) < (planR b (sackC b)).length - k.1; omega)
        (refine Ent.mk' ?_ ?_ <;> (repeat' (first | exact allSub_zero | exact allTags_nil | refine allSub_succ' ?_ (Ty.sub_any _) | refine allSub_succ' ?_ (Ty.sub_refl _) | refine allTags_cons rfl (Cont.sub_refl _) ?_ | refine allSub_succ' ?_ ?_)))
        all_goals skip
        all_goals exact Ty.sub_int (sumUp_succ (by omega)).symm
      ·
        refine t_exit ?_
        refine i_then_exit ?_
        refine i_then_exit ?_
        refine i_block_exit rfl ?_
        refine i_then ?_
        refine t_seq ?_
        refine t_seq ?_
        refine t_region ?_
        refine mvS rfl ?_
        refine r_len rfl rfl rfl ?_
        refine mvI rfl ?_
        refine r_nil ?_
        refine i_then ?_
        refine t_block ?_
        refine t_loop (fun (k2 : {k : Nat // k ≤ (planR b oneC).length}) => live [(5, Ty.ptr 6 0), (6, Ty.ptr 32 0), (8, Ty.int .i64 (costR b (sackC b))), (12, Ty.sl I64 (mustL b)), (14, Ty.int .i64 (sumUp b (planR b (sackC b)) (planR b (sackC b)).length)), (15, Ty.int .i64 (sumUp b (planR b oneC) k2.1)), (16, Ty.int .i64 0), (95, Ty.sl TurE (planR b oneC)), (96, Ty.int .i64 (planR b oneC).length), (97, Ty.int .i64 (k2.1 : Nat))] [(6, Cont.cells 25 (barnTys b)), (32, Cont.cells 141 (skTys (skFill t)))]) (fun k2 => (planR b oneC).length - k2.1) (⟨0, by omega⟩) ?_ fun k2 => ?_
        · (refine Ent.mk' ?_ ?_ <;> (repeat' (first | exact allSub_zero | exact allTags_nil | refine allSub_succ' ?_ (Ty.sub_any _) | refine allSub_succ' ?_ (Ty.sub_refl _) | refine allTags_cons rfl (Cont.sub_refl _) ?_ | refine allSub_succ' ?_ ?_)))
          all_goals first | exact Ty.sub_int (by rw [show k.1 = (planR b (sackC b)).length by have := k.2; omega]) | exact Ty.sub_int (sumUp_zero b _).symm
        ·
          have hk2 := k2.2
          have hsu := sumUp_in hr (rightV_ok ho1) k2.1 hk2
          refine t_seq ?_
          refine t_region ?_
          refine r_bin rfl rfl rfl ?_
          refine r_nil ?_
          refine i_then ?_
          refine t_seq ?_
          refine t_cond_dec rfl (fun hc5 => ?_) (fun hc5 => ?_)
          ·
            refine t_skip ?_
            refine i_then ?_
            refine t_seq ?_
            refine t_block ?_
            refine t_seq ?_
            refine t_region ?_
            refine r_index_slN rfl rfl rfl rfl rfl rfl (by omega) ?_
            refine r_load_ppN rfl rfl rfl (by exact Nat.le_of_ble_eq_true rfl) ?_
            refine r_alloc rfl (by exact List.cons_ne_nil _ _) rfl ?_
            refine r_storeN rfl rfl (by decide) rfl rfl rfl rfl rfl rfl ?_
            refine r_nil ?_
            refine i_then ?_
            have hlo := hBi k2.1 (by omega)
            have hsb := sack_bound hr hlo
            refine t_region ?_
            refine mvI rfl ?_
            refine r_field_ptr rfl rfl rfl rfl rfl (by decide) ?_
            refine r_load_ptr rfl rfl (by decide) rfl rfl rfl ?_
            refine r_field_ptr rfl rfl rfl rfl rfl (by decide) ?_
            refine r_load_ptr rfl rfl (by decide) rfl rfl rfl ?_
            refine r_index_sl rfl rfl rfl rfl rfl rfl hlo.1 (by omega) ?_
            refine r_field_pp rfl rfl rfl rfl rfl (by decide) ?_
            refine r_load_pp rfl rfl rfl rfl ?_
            refine r_add rfl rfl (by omega) (by omega) ?_
            refine asI rfl ?_
            refine r_nil ?_
            refine i_block ?_
            refine i_then ?_
            refine t_region ?_
            refine r_add rfl rfl (by omega) (by omega) ?_
            refine mvI rfl ?_
            refine r_nil ?_
            refine i_round (⟨k2.1 + 1, by omega⟩) ?_ (by show (planR b oneC).length - (k2.1 + 1) < (planR b oneC).length - k2.1; omega)
            (refine Ent.mk' ?_ ?_ <;> (repeat' (first | exact allSub_zero | exact allTags_nil | refine allSub_succ' ?_ (Ty.sub_any _) | refine allSub_succ' ?_ (Ty.sub_refl _) | refine allTags_cons rfl (Cont.sub_refl _) ?_ | refine allSub_succ' ?_ ?_)))
            all_goals skip
            all_goals exact Ty.sub_int (sumUp_succ (by omega)).symm
          ·
            refine t_exit ?_
            refine i_then_exit ?_
            refine i_then_exit ?_
            refine i_block_exit rfl ?_
            refine i_then ?_
            refine t_seq ?_
            refine t_seq ?_
            refine t_region ?_
            refine mvS rfl ?_
            refine r_len rfl rfl rfl ?_
            refine mvI rfl ?_
            refine r_nil ?_
            refine i_then ?_
            refine t_block ?_
            refine t_loop (fun (k3 : {k : Nat // k ≤ (mustL b).length}) => live [(5, Ty.ptr 6 0), (6, Ty.ptr 32 0), (8, Ty.int .i64 (costR b (sackC b))), (14, Ty.int .i64 (sumUp b (planR b (sackC b)) (planR b (sackC b)).length)), (15, Ty.int .i64 (sumUp b (planR b oneC) (planR b oneC).length)), (16, Ty.int .i64 (leastUp b (mustL b) k3.1)), (111, Ty.sl I64 (mustL b)), (112, Ty.int .i64 (mustL b).length), (113, Ty.int .i64 (k3.1 : Nat))] [(6, Cont.cells 25 (barnTys b)), (32, Cont.cells 141 (skTys (skFill t)))]) (fun k3 => (mustL b).length - k3.1) (⟨0, by omega⟩) ?_ fun k3 => ?_
            · (refine Ent.mk' ?_ ?_ <;> (repeat' (first | exact allSub_zero | exact allTags_nil | refine allSub_succ' ?_ (Ty.sub_any _) | refine allSub_succ' ?_ (Ty.sub_refl _) | refine allTags_cons rfl (Cont.sub_refl _) ?_ | refine allSub_succ' ?_ ?_)))
              all_goals first | exact Ty.sub_int (by rw [show k2.1 = (planR b oneC).length by have := k2.2; omega]) | exact Ty.sub_int (leastUp_zero b _).symm
            ·
              have hk3 := k3.2
              have hml := must_len b
              have hsu := leastUp_in hr (must_in b) k3.1 hk3
              refine t_seq ?_
              refine t_region ?_
              refine r_bin rfl rfl rfl ?_
              refine r_nil ?_
              refine i_then ?_
              refine t_seq ?_
              refine t_cond_dec rfl (fun hc6 => ?_) (fun hc6 => ?_)
              ·
                refine t_skip ?_
                refine i_then ?_
                refine t_seq ?_
                refine t_block ?_
                refine t_seq ?_
                refine t_region ?_
                refine r_index_slN rfl rfl rfl rfl rfl rfl (by omega) ?_
                refine r_load_pp rfl rfl rfl rfl ?_
                refine asI rfl ?_
                refine r_nil ?_
                refine i_then ?_
                refine t_seq ?_
                refine t_seq ?_
                refine t_region ?_
                refine mvI rfl ?_
                refine r_bin rfl rfl rfl ?_
                refine mvB rfl ?_
                apply r_guard (s := 119) rfl rfl rfl
                · intro hg; apply opT_of; (refine mvI rfl ?_); refine r_nil ?_; exact rfl
                · exact rfl
                · exact rfl
                apply r_guard (s := 119) rfl rfl rfl
                · intro hg; apply opT_of; (refine r_field_ptr rfl rfl rfl rfl rfl (by decide) ?_); refine r_nil ?_; exact rfl
                · exact rfl
                · exact rfl
                apply r_guard (s := 119) rfl rfl rfl
                · intro hg; apply opT_strip (s := 121) rfl (by (rw [hg]; rfl)); apply opT_of; (refine r_load_ptr rfl rfl (by decide) rfl rfl rfl ?_); refine r_nil ?_; exact rfl
                · exact rfl
                · exact rfl
                apply r_guard (s := 119) rfl rfl rfl
                · intro hg; apply opT_strip (s := 122) rfl (by (rw [hg]; rfl)); apply opT_of; (refine r_len rfl rfl rfl ?_); refine r_nil ?_; exact rfl
                · exact rfl
                · exact rfl
                apply r_guard (s := 119) rfl rfl rfl
                · intro hg; apply opT_strip (s := 120) rfl (by (rw [hg]; rfl)); apply opT_strip (s := 123) rfl (by (rw [hg]; rfl)); apply opT_of; (refine r_bin rfl rfl rfl ?_); refine r_nil ?_; exact rfl
                · exact rfl
                · exact rfl
                refine r_or rfl rfl ?_
                refine r_nil ?_
                refine i_then ?_
                refine t_cond_ff rfl (lgt7 (by omega)) ?_
                refine t_skip ?_
                refine i_then ?_
                have hlo := must_in b _ (nth_mem (xs := mustL b) (k := k3.1) (by omega))
                have hsb := sack_bound hr hlo
                refine t_region ?_
                refine mvI rfl ?_
                refine r_field_ptr rfl rfl rfl rfl rfl (by decide) ?_
                refine r_load_ptr rfl rfl (by decide) rfl rfl rfl ?_
                refine mvI rfl ?_
                refine r_index_sl rfl rfl rfl rfl rfl rfl hlo.1 (by omega) ?_
                refine r_field_pp rfl rfl rfl rfl rfl (by decide) ?_
                refine r_load_pp rfl rfl rfl rfl ?_
                refine r_add rfl rfl (by omega) (by omega) ?_
                refine asI rfl ?_
                refine r_nil ?_
                refine i_block ?_
                refine i_then ?_
                refine t_region ?_
                refine r_add rfl rfl (by omega) (by omega) ?_
                refine mvI rfl ?_
                refine r_nil ?_
                refine i_round (⟨k3.1 + 1, by omega⟩) ?_ (by show (mustL b).length - (k3.1 + 1) < (mustL b).length - k3.1; omega)
                (refine Ent.mk' ?_ ?_ <;> (repeat' (first | exact allSub_zero | exact allTags_nil | refine allSub_succ' ?_ (Ty.sub_any _) | refine allSub_succ' ?_ (Ty.sub_refl _) | refine allTags_cons rfl (Cont.sub_refl _) ?_ | refine allSub_succ' ?_ ?_)))
                all_goals skip
                all_goals exact Ty.sub_int (leastUp_succ (by omega)).symm
              ·
                refine t_exit ?_
                refine i_then_exit ?_
                refine i_then_exit ?_
                refine i_block_exit rfl ?_
                refine i_then ?_
                refine t_seq ?_
                refine t_seq ?_
                refine t_as (s := 16) rfl (Ty.sub_int (show leastUp b (mustL b) k3.1 = leastUp b (mustL b) (mustL b).length by rw [show k3.1 = (mustL b).length by have := k3.2; omega])) ?_
                refine t_region ?_
                refine mvI rfl ?_
                refine mvI rfl ?_
                refine r_bin rfl rfl rfl ?_
                refine mvB rfl ?_
                apply r_guard (s := 138) rfl rfl rfl
                · intro hg; apply opT_of; (refine mvI rfl ?_); refine r_nil ?_; exact rfl
                · exact rfl
                · exact rfl
                apply r_guard (s := 138) rfl rfl rfl
                · intro hg; apply opT_of; (refine mvI rfl ?_); refine r_nil ?_; exact rfl
                · exact rfl
                · exact rfl
                apply r_guard (s := 138) rfl rfl rfl
                · intro hg; apply opT_strip (s := 139) rfl (by (rw [hg]; rfl)); apply opT_strip (s := 140) rfl (by (rw [hg]; rfl)); apply opT_of; (refine r_bin rfl rfl rfl ?_); refine r_nil ?_; exact rfl
                · exact rfl
                · exact rfl
                refine r_or rfl rfl ?_
                refine mvB rfl ?_
                apply r_guard (s := 143) rfl rfl rfl
                · intro hg; apply opT_of; (refine mvI rfl ?_); refine r_nil ?_; exact rfl
                · exact rfl
                · exact rfl
                apply r_guard (s := 143) rfl rfl rfl
                · intro hg; apply opT_of; (refine mvI rfl ?_); refine r_nil ?_; exact rfl
                · exact rfl
                · exact rfl
                apply r_guard (s := 143) rfl rfl rfl
                · intro hg; apply opT_strip (s := 144) rfl (by (rw [hg]; rfl)); apply opT_strip (s := 145) rfl (by (rw [hg]; rfl)); apply opT_of; (refine r_bin rfl rfl rfl ?_); refine r_nil ?_; exact rfl
                · exact rfl
                · exact rfl
                refine r_or rfl rfl ?_
                refine r_nil ?_
                refine i_then ?_
                refine t_cond_ff rfl (lgt8 hr hy1 hy2 hy3 ho1) ?_
                refine t_skip ?_
                refine i_then ?_
                refine t_seq ?_
                refine t_seq ?_
                refine t_region ?_
                refine mvI rfl ?_
                refine r_nil ?_
                refine i_then ?_
                refine t_block ?_
                refine t_loop (fun (q : {k : Nat // k ≤ 6}) => live [(5, Ty.ptr 6 0), (6, Ty.ptr 32 0), (8, Ty.int .i64 (costR b (sackC b))), (148, Ty.int .i64 (q.1 : Nat))] [(6, Cont.cells 25 (barnTys b)), (32, Cont.cells 141 (skTys (walksE b (skFill t) 9 q.1)))]) (fun q => 6 - q.1) (⟨0, by omega⟩) ?_ fun q => ?_
                · (refine Ent.mk' ?_ ?_ <;> (repeat' (first | exact allSub_zero | exact allTags_nil | refine allSub_succ' ?_ (Ty.sub_any _) | refine allSub_succ' ?_ (Ty.sub_refl _) | refine allTags_cons rfl (Cont.sub_refl _) ?_)))
                  all_goals trace_state
                ·
                  have hq := q.2
                  have hwo := walk_ok b (walksE b (skFill t) 9 q.1) (most := 9) (by omega)
                  have hwl := hwo.len
                  have hwi := fun k (hk : k < (walkP b (walksE b (skFill t) 9 q.1) 9).length) => (right_rng h6 hwo.ok _ (nth_mem hk)).1
                  refine t_seq ?_
                  refine t_region ?_
                  refine r_bin rfl rfl rfl ?_
                  refine r_nil ?_
                  refine i_then ?_
                  refine t_seq ?_
                  refine t_cond_dec rfl (fun hc9 => ?_) (fun hc9 => ?_)
                  ·
                    refine t_skip ?_
                    refine i_then ?_
                    refine t_seq ?_
                    refine t_block ?_
                    refine t_seq ?_
                    refine t_region ?_
                    refine mvO rfl ?_
                    refine r_load_ptrN rfl rfl (by decide) rfl rfl (by exact Nat.le_of_ble_eq_true rfl) ?_
                    refine r_callG [(32, 1000)] [] [(32, Cont.cells 141 (skTys (walksE b (skFill t) 9 (q.1 + 1))))] (c_walk b hs (walksE b (skFill t) 9 q.1) 9 ⟨by omega, by omega⟩ (walks_ok b t (by omega))) rfl rfl (by repeat (first | exact cv_nil | refine cv_cons ?_ ?_ | exact cv_ptr List.mem_cons_self | exact cv_pub rfl rfl)) (pre_cons (a := 32) (b := 1000) (by exact List.mem_cons_self) rfl (cc_cells_eq (by exact List.mem_cons_self) rfl rfl rfl) pre_nil) (post_cons (a := 32) (b := 1000) (by exact List.mem_cons_self) rfl (cc_cells_eq (by exact List.mem_cons_self) rfl rfl rfl) post_nil) (cv_pub rfl rfl) ?_
                    refine asS rfl ?_
                    refine r_nil ?_
                    refine i_then ?_
                    refine t_seq ?_
                    refine t_region ?_
                    refine asI rfl ?_
                    refine r_nil ?_
                    refine i_then ?_
                    refine t_seq ?_
                    refine t_seq ?_
                    refine t_region ?_
                    refine mvS rfl ?_
                    refine r_len rfl rfl rfl ?_
                    refine mvI rfl ?_
                    refine r_nil ?_
                    refine i_then ?_
                    refine t_block ?_
                    refine t_loop (fun (j : {k : Nat // k ≤ (walkP b (walksE b (skFill t) 9 q.1) 9).length}) => live [(5, Ty.ptr 6 0), (6, Ty.ptr 32 0), (8, Ty.int .i64 (costR b (sackC b))), (23, Ty.sl TurE (walkP b (walksE b (skFill t) 9 q.1) 9)), (24, Ty.int .i64 (sumUp b (walkP b (walksE b (skFill t) 9 q.1) 9) j.1)), (148, Ty.int .i64 (q.1 : Nat)), (153, Ty.sl TurE (walkP b (walksE b (skFill t) 9 q.1) 9)), (154, Ty.int .i64 (walkP b (walksE b (skFill t) 9 q.1) 9).length), (155, Ty.int .i64 (j.1 : Nat))] [(6, Cont.cells 25 (barnTys b)), (32, Cont.cells 141 (skTys (walksE b (skFill t) 9 (q.1 + 1))))]) (fun j => (walkP b (walksE b (skFill t) 9 q.1) 9).length - j.1) (⟨0, by omega⟩) ?_ fun j => ?_
                    · (refine Ent.mk' ?_ ?_ <;> (repeat' (first | exact allSub_zero | exact allTags_nil | refine allSub_succ' ?_ (Ty.sub_any _) | refine allSub_succ' ?_ (Ty.sub_refl _) | refine allTags_cons rfl (Cont.sub_refl _) ?_ | refine allSub_succ' ?_ ?_)))
                      all_goals exact Ty.sub_int (sumUp_zero b _).symm
                    ·
                      have hj := j.2
                      have hsu := sumUp_in hr hwo.ok j.1 hj
                      refine t_seq ?_
                      refine t_region ?_
                      refine r_bin rfl rfl rfl ?_
                      refine r_nil ?_
                      refine i_then ?_
                      refine t_seq ?_
                      refine t_cond_dec rfl (fun hc10 => ?_) (fun hc10 => ?_)
                      ·
                        refine t_skip ?_
                        refine i_then ?_
                        refine t_seq ?_
                        refine t_block ?_
                        refine t_seq ?_
                        refine t_region ?_
                        refine r_index_slN rfl rfl rfl rfl rfl rfl (by omega) ?_
                        refine r_load_ppN rfl rfl rfl (by exact Nat.le_of_ble_eq_true rfl) ?_
                        refine r_alloc rfl (by exact List.cons_ne_nil _ _) rfl ?_
                        refine r_storeN rfl rfl (by decide) rfl rfl rfl rfl rfl rfl ?_
                        refine r_nil ?_
                        refine i_then ?_
                        have hlo := hwi j.1 (by omega)
                        have hsb := sack_bound hr hlo
                        refine t_region ?_
                        refine mvI rfl ?_
                        refine r_field_ptr rfl rfl rfl rfl rfl (by decide) ?_
                        refine r_load_ptr rfl rfl (by decide) rfl rfl rfl ?_
                        refine r_field_ptr rfl rfl rfl rfl rfl (by decide) ?_
                        refine r_load_ptr rfl rfl (by decide) rfl rfl rfl ?_
                        refine r_index_sl rfl rfl rfl rfl rfl rfl hlo.1 (by omega) ?_
                        refine r_field_pp rfl rfl rfl rfl rfl (by decide) ?_
                        refine r_load_pp rfl rfl rfl rfl ?_
                        refine r_add rfl rfl (by omega) (by omega) ?_
                        refine asI rfl ?_
                        refine r_nil ?_
                        refine i_block ?_
                        refine i_then ?_
                        refine t_region ?_
                        refine r_add rfl rfl (by omega) (by omega) ?_
                        refine mvI rfl ?_
                        refine r_nil ?_
                        refine i_round (⟨j.1 + 1, by omega⟩) ?_ (by show (walkP b (walksE b (skFill t) 9 q.1) 9).length - (j.1 + 1) < (walkP b (walksE b (skFill t) 9 q.1) 9).length - j.1; omega)
                        (refine Ent.mk' ?_ ?_ <;> (repeat' (first | exact allSub_zero | exact allTags_nil | refine allSub_succ' ?_ (Ty.sub_any _) | refine allSub_succ' ?_ (Ty.sub_refl _) | refine allTags_cons rfl (Cont.sub_refl _) ?_ | refine allSub_succ' ?_ ?_)))
                        all_goals skip
                        all_goals exact Ty.sub_int (sumUp_succ (by omega)).symm
                      ·
                        refine t_exit ?_
                        refine i_then_exit ?_
                        refine i_then_exit ?_
                        refine i_block_exit rfl ?_
                        refine i_then ?_
                        refine t_seq ?_
                        refine t_as (s := 24) rfl (Ty.sub_int (show sumUp b (walkP b (walksE b (skFill t) 9 q.1) 9) j.1 = sumUp b (walkP b (walksE b (skFill t) 9 q.1) 9) (walkP b (walksE b (skFill t) 9 q.1) 9).length by rw [show j.1 = (walkP b (walksE b (skFill t) 9 q.1) 9).length by have := j.2; omega])) ?_
                        refine t_region ?_
                        refine r_load_ptrN rfl rfl (by decide) rfl rfl (by exact Nat.le_of_ble_eq_true rfl) ?_
                        refine mvS rfl ?_
                        refine r_call (c_lright b hs h6 (walkP b (walksE b (skFill t) 9 q.1) 9) (by omega)) rfl rfl rfl rfl rfl ?_
                        refine mvB rfl ?_
                        apply r_guard (s := 172) rfl rfl rfl
                        · intro hg; apply opT_of; (refine mvI rfl ?_); refine r_nil ?_; exact rfl
                        · exact rfl
                        · exact rfl
                        apply r_guard (s := 172) rfl rfl rfl
                        · intro hg; apply opT_of; (refine mvI rfl ?_); refine r_nil ?_; exact rfl
                        · exact rfl
                        · exact rfl
                        apply r_guard (s := 172) rfl rfl rfl
                        · intro hg; apply opT_strip (s := 173) rfl (by (rw [hg]; rfl)); apply opT_strip (s := 174) rfl (by (rw [hg]; rfl)); apply opT_of; (refine r_bin rfl rfl rfl ?_); refine r_nil ?_; exact rfl
                        · exact rfl
                        · exact rfl
                        refine r_and rfl rfl ?_
                        refine r_nil ?_
                        refine i_then ?_
                        refine t_cond_ff rfl (lgt11 hy3) ?_
                        refine t_skip ?_
                        refine i_block ?_
                        refine i_then ?_
                        refine t_region ?_
                        refine r_add rfl rfl (by omega) (by omega) ?_
                        refine mvI rfl ?_
                        refine r_nil ?_
                        refine i_round (⟨q.1 + 1, by omega⟩) ?_ (by show 6 - (q.1 + 1) < 6 - q.1; omega)
                        (refine Ent.mk' ?_ ?_ <;> (repeat' (first | exact allSub_zero | exact allTags_nil | refine allSub_succ' ?_ (Ty.sub_any _) | refine allSub_succ' ?_ (Ty.sub_refl _) | refine allTags_cons rfl (Cont.sub_refl _) ?_)))
                        all_goals skip
                  ·
                    refine t_exit ?_
                    refine i_then_exit ?_
                    refine i_then_exit ?_
                    refine i_block_exit rfl ?_
                    refine i_then ?_
                    refine t_seq ?_
                    refine t_region ?_
                    refine r_call (c_awake) rfl rfl rfl rfl rfl ?_
                    refine asB rfl ?_
                    refine r_nil ?_
                    refine i_then ?_
                    refine t_ret ?_
                    refine i_rp1 rfl rfl ?_
                    all_goals exact ret_refl rfl rfl
end Go.Proofs.Ytpnndljmhpepgaa

namespace Go.T
open Go Go.RowKit Go.ChangeShapes Go.WideShapes Go.ChangeAt
def pubs : Tags := fun _ => none
theorem wf_pubs (w : World) : Wf w pubs := ⟨fun _ _ h => (by cases h), fun _ _ _ _ h => (by cases h)⟩
theorem pubs_zero : ∀ b t, pubs b = some t → t = 0 := fun _ _ h => by cases h
structure Rd {α : Type} (P : Program) (e : TypeId) (E : El α) : Prop where
  size : P.cellsOf e = E.size
  pos : 0 < E.size
  rd : ∀ {H : Type} {enc : TypeId × Value → H} {w : World} {base : Nat} {held : Bool} {n : Nat} {cs : List Value} {y : DataW H × List MemPlace}, DataW.trod enc P w base (fun _ => true) held n e cs = some y → ∃ x, dens w pubs (E.tys x) cs
section
variable {H : Type} {enc : TypeId × Value → H} {P : Program} {w : World} {base : Nat} {held : Bool} {α : Type} {E : El α} {t e : TypeId} {n : Nat} {cs : List Value} {y : DataW H × List MemPlace}
theorem rd_sl (hR : Rd P e E) (ht : P.underlying t = some (.slice e)) (h : DataW.trod enc P w base (fun _ => true) held n t cs = some y) : ∃ v xs, cs = [v] ∧ (Ty.sl E xs).den w pubs v := by
  rcases Go.Deep.open_slice ht h with ⟨rfl, _⟩ | ⟨a, len, cap, m, k, D, Pl, rfl, _, hl, hm, hmm, _, hel⟩
  · exact ⟨_, [], rfl, none, 0, rfl, Nat.le_refl _, Nat.zero_le _, fun h => absurd h (Nat.lt_irrefl _)⟩
  have hlm : len ≤ m := by rw [hmm]; simpa using hl
  have hX : ∀ i : Fin len, ∃ x : α, ∃ cs', w.cells? base (a.add (i.1 * P.cellsOf e)) (P.cellsOf e) = some cs' ∧ dens w pubs (E.tys x) cs' := fun i => by
    obtain ⟨cs', h1, h2⟩ := hel i.1 (Nat.lt_of_lt_of_le i.2 hlm)
    obtain ⟨x, hx⟩ := hR.rd h2
    exact ⟨x, cs', h1, hx⟩
  let X : Fin len → α := fun i => (hX i).choose
  have hXs : ∀ i : Fin len, ∃ cs', w.cells? base (a.add (i.1 * P.cellsOf e)) (P.cellsOf e) = some cs' ∧ dens w pubs (E.tys (X i)) cs' := fun i => (hX i).choose_spec
  have hlen : (List.ofFn X).length = len := by simp
  refine ⟨_, List.ofFn X, rfl, some a, cap, by rw [hlen], by rw [hlen]; exact hl, hm, fun h0 => ?_⟩
  rw [hlen] at h0
  have hcell : ∀ (i : Fin len) (j : Nat) (u : Ty), (E.tys (X i))[j]? = some u → ∃ v, w.cell? (a.add (i.1 * E.size + j)) = some v ∧ u.den w pubs v := fun i j u hu => by
    obtain ⟨cs', h1, h2⟩ := hXs i
    obtain ⟨v, hv, hd⟩ := dens_get h2 j u hu
    obtain ⟨_, g1, g2⟩ := World.cells?_some h1
    have hj : j < P.cellsOf e := by
      rw [hR.size, ← E.len (X i)]
      exact (List.getElem?_eq_some_iff.1 hu).1
    refine ⟨v, ?_, hd⟩
    have := g2 j hj
    rw [Go.Deep.add_add, hv, hR.size] at this
    exact this
  have hsz := hR.pos
  have hfirst : ∃ v, w.cell? (a.add 0) = some v := by
    obtain ⟨u, hu⟩ : ∃ u, (E.tys (X ⟨0, h0⟩))[0]? = some u := ⟨_, List.getElem?_eq_getElem (by rw [E.len]; exact hsz)⟩
    obtain ⟨v, hv, _⟩ := hcell ⟨0, h0⟩ 0 u hu
    exact ⟨v, by simpa using hv⟩
  obtain ⟨b, off, sp⟩ := a
  obtain ⟨v0, hv0⟩ := hfirst
  have hsp : sp = none := by simpa [Addr.add] using World.cell?_spot hv0
  subst hsp
  have hb : b < w.heap.size := by
    obtain ⟨cs', h1, _⟩ := hXs ⟨0, h0⟩
    have := World.cells?_block h1 (by rw [hR.size]; exact hsz)
    simpa [Addr.add] using this
  refine ⟨b, off, rfl, rfl, hb, fun i u hu => ?_⟩
  have hi : i < len * E.size := by
    have := (List.getElem?_eq_some_iff.1 hu).1
    rw [flat_len, hlen] at this; exact this
  have hk : i / E.size < len := Nat.div_lt_of_lt_mul (by rw [Nat.mul_comm]; exact hi)
  have hj : i % E.size < E.size := Nat.mod_lt _ hsz
  have hij : i / E.size * E.size + i % E.size = i := by rw [Nat.mul_comm]; exact Nat.div_add_mod i E.size
  have hu2 := hu
  rw [← hij, flat_get E _ _ _ (by rw [hlen]; exact hk) hj, List.getElem?_ofFn, dif_pos hk] at hu2
  obtain ⟨v, hv, hd⟩ := hcell ⟨i / E.size, hk⟩ (i % E.size) u hu2
  refine ⟨v, ?_, hd⟩
  rw [← Go.WideShapes.add_plain]
  rw [hij] at hv
  exact hv
theorem rd_sl1 {c : Value} (hR : Rd P e E) (ht : P.underlying t = some (.slice e)) (h : DataW.trod enc P w base (fun _ => true) held n t [c] = some y) : ∃ xs, (Ty.sl E xs).den w pubs c := by
  obtain ⟨v, xs, e, hd⟩ := rd_sl hR ht h
  exact ⟨xs, by rw [show c = v by simpa using e]; exact hd⟩
end
section
variable {w w' : World} {S K : Nat → Prop} {M' : Tags}
theorem le_block (le : Le S K w pubs w' M') {b : Nat} (hb : b < w.heap.size) : w'.heap[b]? = w.heap[b]? := (le.pub b hb rfl).2
theorem le_same (le : Le S K w pubs w' M') {p : MemPlace} (hp : p.block < w.heap.size) : w.sameAt w' p := by
  cases p with
  | cell b o => exact World.cell?_of_block (w := w) (le_block le hp)
  | map b => exact le_block le hp
theorem le_kept (le : Le S K w pubs w' M') (may : MemPlace → Prop) : w.keptBut w' may := by
  refine ⟨le.os, le.out, fun i hi => ?_⟩
  have e := le_block le hi
  rw [e]
  split
  · rename_i h1 h2
    rw [h1] at h2
    simp only [Option.some.injEq, Obj.cells.injEq] at h2
    obtain ⟨rfl, rfl, rfl⟩ := h2
    exact ⟨rfl, rfl, rfl, fun _ _ => rfl⟩
  · rename_i h1 h2
    rw [h1] at h2
    simp only [Option.some.injEq, Obj.map.injEq] at h2
    exact Or.inr ⟨h2.1.symm, h2.2.symm⟩
  · rfl
theorem le_frozen (le : Le S K w pubs w' M') {a : Addr} (ha : a.block < w.heap.size) : w'.frozen? a = w.frozen? a := by
  unfold World.frozen?
  rw [le_block le ha]
end
section
variable {H : Type} {enc : TypeId × Value → H} {P : Program}
theorem trodAll_stays (hl : laidOutB P = true) {w w' : World} {sp : Nat → Bool} : ∀ {ts : List TypeId} {vs : List Value} {ds : List (DataW H)} {ps : List MemPlace}, (∀ t ∈ ts, P.readableRec t = true ∧ t < P.types.size) →
    DataW.TrodAll enc P w 0 (fun _ => true) true ts vs ds ps → (∀ p ∈ ps, w.sameAt w' p) → (∀ p ∈ ps, sp p.block = true) → DataW.TrodAll enc P w' 0 sp true ts vs ds ps
  | [], [], [], _, _, h, _, _ => h
  | t :: ts, v :: vs, d :: ds, _, ht, ⟨p, q, h1, h2, e⟩, hs, hsp => by
    subst e
    have h0 := ht t List.mem_cons_self
    exact ⟨p, q, Go.WideElems.Trod_stays hl h0.1 h0.2 h1 (fun x hx => hs x (List.mem_append_left _ hx)) (fun x hx => hsp x (List.mem_append_left _ hx)),
      trodAll_stays hl (fun t h => ht t (List.mem_cons_of_mem _ h)) h2 (fun x hx => hs x (List.mem_append_right _ hx)) (fun x hx => hsp x (List.mem_append_right _ hx)), rfl⟩
theorem post_true {f : Func} {s : ChangeSpec} {apart fresh handsOn again : Bool} {W W' : World} {args : Array Value} {ds : List (DataW H)} {before : List MemPlace} {S K : Nat → Prop} {M' : Tags}
    (hl : laidOutB P = true) (hv : s.vars = []) (hrd : ∀ t ∈ f.params.toList, P.readableRec t = true ∧ t < P.types.size) {tb : TypeId} (htb : P.underlying tb = some .bool) (hrt : f.resultTypes = #[tb])
    (hW : DataW.Whole enc P f.params.toList s.vars apart W args.toList ds [] before) (hres : (s.fn H (ds ++ [])).results = [.lit (.bool true)]) (hargs : (s.fn H (ds ++ [])).args = ds) (hvars : (s.fn H (ds ++ [])).vars = [])
    (le : Le S K W pubs W' M') : s.post enc P f apart fresh handsOn again W args (.bool true) W' := by
  have hW0 := hW
  obtain ⟨p, q, hA, hV, hb, hfz, hn⟩ := hW0
  have hlt := DataW.TrodAll.lt hA
  have hq : q = [] := by rw [hv] at hV; exact (trodVars_none hV).2
  subst hq
  have hbp : before = p := by rw [hb]; simp
  have hre : ∀ (b : Nat) (sp : Nat → Bool) (hd : Bool), DataW.TrodAll enc P W' b sp hd f.resultTypes.toList ((Value.bool true).resultList f.resultTypes.size) (s.fn H (ds ++ [])).results [] := fun b sp hd => by
    rw [hrt, hres]; exact trodAll_mk1 (shut_bool htb true)
  have har : ∀ sp : Nat → Bool, (∀ x ∈ p, sp x.block = true) → DataW.TrodAll enc P W' 0 sp true f.params.toList args.toList (s.fn H (ds ++ [])).args p := fun sp hsp => by
    rw [hargs]; exact trodAll_stays hl hrd hA (fun x hx => le_same le (hlt x hx)) hsp
  have hva : ∀ sp : Nat → Bool, DataW.TrodVars enc P W' sp s.vars (s.fn H (ds ++ [])).vars [] := fun sp => by
    rw [hvars, hv]; exact rfl
  have hok : ∀ (j : Nat) (t : TypeId) (r : Value), f.resultTypes[j]? = some t → ((Value.bool true).resultList f.resultTypes.size)[j]? = some r → Value.okWide P W' .any 0 t r := by
    exact ok_one (by rw [hrt]) rfl (okWide_bool_mk htb true)
  refine ⟨ds, [], before, [], p, [], hW, hre _ _ _, har _ (fun x hx => by simpa using hlt x hx), hva _, World.keptBut_mono (fun x hx => hx) (le_kept le _), fun _ => ?_⟩
  refine ⟨hok, _, _, ([] ++ p) ++ [], ⟨[] ++ p, [], trodAll_append (har _ (fun _ _ => rfl)) (hre _ _ _), hva _, rfl, ?_, ?_⟩, ?_⟩
  · intro b off hp
    have hp' : MemPlace.cell b off ∈ p := by simpa using hp
    rw [le_frozen le (hlt _ hp')]
    exact hfz b off (by rw [hbp]; exact hp')
  · intro ha
    have := hn ha
    rw [hbp] at this
    simpa using this
  · intro x hx _
    rw [hbp]
    simpa using hx
end
end Go.T

namespace Go.Proofs.Ytpnndljmhpepgaa
open Go Go.T Go.RowKit Go.ChangeShapes Go.WideShapes Go.ChangeAt
theorem rdU8 : Rd Try.prog 5 U8 := ⟨by kernel_rfl, by decide, fun h => by
  obtain ⟨i, rfl, _⟩ := DataW.trod_int Try.underlying5 h
  exact ⟨i, rfl, trivial⟩⟩
section
variable {H : Type} {enc : TypeId × Value → H} {W : World} {base : Nat} {held : Bool} {v : Value} {d : DataW H} {p : List MemPlace}
set_option maxRecDepth 100000 in
theorem rd_bytes (hv : Value.okWide Try.prog W .any base 83 v) (h : DataW.Trod enc Try.prog W 0 (fun _ => true) held 83 v d p) : ∃ l, (Ty.sl U8 l).den W pubs v := by
  obtain ⟨a, len, cap, rfl⟩ := okWide_slice Try.underlying83 hv
  obtain ⟨n, hn⟩ := h
  exact rd_sl1 rdU8 Try.underlying83 (by simpa [Value.cells] using hn)
end
end Go.Proofs.Ytpnndljmhpepgaa
