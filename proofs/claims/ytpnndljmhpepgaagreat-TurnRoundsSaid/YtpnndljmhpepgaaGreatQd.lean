/- Lemmas: the program and the reference walked, plain laws. -/
import Derived.Test.YtpnndljmhpepgaaGreatQc
namespace Go.Proofs.YtpnndljmhpepgaaGreat
open Go Go.T
set_option maxHeartbeats 2000000
theorem rnamed {b : Barn} {l : Lot} (h : notR b l = false) : (0 ≤ l.inn ∧ l.inn < b.sizes.length) ∧ -1 ≤ l.aim ∧ l.aim < b.sizes.length := by
  unfold notR at h
  simp only [Bool.or_eq_false_iff, offB_false] at h
  omega
attribute [local irreducible] dInt dBool dSl dPp dPtr dAgg dTup dClo dAny dEx dStr dGd dCells dVec dVs dRow dOp nth Tri Into TOps Ctr bodyPost Exit.then Exit.inBlock Code.wp Code.wpIn dWhen dPa dPe dAo dArr dMp dPm dMap dCJ CtrG CtrI OpY keepPost iterPost bodyPostM roundQ
set_option maxRecDepth 100000 in
theorem c_off (n lo hi : Int) : Ctr Tryz.prog 37 [Ty.int .i64 n, Ty.int .i64 lo, Ty.int .i64 hi] (Ty.bool (offB n lo hi)) := by
  refine fn_intro Tryz.func37 rfl (by decide) Tryz.ntmps37 (by exact Nat.le_of_ble_eq_true rfl) fun w0 M0 => ?_
  refine t_seq ?_
  refine t_region ?_
  refine asB rfl ?_
  refine r_nil ?_
  refine i_then ?_
  refine t_seq ?_
  refine t_region ?_
  refine mvI rfl ?_
  refine mvI rfl ?_
  refine r_bin rfl rfl rfl ?_
  refine mvB rfl ?_
  apply r_guard (s := 10) rfl rfl rfl
  · intro hg; apply opT_of; (refine mvI rfl ?_); refine r_nil ?_; exact rfl
  · exact rfl
  · exact rfl
  apply r_guard (s := 10) rfl rfl rfl
  · intro hg; apply opT_of; (refine mvI rfl ?_); refine r_nil ?_; exact rfl
  · exact rfl
  · exact rfl
  apply r_guard (s := 10) rfl rfl rfl
  · intro hg; apply opT_strip (s := 11) rfl (by (rw [hg]; rfl)); apply opT_strip (s := 12) rfl (by (rw [hg]; rfl)); apply opT_of; (refine r_bin rfl rfl rfl ?_); refine r_nil ?_; exact rfl
  · exact rfl
  · exact rfl
  refine r_or rfl rfl ?_
  refine asB rfl ?_
  refine r_nil ?_
  refine i_then ?_
  refine t_ret ?_
  refine i_rp1 rfl rfl ?_
  all_goals exact ret_refl rfl rfl
set_option maxRecDepth 100000 in
theorem c_rCheck (b : Barn) (hs : b.Small) : Ctr Tryz.prog 10 [barnT b] (Ty.int .i64 (checkR b)) := by
  refine fn_intro Tryz.func10 rfl (by decide) Tryz.ntmps10 (by exact Nat.le_of_ble_eq_true rfl) fun w0 M0 => ?_
  have hs1 := hs.sizes
  have hs2 := hs.lots
  refine t_seq ?_
  refine t_region ?_
  refine r_box_agg rfl ?_
  refine asI rfl ?_
  refine r_nil ?_
  refine i_then ?_
  refine t_seq ?_
  refine t_seq ?_
  refine t_region ?_
  refine r_field_pp rfl rfl rfl rfl rfl (by decide) ?_
  refine r_load_pp rfl rfl rfl rfl ?_
  refine r_len rfl rfl rfl ?_
  refine r_call (c_off _ _ _) rfl rfl rfl rfl rfl ?_
  refine mvB rfl ?_
  apply r_guard (s := 14) rfl rfl rfl
  · intro hg; apply opT_of; (refine r_field_pp rfl rfl rfl rfl rfl (by decide) ?_); refine r_nil ?_; exact rfl
  · exact rfl
  · exact rfl
  apply r_guard (s := 14) rfl rfl rfl
  · intro hg; apply opT_strip (s := 15) rfl (by (rw [hg]; rfl)); apply opT_of; (refine r_load_pp rfl rfl rfl rfl ?_); refine r_nil ?_; exact rfl
  · exact rfl
  · exact rfl
  apply r_guard (s := 14) rfl rfl rfl
  · intro hg; apply opT_strip (s := 16) rfl (by (rw [hg]; rfl)); apply opT_of; (refine r_len rfl rfl rfl ?_); refine r_nil ?_; exact rfl
  · exact rfl
  · exact rfl
  apply r_guard (s := 14) rfl rfl rfl
  · intro hg; apply opT_strip (s := 17) rfl (by (rw [hg]; rfl)); apply opT_of; (refine r_bin rfl rfl rfl ?_); refine r_nil ?_; exact rfl
  · exact rfl
  · exact rfl
  refine r_or rfl rfl ?_
  refine r_nil ?_
  refine i_then ?_
  refine t_cond rfl (fun hc1 => ?_) (fun hc1 => ?_)
  ·
    refine t_seq ?_
    refine t_region ?_
    refine asI rfl ?_
    refine r_nil ?_
    refine i_then ?_
    refine t_ret ?_
    refine i_then_ret ?_
    refine i_rp1 rfl rfl ?_
    all_goals skip
    exact ret_eq rfl rfl (congrArg (Ty.int .i64) (by rw [checkR, if_pos (show manyR b = true from hc1)]))
  ·
    refine t_skip ?_
    refine i_then ?_
    refine t_seq ?_
    refine t_seq ?_
    refine t_region ?_
    refine asI rfl ?_
    refine r_nil ?_
    refine i_then ?_
    refine t_block ?_
    refine t_loop (fun (k1 : {k : Nat // ∀ n ∈ b.sizes.take k, offB n 0 300 = false}) => live [(1, Ty.pp (barnTys b)), (3, Ty.int .i64 (k1.1 : Nat))] []) (fun k1 => b.sizes.length - k1.1) (⟨0, by simp⟩) ?_ fun k1 => ?_
    · (refine Ent.mk' ?_ ?_ <;> (repeat' (first | exact allSub_zero | exact allTags_nil | refine allSub_succ' ?_ (Ty.sub_any _) | refine allSub_succ' ?_ (Ty.sub_refl _))))
    ·
      refine t_seq ?_
      refine t_seq ?_
      refine t_region ?_
      refine mvI rfl ?_
      refine r_field_pp rfl rfl rfl rfl rfl (by decide) ?_
      refine r_load_pp rfl rfl rfl rfl ?_
      refine r_len rfl rfl rfl ?_
      refine r_bin rfl rfl rfl ?_
      refine r_nil ?_
      refine i_then ?_
      refine t_cond_dec rfl (fun hc2 => ?_) (fun hc2 => ?_)
      ·
        refine t_skip ?_
        refine i_then ?_
        refine t_seq ?_
        refine t_block ?_
        refine t_seq ?_
        refine t_region ?_
        refine r_field_pp rfl rfl rfl rfl rfl (by decide) ?_
        refine r_load_pp rfl rfl rfl rfl ?_
        refine mvI rfl ?_
        refine r_index_slN rfl rfl rfl rfl rfl rfl (by omega) ?_
        refine r_load_pp rfl rfl rfl rfl ?_
        refine r_call (c_off _ _ _) rfl rfl rfl rfl rfl ?_
        refine r_nil ?_
        refine i_then ?_
        refine t_cond rfl (fun hc3 => ?_) (fun hc3 => ?_)
        ·
          refine t_seq ?_
          refine t_region ?_
          refine asI rfl ?_
          refine r_nil ?_
          refine i_then ?_
          refine t_ret ?_
          refine i_block_ret ?_
          refine i_then_ret ?_
          refine i_then_ret ?_
          refine i_block_ret ?_
          refine i_then_ret ?_
          refine i_rp1 rfl rfl ?_
          all_goals skip
          exact ret_eq rfl rfl (congrArg (Ty.int .i64) (by rw [checkR, if_neg (ng (show manyR b = false from hc1)), if_pos (any_at (q := fun n => offB n 0 300) (k := k1.1) (by omega) hc3)]))
        ·
          refine t_skip ?_
          refine i_block ?_
          refine i_then ?_
          refine t_region ?_
          refine mvI rfl ?_
          refine r_add rfl rfl (by omega) (by omega) ?_
          refine asI rfl ?_
          refine r_nil ?_
          refine i_round (⟨k1.1 + 1, ext_false k1.2 (by omega) hc3⟩) ?_ (by show b.sizes.length - (k1.1 + 1) < b.sizes.length - k1.1; omega)
          (refine Ent.mk' ?_ ?_ <;> (repeat' (first | exact allSub_zero | exact allTags_nil | refine allSub_succ' ?_ (Ty.sub_any _) | refine allSub_succ' ?_ (Ty.sub_refl _))))
          all_goals skip
      ·
        refine t_exit ?_
        refine i_then_exit ?_
        refine i_then_exit ?_
        refine i_block_exit rfl ?_
        refine i_then ?_
        refine t_seq ?_
        refine t_seq ?_
        refine t_region ?_
        refine asI rfl ?_
        refine r_nil ?_
        refine i_then ?_
        refine t_block ?_
        refine t_loop (fun (k2 : {k : Nat // ∀ l ∈ b.lots.take k, offB l.sacks 1 300 = false}) => live [(1, Ty.pp (barnTys b)), (4, Ty.int .i64 (k2.1 : Nat))] []) (fun k2 => b.lots.length - k2.1) (⟨0, by simp⟩) ?_ fun k2 => ?_
        · (refine Ent.mk' ?_ ?_ <;> (repeat' (first | exact allSub_zero | exact allTags_nil | refine allSub_succ' ?_ (Ty.sub_any _) | refine allSub_succ' ?_ (Ty.sub_refl _))))
        ·
          refine t_seq ?_
          refine t_seq ?_
          refine t_region ?_
          refine mvI rfl ?_
          refine r_field_pp rfl rfl rfl rfl rfl (by decide) ?_
          refine r_load_pp rfl rfl rfl rfl ?_
          refine r_len rfl rfl rfl ?_
          refine r_bin rfl rfl rfl ?_
          refine r_nil ?_
          refine i_then ?_
          refine t_cond_dec rfl (fun hc4 => ?_) (fun hc4 => ?_)
          ·
            refine t_skip ?_
            refine i_then ?_
            refine t_seq ?_
            refine t_block ?_
            refine t_seq ?_
            refine t_region ?_
            refine r_field_pp rfl rfl rfl rfl rfl (by decide) ?_
            refine r_load_pp rfl rfl rfl rfl ?_
            refine mvI rfl ?_
            refine r_index_slN rfl rfl rfl rfl rfl rfl (by omega) ?_
            refine r_field_pp rfl rfl rfl rfl rfl (by decide) ?_
            refine r_load_pp rfl rfl rfl rfl ?_
            refine r_call (c_off _ _ _) rfl rfl rfl rfl rfl ?_
            refine r_nil ?_
            refine i_then ?_
            refine t_cond rfl (fun hc5 => ?_) (fun hc5 => ?_)
            ·
              refine t_seq ?_
              refine t_region ?_
              refine asI rfl ?_
              refine r_nil ?_
              refine i_then ?_
              refine t_ret ?_
              refine i_block_ret ?_
              refine i_then_ret ?_
              refine i_then_ret ?_
              refine i_block_ret ?_
              refine i_then_ret ?_
              refine i_rp1 rfl rfl ?_
              all_goals skip
              exact ret_eq rfl rfl (congrArg (Ty.int .i64) (by rw [checkR, if_neg (ng (show manyR b = false from hc1)), if_neg (ng (any_neg k1.2 (by omega))), if_pos (any_at (q := fun l : Lot => offB l.sacks 1 300) (k := k2.1) (by omega) hc5)]))
            ·
              refine t_skip ?_
              refine i_block ?_
              refine i_then ?_
              refine t_region ?_
              refine mvI rfl ?_
              refine r_add rfl rfl (by omega) (by omega) ?_
              refine asI rfl ?_
              refine r_nil ?_
              refine i_round (⟨k2.1 + 1, ext_false k2.2 (by omega) hc5⟩) ?_ (by show b.lots.length - (k2.1 + 1) < b.lots.length - k2.1; omega)
              (refine Ent.mk' ?_ ?_ <;> (repeat' (first | exact allSub_zero | exact allTags_nil | refine allSub_succ' ?_ (Ty.sub_any _) | refine allSub_succ' ?_ (Ty.sub_refl _))))
              all_goals skip
          ·
            refine t_exit ?_
            refine i_then_exit ?_
            refine i_then_exit ?_
            refine i_block_exit rfl ?_
            refine i_then ?_
            refine t_seq ?_
            refine t_seq ?_
            refine t_region ?_
            refine asI rfl ?_
            refine r_nil ?_
            refine i_then ?_
            refine t_block ?_
            refine t_loop (fun (k3 : {k : Nat // ∀ l ∈ b.lots.take k, notR b l = false}) => live [(1, Ty.pp (barnTys b)), (5, Ty.int .i64 (k3.1 : Nat))] []) (fun k3 => b.lots.length - k3.1) (⟨0, by simp⟩) ?_ fun k3 => ?_
            · (refine Ent.mk' ?_ ?_ <;> (repeat' (first | exact allSub_zero | exact allTags_nil | refine allSub_succ' ?_ (Ty.sub_any _) | refine allSub_succ' ?_ (Ty.sub_refl _))))
            ·
              refine t_seq ?_
              refine t_seq ?_
              refine t_region ?_
              refine mvI rfl ?_
              refine r_field_pp rfl rfl rfl rfl rfl (by decide) ?_
              refine r_load_pp rfl rfl rfl rfl ?_
              refine r_len rfl rfl rfl ?_
              refine r_bin rfl rfl rfl ?_
              refine r_nil ?_
              refine i_then ?_
              refine t_cond_dec rfl (fun hc6 => ?_) (fun hc6 => ?_)
              ·
                refine t_skip ?_
                refine i_then ?_
                refine t_seq ?_
                refine t_block ?_
                refine t_seq ?_
                refine t_draw mixed rfl ?_
                refine r_field_pp rfl rfl rfl rfl rfl (by decide) ?_
                refine r_load_pp rfl rfl rfl rfl ?_
                refine mvI rfl ?_
                refine r_index_slN rfl rfl rfl rfl rfl rfl (by omega) ?_
                refine r_field_pp rfl rfl rfl rfl rfl (by decide) ?_
                refine r_load_pp rfl rfl rfl rfl ?_
                refine r_field_pp rfl rfl rfl rfl rfl (by decide) ?_
                refine r_load_pp rfl rfl rfl rfl ?_
                refine r_len rfl rfl rfl ?_
                refine r_sub rfl rfl (by omega) (by omega) ?_
                refine r_call (c_off _ _ _) rfl rfl rfl rfl rfl ?_
                refine mvB rfl ?_
                apply r_guard (s := 65) rfl rfl rfl
                · intro hg; apply opT_of; (refine r_field_pp rfl rfl rfl rfl rfl (by decide) ?_); refine r_nil ?_; exact rfl
                · exact rfl
                · exact rfl
                apply r_guard (s := 65) rfl rfl rfl
                · intro hg; apply opT_strip (s := 66) rfl (by (rw [hg]; rfl)); apply opT_of; (refine r_load_pp rfl rfl rfl rfl ?_); refine r_nil ?_; exact rfl
                · exact rfl
                · exact rfl
                apply r_guard (s := 65) rfl rfl rfl
                · intro hg; apply opT_of; (refine mvI rfl ?_); refine r_nil ?_; exact rfl
                · exact rfl
                · exact rfl
                apply r_guard (s := 65) rfl rfl rfl
                · intro hg; apply opT_strip (s := 67) rfl (by (rw [hg]; rfl)); apply opT_strip (s := 68) rfl (by (rw [hg]; rfl)); apply opT_of; (refine r_index_slN rfl rfl rfl rfl rfl rfl (by omega) ?_); refine r_nil ?_; exact rfl
                · exact rfl
                · exact rfl
                apply r_guard (s := 65) rfl rfl rfl
                · intro hg; apply opT_strip (s := 69) rfl (by (rw [hg]; rfl)); apply opT_of; (refine r_field_pp rfl rfl rfl rfl rfl (by decide) ?_); refine r_nil ?_; exact rfl
                · exact rfl
                · exact rfl
                apply r_guard (s := 65) rfl rfl rfl
                · intro hg; apply opT_strip (s := 70) rfl (by (rw [hg]; rfl)); apply opT_of; (refine r_load_pp rfl rfl rfl rfl ?_); refine r_nil ?_; exact rfl
                · exact rfl
                · exact rfl
                apply r_guard (s := 65) rfl rfl rfl
                · intro hg; apply opT_of; (refine r_field_pp rfl rfl rfl rfl rfl (by decide) ?_); refine r_nil ?_; exact rfl
                · exact rfl
                · exact rfl
                apply r_guard (s := 65) rfl rfl rfl
                · intro hg; apply opT_strip (s := 72) rfl (by (rw [hg]; rfl)); apply opT_of; (refine r_load_pp rfl rfl rfl rfl ?_); refine r_nil ?_; exact rfl
                · exact rfl
                · exact rfl
                apply r_guard (s := 65) rfl rfl rfl
                · intro hg; apply opT_strip (s := 73) rfl (by (rw [hg]; rfl)); apply opT_of; (refine r_len rfl rfl rfl ?_); refine r_nil ?_; exact rfl
                · exact rfl
                · exact rfl
                apply r_guard (s := 65) rfl rfl rfl
                · intro hg; apply opT_strip (s := 74) rfl (by (rw [hg]; rfl)); apply opT_of; (refine r_sub rfl rfl (by omega) (by omega) ?_); refine r_nil ?_; exact rfl
                · exact rfl
                · exact rfl
                apply r_guard (s := 65) rfl rfl rfl
                · intro hg; apply opT_strip (s := 71) rfl (by (rw [hg]; rfl)); apply opT_strip (s := 75) rfl (by (rw [hg]; rfl)); apply opT_of; (refine r_call (c_off _ _ _) rfl rfl rfl rfl rfl ?_); refine r_nil ?_; exact rfl
                · exact rfl
                · exact rfl
                refine r_or rfl rfl ?_
                refine r_nil ?_
                refine ⟨by kernel_rfl, ?_⟩
                refine i_then ?_
                refine t_cond rfl (fun hc7 => ?_) (fun hc7 => ?_)
                ·
                  refine t_seq ?_
                  refine t_region ?_
                  refine asI rfl ?_
                  refine r_nil ?_
                  refine i_then ?_
                  refine t_ret ?_
                  refine i_block_ret ?_
                  refine i_then_ret ?_
                  refine i_then_ret ?_
                  refine i_block_ret ?_
                  refine i_then_ret ?_
                  refine i_rp1 rfl rfl ?_
                  all_goals skip
                  exact ret_eq rfl rfl (congrArg (Ty.int .i64) (by rw [checkR, if_neg (ng (show manyR b = false from hc1)), if_neg (ng (any_neg k1.2 (by omega))), if_neg (ng (any_neg k2.2 (by omega))), if_pos (any_at (q := notR b) (k := k3.1) (by omega) hc7)]))
                ·
                  refine t_skip ?_
                  refine i_block ?_
                  refine i_then ?_
                  refine t_region ?_
                  refine mvI rfl ?_
                  refine r_add rfl rfl (by omega) (by omega) ?_
                  refine asI rfl ?_
                  refine r_nil ?_
                  refine i_round (⟨k3.1 + 1, ext_false k3.2 (by omega) hc7⟩) ?_ (by show b.lots.length - (k3.1 + 1) < b.lots.length - k3.1; omega)
                  (refine Ent.mk' ?_ ?_ <;> (repeat' (first | exact allSub_zero | exact allTags_nil | refine allSub_succ' ?_ (Ty.sub_any _) | refine allSub_succ' ?_ (Ty.sub_refl _))))
                  all_goals skip
              ·
                refine t_exit ?_
                refine i_then_exit ?_
                refine i_then_exit ?_
                refine i_block_exit rfl ?_
                refine i_then ?_
                refine t_seq ?_
                refine t_seq ?_
                refine t_region ?_
                refine asI rfl ?_
                refine r_nil ?_
                refine i_then ?_
                refine t_block ?_
                refine t_loop (fun (k4 : {k : Nat // ∀ j, j < k → ((List.range b.lots.length).any fun m => twiceR b j m) = false}) => live [(1, Ty.pp (barnTys b)), (6, Ty.int .i64 (k4.1 : Nat))] []) (fun k4 => b.lots.length - k4.1) (⟨0, fun j hj => absurd hj (Nat.not_lt_zero j)⟩) ?_ fun k4 => ?_
                · (refine Ent.mk' ?_ ?_ <;> (repeat' (first | exact allSub_zero | exact allTags_nil | refine allSub_succ' ?_ (Ty.sub_any _) | refine allSub_succ' ?_ (Ty.sub_refl _))))
                ·
                  refine t_seq ?_
                  refine t_seq ?_
                  refine t_region ?_
                  refine mvI rfl ?_
                  refine r_field_pp rfl rfl rfl rfl rfl (by decide) ?_
                  refine r_load_pp rfl rfl rfl rfl ?_
                  refine r_len rfl rfl rfl ?_
                  refine r_bin rfl rfl rfl ?_
                  refine r_nil ?_
                  refine i_then ?_
                  refine t_cond_dec rfl (fun hc8 => ?_) (fun hc8 => ?_)
                  ·
                    refine t_skip ?_
                    refine i_then ?_
                    refine t_seq ?_
                    refine t_block ?_
                    refine t_seq ?_
                    refine t_region ?_
                    refine asI rfl ?_
                    refine r_nil ?_
                    refine i_then ?_
                    refine t_block ?_
                    refine t_loop (fun (k5 : {k : Nat // ∀ j, j < k → twiceR b k4.1 j = false}) => live [(1, Ty.pp (barnTys b)), (6, Ty.int .i64 (k4.1 : Nat)), (7, Ty.int .i64 (k5.1 : Nat))] []) (fun k5 => b.lots.length - k5.1) (⟨0, fun j hj => absurd hj (Nat.not_lt_zero j)⟩) ?_ fun k5 => ?_
                    · (refine Ent.mk' ?_ ?_ <;> (repeat' (first | exact allSub_zero | exact allTags_nil | refine allSub_succ' ?_ (Ty.sub_any _) | refine allSub_succ' ?_ (Ty.sub_refl _))))
                    ·
                      refine t_seq ?_
                      refine t_seq ?_
                      refine t_region ?_
                      refine mvI rfl ?_
                      refine r_field_pp rfl rfl rfl rfl rfl (by decide) ?_
                      refine r_load_pp rfl rfl rfl rfl ?_
                      refine r_len rfl rfl rfl ?_
                      refine r_bin rfl rfl rfl ?_
                      refine r_nil ?_
                      refine i_then ?_
                      refine t_cond_dec rfl (fun hc9 => ?_) (fun hc9 => ?_)
                      ·
                        refine t_skip ?_
                        refine i_then ?_
                        refine t_seq ?_
                        refine t_block ?_
                        refine t_seq ?_
                        refine t_draw mixed rfl ?_
                        refine mvI rfl ?_
                        refine mvI rfl ?_
                        refine r_bin rfl rfl rfl ?_
                        refine mvB rfl ?_
                        apply r_guard (s := 95) rfl rfl rfl
                        · intro hg; apply opT_of; (refine r_field_pp rfl rfl rfl rfl rfl (by decide) ?_); refine r_nil ?_; exact rfl
                        · exact rfl
                        · exact rfl
                        apply r_guard (s := 95) rfl rfl rfl
                        · intro hg; apply opT_strip (s := 96) rfl (by (rw [hg]; rfl)); apply opT_of; (refine r_load_pp rfl rfl rfl rfl ?_); refine r_nil ?_; exact rfl
                        · exact rfl
                        · exact rfl
                        apply r_guard (s := 95) rfl rfl rfl
                        · intro hg; apply opT_of; (refine mvI rfl ?_); refine r_nil ?_; exact rfl
                        · exact rfl
                        · exact rfl
                        apply r_guard (s := 95) rfl rfl rfl
                        · intro hg; apply opT_strip (s := 97) rfl (by (rw [hg]; rfl)); apply opT_strip (s := 98) rfl (by (rw [hg]; rfl)); apply opT_of; (refine r_index_slN rfl rfl rfl rfl rfl rfl (by omega) ?_); refine r_nil ?_; exact rfl
                        · exact rfl
                        · exact rfl
                        apply r_guard (s := 95) rfl rfl rfl
                        · intro hg; apply opT_strip (s := 99) rfl (by (rw [hg]; rfl)); apply opT_of; (refine r_field_pp rfl rfl rfl rfl rfl (by decide) ?_); refine r_nil ?_; exact rfl
                        · exact rfl
                        · exact rfl
                        apply r_guard (s := 95) rfl rfl rfl
                        · intro hg; apply opT_strip (s := 100) rfl (by (rw [hg]; rfl)); apply opT_of; (refine r_load_pp rfl rfl rfl rfl ?_); refine r_nil ?_; exact rfl
                        · exact rfl
                        · exact rfl
                        apply r_guard (s := 95) rfl rfl rfl
                        · intro hg; apply opT_of; (refine r_field_pp rfl rfl rfl rfl rfl (by decide) ?_); refine r_nil ?_; exact rfl
                        · exact rfl
                        · exact rfl
                        apply r_guard (s := 95) rfl rfl rfl
                        · intro hg; apply opT_strip (s := 102) rfl (by (rw [hg]; rfl)); apply opT_of; (refine r_load_pp rfl rfl rfl rfl ?_); refine r_nil ?_; exact rfl
                        · exact rfl
                        · exact rfl
                        apply r_guard (s := 95) rfl rfl rfl
                        · intro hg; apply opT_of; (refine mvI rfl ?_); refine r_nil ?_; exact rfl
                        · exact rfl
                        · exact rfl
                        apply r_guard (s := 95) rfl rfl rfl
                        · intro hg; apply opT_strip (s := 103) rfl (by (rw [hg]; rfl)); apply opT_strip (s := 104) rfl (by (rw [hg]; rfl)); apply opT_of; (refine r_index_slN rfl rfl rfl rfl rfl rfl (by omega) ?_); refine r_nil ?_; exact rfl
                        · exact rfl
                        · exact rfl
                        apply r_guard (s := 95) rfl rfl rfl
                        · intro hg; apply opT_strip (s := 105) rfl (by (rw [hg]; rfl)); apply opT_of; (refine r_field_pp rfl rfl rfl rfl rfl (by decide) ?_); refine r_nil ?_; exact rfl
                        · exact rfl
                        · exact rfl
                        apply r_guard (s := 95) rfl rfl rfl
                        · intro hg; apply opT_strip (s := 106) rfl (by (rw [hg]; rfl)); apply opT_of; (refine r_load_pp rfl rfl rfl rfl ?_); refine r_nil ?_; exact rfl
                        · exact rfl
                        · exact rfl
                        apply r_guard (s := 95) rfl rfl rfl
                        · intro hg; apply opT_strip (s := 101) rfl (by (rw [hg]; rfl)); apply opT_strip (s := 107) rfl (by (rw [hg]; rfl)); apply opT_of; (refine r_bin rfl rfl rfl ?_); refine r_nil ?_; exact rfl
                        · exact rfl
                        · exact rfl
                        apply r_guard (s := 95) rfl rfl rfl
                        · intro hg; apply opT_strip (s := 108) rfl (by (rw [hg]; rfl)); apply opT_of; (refine mvB rfl ?_); refine r_nil ?_; exact rfl
                        · exact rfl
                        · exact rfl
                        apply r_guardG (s := 109) rfl rfl rfl
                        · intro hg1 hg2; apply opT_of; (refine r_field_pp rfl rfl rfl rfl rfl (by decide) ?_); refine r_nil ?_; exact rfl
                        · exact rfl
                        · exact rfl
                        apply r_guardG (s := 109) rfl rfl rfl
                        · intro hg1 hg2; apply opT_strip (s := 110) rfl (by (rw [hg1, hg2]; rfl)); apply opT_of; (refine r_load_pp rfl rfl rfl rfl ?_); refine r_nil ?_; exact rfl
                        · exact rfl
                        · exact rfl
                        apply r_guardG (s := 109) rfl rfl rfl
                        · intro hg1 hg2; apply opT_of; (refine mvI rfl ?_); refine r_nil ?_; exact rfl
                        · exact rfl
                        · exact rfl
                        apply r_guardG (s := 109) rfl rfl rfl
                        · intro hg1 hg2; apply opT_strip (s := 111) rfl (by (rw [hg1, hg2]; rfl)); apply opT_strip (s := 112) rfl (by (rw [hg1, hg2]; rfl)); apply opT_of; (refine r_index_slN rfl rfl rfl rfl rfl rfl (by omega) ?_); refine r_nil ?_; exact rfl
                        · exact rfl
                        · exact rfl
                        apply r_guardG (s := 109) rfl rfl rfl
                        · intro hg1 hg2; apply opT_strip (s := 113) rfl (by (rw [hg1, hg2]; rfl)); apply opT_of; (refine r_field_pp rfl rfl rfl rfl rfl (by decide) ?_); refine r_nil ?_; exact rfl
                        · exact rfl
                        · exact rfl
                        apply r_guardG (s := 109) rfl rfl rfl
                        · intro hg1 hg2; apply opT_strip (s := 114) rfl (by (rw [hg1, hg2]; rfl)); apply opT_of; (refine r_load_pp rfl rfl rfl rfl ?_); refine r_nil ?_; exact rfl
                        · exact rfl
                        · exact rfl
                        apply r_guardG (s := 109) rfl rfl rfl
                        · intro hg1 hg2; apply opT_strip (s := 115) rfl (by (rw [hg1, hg2]; rfl)); apply opT_of; (refine r_bin rfl rfl rfl ?_); refine r_nil ?_; exact rfl
                        · exact rfl
                        · exact rfl
                        apply r_guardG (s := 109) rfl rfl rfl
                        · intro hg1 hg2; apply opT_strip (s := 116) rfl (by (rw [hg1, hg2]; rfl)); apply opT_of; (refine mvB rfl ?_); refine r_nil ?_; exact rfl
                        · exact rfl
                        · exact rfl
                        apply r_guardG (s := 117) rfl rfl rfl
                        · intro hg1 hg2; apply opT_of; (refine r_field_pp rfl rfl rfl rfl rfl (by decide) ?_); refine r_nil ?_; exact rfl
                        · exact rfl
                        · exact rfl
                        apply r_guardG (s := 117) rfl rfl rfl
                        · intro hg1 hg2; apply opT_strip (s := 118) rfl (by (rw [hg1, hg2]; rfl)); apply opT_of; (refine r_load_pp rfl rfl rfl rfl ?_); refine r_nil ?_; exact rfl
                        · exact rfl
                        · exact rfl
                        apply r_guardG (s := 117) rfl rfl rfl
                        · intro hg1 hg2; apply opT_of; (refine mvI rfl ?_); refine r_nil ?_; exact rfl
                        · exact rfl
                        · exact rfl
                        apply r_guardG (s := 117) rfl rfl rfl
                        · intro hg1 hg2; apply opT_strip (s := 119) rfl (by (rw [hg1, hg2]; rfl)); apply opT_strip (s := 120) rfl (by (rw [hg1, hg2]; rfl)); apply opT_of; (refine r_index_slN rfl rfl rfl rfl rfl rfl (by omega) ?_); refine r_nil ?_; exact rfl
                        · exact rfl
                        · exact rfl
                        apply r_guardG (s := 117) rfl rfl rfl
                        · intro hg1 hg2; apply opT_strip (s := 121) rfl (by (rw [hg1, hg2]; rfl)); apply opT_of; (refine r_field_pp rfl rfl rfl rfl rfl (by decide) ?_); refine r_nil ?_; exact rfl
                        · exact rfl
                        · exact rfl
                        apply r_guardG (s := 117) rfl rfl rfl
                        · intro hg1 hg2; apply opT_strip (s := 122) rfl (by (rw [hg1, hg2]; rfl)); apply opT_of; (refine r_load_pp rfl rfl rfl rfl ?_); refine r_nil ?_; exact rfl
                        · exact rfl
                        · exact rfl
                        apply r_guardG (s := 117) rfl rfl rfl
                        · intro hg1 hg2; apply opT_of; (refine r_field_pp rfl rfl rfl rfl rfl (by decide) ?_); refine r_nil ?_; exact rfl
                        · exact rfl
                        · exact rfl
                        apply r_guardG (s := 117) rfl rfl rfl
                        · intro hg1 hg2; apply opT_strip (s := 124) rfl (by (rw [hg1, hg2]; rfl)); apply opT_of; (refine r_load_pp rfl rfl rfl rfl ?_); refine r_nil ?_; exact rfl
                        · exact rfl
                        · exact rfl
                        apply r_guardG (s := 117) rfl rfl rfl
                        · intro hg1 hg2; apply opT_of; (refine mvI rfl ?_); refine r_nil ?_; exact rfl
                        · exact rfl
                        · exact rfl
                        apply r_guardG (s := 117) rfl rfl rfl
                        · intro hg1 hg2; apply opT_strip (s := 125) rfl (by (rw [hg1, hg2]; rfl)); apply opT_strip (s := 126) rfl (by (rw [hg1, hg2]; rfl)); apply opT_of; (refine r_index_slN rfl rfl rfl rfl rfl rfl (by omega) ?_); refine r_nil ?_; exact rfl
                        · exact rfl
                        · exact rfl
                        apply r_guardG (s := 117) rfl rfl rfl
                        · intro hg1 hg2; apply opT_strip (s := 127) rfl (by (rw [hg1, hg2]; rfl)); apply opT_of; (refine r_field_pp rfl rfl rfl rfl rfl (by decide) ?_); refine r_nil ?_; exact rfl
                        · exact rfl
                        · exact rfl
                        apply r_guardG (s := 117) rfl rfl rfl
                        · intro hg1 hg2; apply opT_strip (s := 128) rfl (by (rw [hg1, hg2]; rfl)); apply opT_of; (refine r_load_pp rfl rfl rfl rfl ?_); refine r_nil ?_; exact rfl
                        · exact rfl
                        · exact rfl
                        apply r_guardG (s := 117) rfl rfl rfl
                        · intro hg1 hg2; apply opT_strip (s := 123) rfl (by (rw [hg1, hg2]; rfl)); apply opT_strip (s := 129) rfl (by (rw [hg1, hg2]; rfl)); apply opT_of; (refine r_bin rfl rfl rfl ?_); refine r_nil ?_; exact rfl
                        · exact rfl
                        · exact rfl
                        apply r_guardG (s := 109) rfl rfl rfl
                        · intro hg1 hg2; apply opT_strip (s := 117) rfl (by (rw [hg1, hg2]; rfl)); apply opT_stripG (s := 130) rfl (by (rw [hg1, hg2]; rfl)); apply opT_of; (refine r_and rfl rfl ?_); refine r_nil ?_; exact rfl
                        · exact rfl
                        · exact rfl
                        apply r_guard (s := 95) rfl rfl rfl
                        · intro hg; apply opT_strip (s := 109) rfl (by (rw [hg]; rfl)); apply opT_stripG (s := 131) rfl (by (rw [hg]; rfl)); apply opT_of; (refine r_or rfl rfl ?_); refine r_nil ?_; exact rfl
                        · exact rfl
                        · exact rfl
                        refine r_and rfl rfl ?_
                        refine r_nil ?_
                        refine ⟨by kernel_rfl, ?_⟩
                        refine i_then ?_
                        refine t_cond rfl (fun hc10 => ?_) (fun hc10 => ?_)
                        ·
                          refine t_seq ?_
                          refine t_region ?_
                          refine asI rfl ?_
                          refine r_nil ?_
                          refine i_then ?_
                          refine t_ret ?_
                          refine i_block_ret ?_
                          refine i_then_ret ?_
                          refine i_then_ret ?_
                          refine i_block_ret ?_
                          refine i_block_ret ?_
                          refine i_then_ret ?_
                          refine i_then_ret ?_
                          refine i_block_ret ?_
                          refine i_then_ret ?_
                          refine i_rp1 rfl rfl ?_
                          all_goals skip
                          exact ret_eq rfl rfl (congrArg (Ty.int .i64) (by rw [checkR, if_neg (ng (show manyR b = false from hc1)), if_neg (ng (any_neg k1.2 (by omega))), if_neg (ng (any_neg k2.2 (by omega))), if_neg (ng (any_neg k3.2 (by omega))), if_pos (rng_at (k := k4.1) (by omega) (rng_at (q := fun m => twiceR b k4.1 m) (k := k5.1) (by omega) hc10))]))
                        ·
                          refine t_skip ?_
                          refine i_block ?_
                          refine i_then ?_
                          refine t_region ?_
                          refine mvI rfl ?_
                          refine r_add rfl rfl (by omega) (by omega) ?_
                          refine asI rfl ?_
                          refine r_nil ?_
                          refine i_round (⟨k5.1 + 1, rng_ext k5.2 hc10⟩) ?_ (by show b.lots.length - (k5.1 + 1) < b.lots.length - k5.1; omega)
                          (refine Ent.mk' ?_ ?_ <;> (repeat' (first | exact allSub_zero | exact allTags_nil | refine allSub_succ' ?_ (Ty.sub_any _) | refine allSub_succ' ?_ (Ty.sub_refl _))))
                          all_goals skip
                      ·
                        refine t_exit ?_
                        refine i_then_exit ?_
                        refine i_then_exit ?_
                        refine i_block_exit rfl ?_
                        refine i_block ?_
                        refine i_then ?_
                        refine t_region ?_
                        refine mvI rfl ?_
                        refine r_add rfl rfl (by omega) (by omega) ?_
                        refine asI rfl ?_
                        refine r_nil ?_
                        refine i_round (⟨k4.1 + 1, rng_ext k4.2 (rng_neg k5.2 (by omega))⟩) ?_ (by show b.lots.length - (k4.1 + 1) < b.lots.length - k4.1; omega)
                        (refine Ent.mk' ?_ ?_ <;> (repeat' (first | exact allSub_zero | exact allTags_nil | refine allSub_succ' ?_ (Ty.sub_any _) | refine allSub_succ' ?_ (Ty.sub_refl _))))
                        all_goals skip
                  ·
                    refine t_exit ?_
                    refine i_then_exit ?_
                    refine i_then_exit ?_
                    refine i_block_exit rfl ?_
                    refine i_then ?_
                    refine t_seq ?_
                    refine t_seq ?_
                    refine t_region ?_
                    refine asI rfl ?_
                    refine r_nil ?_
                    refine i_then ?_
                    refine t_block ?_
                    refine t_loop (fun (k6 : {k : Nat // ∀ l ∈ b.lots.take k, fullR b l = false}) => live [(1, Ty.pp (barnTys b)), (8, Ty.int .i64 (k6.1 : Nat))] []) (fun k6 => b.lots.length - k6.1) (⟨0, by simp⟩) ?_ fun k6 => ?_
                    · (refine Ent.mk' ?_ ?_ <;> (repeat' (first | exact allSub_zero | exact allTags_nil | refine allSub_succ' ?_ (Ty.sub_any _) | refine allSub_succ' ?_ (Ty.sub_refl _))))
                    ·
                      refine t_seq ?_
                      refine t_seq ?_
                      refine t_region ?_
                      refine mvI rfl ?_
                      refine r_field_pp rfl rfl rfl rfl rfl (by decide) ?_
                      refine r_load_pp rfl rfl rfl rfl ?_
                      refine r_len rfl rfl rfl ?_
                      refine r_bin rfl rfl rfl ?_
                      refine r_nil ?_
                      refine i_then ?_
                      refine t_cond_dec rfl (fun hc11 => ?_) (fun hc11 => ?_)
                      ·
                        refine t_skip ?_
                        refine i_then ?_
                        refine t_seq ?_
                        refine t_block ?_
                        refine t_seq ?_
                        refine t_region ?_
                        refine r_field_pp rfl rfl rfl rfl rfl (by decide) ?_
                        refine r_load_pp rfl rfl rfl rfl ?_
                        refine mvI rfl ?_
                        refine r_index_slN rfl rfl rfl rfl rfl rfl (by omega) ?_
                        refine r_load_ppN rfl rfl rfl (by exact Nat.le_of_ble_eq_true rfl) ?_
                        refine r_alloc rfl (by exact List.cons_ne_nil _ _) rfl ?_
                        refine r_storeN rfl rfl (by decide) rfl rfl rfl rfl rfl rfl ?_
                        refine r_nil ?_
                        refine i_then ?_
                        refine t_seq ?_
                        have hn3 := rnamed (any_none (any_neg k3.2 (by omega)) (nth_mem (xs := b.lots) (k := k6.1) (by omega)))
                        refine t_draw mixed rfl ?_
                        refine r_field_pp rfl rfl rfl rfl rfl (by decide) ?_
                        refine r_load_pp rfl rfl rfl rfl ?_
                        refine r_field_ptr rfl rfl rfl rfl rfl (by decide) ?_
                        refine r_load_ptr rfl rfl (by decide) rfl rfl rfl ?_
                        refine r_index_sl rfl rfl rfl rfl rfl rfl (by omega) (by omega) ?_
                        refine r_load_pp rfl rfl rfl rfl ?_
                        refine r_field_ptr rfl rfl rfl rfl rfl (by decide) ?_
                        refine r_load_ptr rfl rfl (by decide) rfl rfl rfl ?_
                        refine r_bin rfl rfl rfl ?_
                        refine mvB rfl ?_
                        apply r_guard (s := 155) rfl rfl rfl
                        · intro hg; apply opT_of; (refine r_field_ptr rfl rfl rfl rfl rfl (by decide) ?_); refine r_nil ?_; exact rfl
                        · exact rfl
                        · exact rfl
                        apply r_guard (s := 155) rfl rfl rfl
                        · intro hg; apply opT_strip (s := 156) rfl (by (rw [hg]; rfl)); apply opT_of; (refine r_load_ptr rfl rfl (by decide) rfl rfl rfl ?_); refine r_nil ?_; exact rfl
                        · exact rfl
                        · exact rfl
                        apply r_guard (s := 155) rfl rfl rfl
                        · intro hg; apply opT_strip (s := 157) rfl (by (rw [hg]; rfl)); apply opT_of; (refine r_bin rfl rfl rfl ?_); refine r_nil ?_; exact rfl
                        · exact rfl
                        · exact rfl
                        apply r_guard (s := 155) rfl rfl rfl
                        · intro hg; apply opT_strip (s := 158) rfl (by (rw [hg]; rfl)); apply opT_of; (refine mvB rfl ?_); refine r_nil ?_; exact rfl
                        · exact rfl
                        · exact rfl
                        apply r_guardG (s := 159) rfl rfl rfl
                        · intro hg1 hg2; apply opT_of; (refine r_field_pp rfl rfl rfl rfl rfl (by decide) ?_); refine r_nil ?_; exact rfl
                        · exact rfl
                        · exact rfl
                        apply r_guardG (s := 159) rfl rfl rfl
                        · intro hg1 hg2; apply opT_strip (s := 160) rfl (by (rw [hg1, hg2]; rfl)); apply opT_of; (refine r_load_pp rfl rfl rfl rfl ?_); refine r_nil ?_; exact rfl
                        · exact rfl
                        · exact rfl
                        apply r_guardG (s := 159) rfl rfl rfl
                        · intro hg1 hg2; apply opT_of; (refine r_field_ptr rfl rfl rfl rfl rfl (by decide) ?_); refine r_nil ?_; exact rfl
                        · exact rfl
                        · exact rfl
                        apply r_guardG (s := 159) rfl rfl rfl
                        · intro hg1 hg2; apply opT_strip (s := 162) rfl (by (rw [hg1, hg2]; rfl)); apply opT_of; (refine r_load_ptr rfl rfl (by decide) rfl rfl rfl ?_); refine r_nil ?_; exact rfl
                        · exact rfl
                        · exact rfl
                        apply r_guardG (s := 159) rfl rfl rfl
                        · intro hg1 hg2; apply opT_strip (s := 161) rfl (by (rw [hg1, hg2]; rfl)); apply opT_strip (s := 163) rfl (by (rw [hg1, hg2]; rfl)); apply opT_of; (refine r_index_sl rfl rfl rfl rfl rfl rfl (by have := of_decide_eq_true hg2; omega) (by have := of_decide_eq_true hg2; omega) ?_); refine r_nil ?_; exact rfl
                        · exact rfl
                        · exact rfl
                        apply r_guardG (s := 159) rfl rfl rfl
                        · intro hg1 hg2; apply opT_strip (s := 164) rfl (by (rw [hg1, hg2]; rfl)); apply opT_of; (refine r_load_pp rfl rfl rfl rfl ?_); refine r_nil ?_; exact rfl
                        · exact rfl
                        · exact rfl
                        apply r_guardG (s := 159) rfl rfl rfl
                        · intro hg1 hg2; apply opT_of; (refine r_field_ptr rfl rfl rfl rfl rfl (by decide) ?_); refine r_nil ?_; exact rfl
                        · exact rfl
                        · exact rfl
                        apply r_guardG (s := 159) rfl rfl rfl
                        · intro hg1 hg2; apply opT_strip (s := 166) rfl (by (rw [hg1, hg2]; rfl)); apply opT_of; (refine r_load_ptr rfl rfl (by decide) rfl rfl rfl ?_); refine r_nil ?_; exact rfl
                        · exact rfl
                        · exact rfl
                        apply r_guardG (s := 159) rfl rfl rfl
                        · intro hg1 hg2; apply opT_strip (s := 165) rfl (by (rw [hg1, hg2]; rfl)); apply opT_strip (s := 167) rfl (by (rw [hg1, hg2]; rfl)); apply opT_of; (refine r_bin rfl rfl rfl ?_); refine r_nil ?_; exact rfl
                        · exact rfl
                        · exact rfl
                        apply r_guard (s := 155) rfl rfl rfl
                        · intro hg; apply opT_strip (s := 159) rfl (by (rw [hg]; rfl)); apply opT_stripG (s := 168) rfl (by (rw [hg]; rfl)); apply opT_of; (refine r_and rfl rfl ?_); refine r_nil ?_; exact rfl
                        · exact rfl
                        · exact rfl
                        refine r_or rfl rfl ?_
                        refine r_nil ?_
                        refine ⟨by kernel_rfl, ?_⟩
                        refine i_then ?_
                        refine t_cond rfl (fun hc12 => ?_) (fun hc12 => ?_)
                        ·
                          refine t_seq ?_
                          refine t_region ?_
                          refine asI rfl ?_
                          refine r_nil ?_
                          refine i_then ?_
                          refine t_ret ?_
                          refine i_block_ret ?_
                          refine i_then_ret ?_
                          refine i_then_ret ?_
                          refine i_block_ret ?_
                          refine i_then_ret ?_
                          refine i_rp1 rfl rfl ?_
                          all_goals skip
                          exact ret_eq rfl rfl (congrArg (Ty.int .i64) (by rw [checkR, if_neg (ng (show manyR b = false from hc1)), if_neg (ng (any_neg k1.2 (by omega))), if_neg (ng (any_neg k2.2 (by omega))), if_neg (ng (any_neg k3.2 (by omega))), if_neg (ng (rng_neg k4.2 (by omega))), if_pos (any_at (q := fullR b) (k := k6.1) (by omega) hc12)]))
                        ·
                          refine t_skip ?_
                          refine i_block ?_
                          refine i_then ?_
                          refine t_region ?_
                          refine mvI rfl ?_
                          refine r_add rfl rfl (by omega) (by omega) ?_
                          refine asI rfl ?_
                          refine r_nil ?_
                          refine i_round (⟨k6.1 + 1, ext_false k6.2 (by omega) hc12⟩) ?_ (by show b.lots.length - (k6.1 + 1) < b.lots.length - k6.1; omega)
                          (refine Ent.mk' ?_ ?_ <;> (repeat' (first | exact allSub_zero | exact allTags_nil | refine allSub_succ' ?_ (Ty.sub_any _) | refine allSub_succ' ?_ (Ty.sub_refl _))))
                          all_goals skip
                      ·
                        refine t_exit ?_
                        refine i_then_exit ?_
                        refine i_then_exit ?_
                        refine i_block_exit rfl ?_
                        refine i_then ?_
                        refine t_seq ?_
                        refine t_region ?_
                        refine asI rfl ?_
                        refine r_nil ?_
                        refine i_then ?_
                        refine t_ret ?_
                        refine i_rp1 rfl rfl ?_
                        all_goals skip
                        exact ret_eq rfl rfl (congrArg (Ty.int .i64) (by rw [checkR, if_neg (ng (show manyR b = false from hc1)), if_neg (ng (any_neg k1.2 (by omega))), if_neg (ng (any_neg k2.2 (by omega))), if_neg (ng (any_neg k3.2 (by omega))), if_neg (ng (rng_neg k4.2 (by omega))), if_neg (ng (any_neg k6.2 (by omega)))]))
end Go.Proofs.YtpnndljmhpepgaaGreat

namespace Go.Proofs.YtpnndljmhpepgaaGreat
open Go Go.T
set_option maxHeartbeats 4000000
attribute [local irreducible] dInt dBool dSl dPp dPtr dAgg dTup dClo dAny dEx dStr dGd dCells dVec dVs dRow dOp nth Tri Into TOps Ctr bodyPost Exit.then Exit.inBlock Code.wp Code.wpIn dWhen dPa dPe dAo dArr dMp dPm dMap dCJ CtrG CtrI OpY keepPost iterPost bodyPostM roundQ
set_option maxRecDepth 100000 in
theorem c_Index_int (l : List Int) (x : Int) : Ctr Tryz.prog 124 [Ty.sl I64 l, Ty.int .i64 x] (Ty.int .i64 (fidx (fun y => decide (x = y)) l)) := by
  refine fn_intro Tryz.func124 rfl (by decide) Tryz.ntmps124 (by exact Nat.le_of_ble_eq_true rfl) fun w0 M0 => ?_
  refine t_fact (s := 0) rfl rfl sl_len fun hl => ?_
  refine t_seq ?_
  refine t_region ?_
  refine asI rfl ?_
  refine r_nil ?_
  refine i_then ?_
  refine t_seq ?_
  refine t_seq ?_
  refine t_region ?_
  refine mvS rfl ?_
  refine r_len rfl rfl rfl ?_
  refine mvI rfl ?_
  refine r_nil ?_
  refine i_then ?_
  refine t_block ?_
  refine t_loop (fun (k : {k : Nat // ∀ y ∈ l.take k, decide (x = y) = false}) => live [(0, Ty.sl I64 l), (1, Ty.int .i64 x), (7, Ty.int .i64 l.length), (8, Ty.int .i64 (k.1 : Nat))] []) (fun k => l.length - k.1) (⟨0, by simp⟩) ?_ fun k => ?_
  · (refine Ent.mk' ?_ ?_ <;> (repeat' (first | exact allSub_zero | exact allTags_nil | refine allSub_succ' ?_ (Ty.sub_any _) | refine allSub_succ' ?_ (Ty.sub_refl _))))
  ·
    refine t_seq ?_
    refine t_region ?_
    refine r_bin rfl rfl rfl ?_
    refine r_nil ?_
    refine i_then ?_
    refine t_seq ?_
    refine t_cond_dec rfl (fun hc1 => ?_) (fun hc1 => ?_)
    ·
      refine t_skip ?_
      refine i_then ?_
      refine t_seq ?_
      refine t_block ?_
      refine t_seq ?_
      refine t_region ?_
      refine mvI rfl ?_
      refine asI rfl ?_
      refine r_nil ?_
      refine i_then ?_
      refine t_seq ?_
      refine t_region ?_
      refine mvI rfl ?_
      refine mvS rfl ?_
      refine mvI rfl ?_
      refine r_index_slN rfl rfl rfl rfl rfl rfl (by omega) ?_
      refine r_load_pp rfl rfl rfl rfl ?_
      refine r_bin rfl rfl rfl ?_
      refine r_nil ?_
      refine i_then ?_
      refine t_cond_dec rfl (fun hc2 => ?_) (fun hc2 => ?_)
      ·
        refine t_seq ?_
        refine t_region ?_
        refine mvI rfl ?_
        refine asI rfl ?_
        refine r_nil ?_
        refine i_then ?_
        refine t_ret ?_
        refine i_block_ret ?_
        refine i_then_ret ?_
        refine i_then_ret ?_
        refine i_block_ret ?_
        refine i_then_ret ?_
        refine i_rp1 rfl rfl ?_
        all_goals skip
        exact ret_eq rfl rfl (congrArg (Ty.int .i64) (by rw [fidx_found (k := k.1) (by omega) k.2 (by rw [← nth_lt]; exact decide_eq_true hc2)]))
      ·
        refine t_skip ?_
        refine i_block ?_
        refine i_then ?_
        refine t_region ?_
        refine r_add rfl rfl (by omega) (by omega) ?_
        refine mvI rfl ?_
        refine r_nil ?_
        refine i_round (⟨k.1 + 1, by rw [take_nth (by omega)]; intro y hy; rcases List.mem_append.1 hy with h | h; exact k.2 y h; rw [List.mem_singleton.1 h]; exact decide_eq_false hc2⟩) ?_ (by show l.length - (k.1 + 1) < l.length - k.1; omega)
        (refine Ent.mk' ?_ ?_ <;> (repeat' (first | exact allSub_zero | exact allTags_nil | refine allSub_succ' ?_ (Ty.sub_any _) | refine allSub_succ' ?_ (Ty.sub_refl _))))
        all_goals skip
    ·
      refine t_exit ?_
      refine i_then_exit ?_
      refine i_then_exit ?_
      refine i_block_exit rfl ?_
      refine i_then ?_
      refine t_seq ?_
      refine t_region ?_
      refine asI rfl ?_
      refine r_nil ?_
      refine i_then ?_
      refine t_ret ?_
      refine i_rp1 rfl rfl ?_
      all_goals skip
      exact ret_eq rfl rfl (congrArg (Ty.int .i64) (by rw [fidx_none (by have := k.2; rwa [List.take_of_length_le (by omega)] at this)]))
set_option maxRecDepth 100000 in
theorem c_Contains_int (l : List Int) (x : Int) : Ctr Tryz.prog 87 [Ty.sl I64 l, Ty.int .i64 x] (Ty.bool (decide (x ∈ l))) := by
  refine fn_intro Tryz.func87 rfl (by decide) Tryz.ntmps87 (by exact Nat.le_of_ble_eq_true rfl) fun w0 M0 => ?_
  refine t_seq ?_
  refine t_region ?_
  refine asB rfl ?_
  refine r_nil ?_
  refine i_then ?_
  refine t_seq ?_
  refine t_region ?_
  refine mvS rfl ?_
  refine mvI rfl ?_
  refine r_call (c_Index_int l x) rfl rfl rfl rfl rfl ?_
  refine r_bin rfl rfl rfl ?_
  refine asB rfl ?_
  refine r_nil ?_
  refine i_then ?_
  refine t_ret ?_
  refine i_rp1 rfl rfl ?_
  all_goals skip
  exact ret_eq rfl rfl (congrArg Ty.bool (contains_idx l x))
set_option maxRecDepth 100000 in
theorem c_Shows (b : Barn) (hs : b.Small) (rings : List (List Int)) (hn : rings.length ≤ 1000) (hfl : rings.flatten.length ≤ 1000000) : Ctr Tryz.prog 32 [barnT b, Ty.sl RowE rings] (Ty.tup [Ty.int .i64 (showV b rings).1, Ty.int .i64 (showV b rings).2]) := by
  refine fn_intro Tryz.func32 rfl (by decide) Tryz.ntmps32 (by exact Nat.le_of_ble_eq_true rfl) fun w0 M0 => ?_
  refine t_seq ?_
  refine t_region ?_
  refine r_box_agg rfl ?_
  refine asI rfl ?_
  refine asI rfl ?_
  refine r_nil ?_
  refine i_then ?_
  refine t_seq ?_
  refine t_seq ?_
  refine t_region ?_
  refine r_load_ppN rfl rfl rfl (by exact Nat.le_of_ble_eq_true rfl) ?_
  refine r_call (c_Check b hs) rfl rfl rfl rfl rfl ?_
  refine asI rfl ?_
  refine r_nil ?_
  refine i_then ?_
  refine t_seq ?_
  refine t_region ?_
  refine mvI rfl ?_
  refine r_bin rfl rfl rfl ?_
  refine r_nil ?_
  refine i_then ?_
  refine t_cond_ndec rfl (fun hc1 => ?_) (fun hc1 => ?_)
  ·
    refine t_seq ?_
    refine t_region ?_
    refine mvI rfl ?_
    refine asI rfl ?_
    refine asI rfl ?_
    refine r_nil ?_
    refine i_then ?_
    refine t_ret ?_
    refine i_then_ret ?_
    refine i_rp2 rfl rfl rfl ?_ ?_
    all_goals skip
    all_goals first | exact ret_eq rfl rfl (congrArg (fun z : Int × Int => Ty.int .i64 z.1) (showV_bad hc1).symm) | exact ret_eq rfl rfl (congrArg (fun z : Int × Int => Ty.int .i64 z.2) (showV_bad hc1).symm)
  ·
    refine t_skip ?_
    refine i_then ?_
    refine t_seq ?_
    refine t_region ?_
    refine mvS rfl ?_
    refine r_call (c_Concat_int rings (by omega)) rfl rfl rfl rfl rfl ?_
    refine asS rfl ?_
    refine r_nil ?_
    refine i_then ?_
    refine t_seq ?_
    refine t_seq ?_
    refine t_region ?_
    refine mvS rfl ?_
    refine r_load_ppN rfl rfl rfl (by exact Nat.le_of_ble_eq_true rfl) ?_
    refine r_makeMth rfl ?_
    refine r_call (c_every_int rings.flatten (Ty.mth 86 [barnT b]) rfl (fun n => b.lot n) rfl rfl fun x _ => cal_mth (c_lot b hs x) rfl rfl rfl rfl rfl rfl) rfl rfl rfl rfl rfl ?_
    refine r_not rfl ?_
    refine r_nil ?_
    refine i_then ?_
    refine t_cond rfl (fun hc2 => ?_) (fun hc2 => ?_)
    ·
      refine t_seq ?_
      refine t_region ?_
      refine asI rfl ?_
      refine asI rfl ?_
      refine r_nil ?_
      refine i_then ?_
      refine t_ret ?_
      refine i_then_ret ?_
      refine i_rp2 rfl rfl rfl ?_ ?_
      all_goals skip
      all_goals first | exact ret_eq rfl rfl (congrArg (fun z : Int × Int => Ty.int .i64 z.1) (showV_good hc1 (shows_not (every_off _ hc2))).symm) | exact ret_eq rfl rfl (congrArg (fun z : Int × Int => Ty.int .i64 z.2) (showV_good hc1 (shows_not (every_off _ hc2))).symm)
    ·
      refine t_skip ?_
      refine i_then ?_
      refine t_seq ?_
      refine t_seq ?_
      have hoff : offAny b rings = false := every_off _ hc2
      refine t_region ?_
      refine mvS rfl ?_
      refine r_len rfl rfl rfl ?_
      refine mvI rfl ?_
      refine r_nil ?_
      refine i_then ?_
      refine t_block ?_
      refine t_loop (fun (k : {k : Nat // ∀ i, i < k → decide (nth rings.flatten i ∈ rings.flatten.take i) = false}) => live [(1, Ty.sl RowE rings), (2, Ty.pp (barnTys b)), (7, Ty.sl I64 rings.flatten), (26, Ty.sl I64 rings.flatten), (27, Ty.int .i64 rings.flatten.length), (28, Ty.int .i64 (k.1 : Nat))] []) (fun k => rings.flatten.length - k.1) (⟨0, fun i hi => absurd hi (Nat.not_lt_zero i)⟩) ?_ fun k => ?_
      · (refine Ent.mk' ?_ ?_ <;> (repeat' (first | exact allSub_zero | exact allTags_nil | refine allSub_succ' ?_ (Ty.sub_any _) | refine allSub_succ' ?_ (Ty.sub_refl _))))
      ·
        refine t_seq ?_
        refine t_region ?_
        refine r_bin rfl rfl rfl ?_
        refine r_nil ?_
        refine i_then ?_
        refine t_seq ?_
        refine t_cond_dec rfl (fun hc3 => ?_) (fun hc3 => ?_)
        ·
          refine t_skip ?_
          refine i_then ?_
          refine t_seq ?_
          refine t_block ?_
          refine t_seq ?_
          refine t_region ?_
          refine mvI rfl ?_
          refine r_index_slN rfl rfl rfl rfl rfl rfl (by omega) ?_
          refine r_load_pp rfl rfl rfl rfl ?_
          refine asI rfl ?_
          refine asI rfl ?_
          refine r_nil ?_
          refine i_then ?_
          refine t_seq ?_
          refine t_region ?_
          refine mvS rfl ?_
          refine mvI rfl ?_
          refine r_cut_hi rfl rfl rfl rfl rfl rfl (by omega) ?_
          refine mvI rfl ?_
          refine r_call (c_Contains_int _ _) rfl rfl rfl rfl rfl ?_
          refine r_nil ?_
          refine i_then ?_
          refine t_cond_dec rfl (fun hc4 => ?_) (fun hc4 => ?_)
          ·
            refine t_seq ?_
            refine t_region ?_
            refine asI rfl ?_
            refine asI rfl ?_
            refine r_nil ?_
            refine i_then ?_
            refine t_ret ?_
            refine i_block_ret ?_
            refine i_then_ret ?_
            refine i_then_ret ?_
            refine i_block_ret ?_
            refine i_then_ret ?_
            refine i_rp2 rfl rfl rfl ?_ ?_
            all_goals skip
            all_goals first | exact ret_eq rfl rfl (congrArg (fun z : Int × Int => Ty.int .i64 z.1) (showV_good hc1 (shows_twice hoff (rng_at (by omega) (decide_eq_true hc4)))).symm) | exact ret_eq rfl rfl (congrArg (fun z : Int × Int => Ty.int .i64 z.2) (showV_good hc1 (shows_twice hoff (rng_at (k := k.1) (by omega) (decide_eq_true hc4)))).symm)
          ·
            refine t_skip ?_
            refine i_block ?_
            refine i_then ?_
            refine t_region ?_
            refine r_add rfl rfl (by omega) (by omega) ?_
            refine mvI rfl ?_
            refine r_nil ?_
            refine i_round (⟨k.1 + 1, rng_ext k.2 (decide_eq_false hc4)⟩) ?_ (by show rings.flatten.length - (k.1 + 1) < rings.flatten.length - k.1; omega)
            (refine Ent.mk' ?_ ?_ <;> (repeat' (first | exact allSub_zero | exact allTags_nil | refine allSub_succ' ?_ (Ty.sub_any _) | refine allSub_succ' ?_ (Ty.sub_refl _))))
            all_goals skip
        ·
          refine t_exit ?_
          refine i_then_exit ?_
          refine i_then_exit ?_
          refine i_block_exit rfl ?_
          refine i_then ?_
          refine t_seq ?_
          refine t_seq ?_
          have htw : twiceL rings.flatten = false := rng_neg k.2 (by omega)
          refine t_region ?_
          refine mvS rfl ?_
          refine r_len rfl rfl rfl ?_
          refine mvI rfl ?_
          refine r_nil ?_
          refine i_then ?_
          refine t_block ?_
          refine t_loop (fun (m : {m : Nat // ∀ l ∈ rings.take m, (!ringB b l) = false}) => live [(1, Ty.sl RowE rings), (2, Ty.pp (barnTys b)), (39, Ty.sl RowE rings), (40, Ty.int .i64 rings.length), (41, Ty.int .i64 (m.1 : Nat))] []) (fun m => rings.length - m.1) (⟨0, by simp⟩) ?_ fun m => ?_
          · (refine Ent.mk' ?_ ?_ <;> (repeat' (first | exact allSub_zero | exact allTags_nil | refine allSub_succ' ?_ (Ty.sub_any _) | refine allSub_succ' ?_ (Ty.sub_refl _))))
          ·
            refine t_seq ?_
            refine t_region ?_
            refine r_bin rfl rfl rfl ?_
            refine r_nil ?_
            refine i_then ?_
            refine t_seq ?_
            refine t_cond_dec rfl (fun hc5 => ?_) (fun hc5 => ?_)
            ·
              refine t_skip ?_
              refine i_then ?_
              refine t_seq ?_
              refine t_block ?_
              refine t_seq ?_
              refine t_region ?_
              refine r_index_slN rfl rfl rfl rfl rfl rfl (by omega) ?_
              refine r_load_pp rfl rfl rfl rfl ?_
              refine asS rfl ?_
              refine r_nil ?_
              refine i_then ?_
              refine t_seq ?_
              refine t_seq ?_
              refine t_region ?_
              refine mvS rfl ?_
              refine r_len rfl rfl rfl ?_
              refine r_bin rfl rfl rfl ?_
              refine r_nil ?_
              refine i_then ?_
              refine t_cond_dec rfl (fun hc6 => ?_) (fun hc6 => ?_)
              ·
                refine t_seq ?_
                refine t_region ?_
                refine asI rfl ?_
                refine asI rfl ?_
                refine r_nil ?_
                refine i_then ?_
                refine t_ret ?_
                refine i_then_ret ?_
                refine i_block_ret ?_
                refine i_then_ret ?_
                refine i_then_ret ?_
                refine i_block_ret ?_
                refine i_then_ret ?_
                refine i_rp2 rfl rfl rfl ?_ ?_
                all_goals skip
                all_goals first | exact ret_eq rfl rfl (congrArg (fun z : Int × Int => Ty.int .i64 z.1) (showV_good hc1 (shows_wrong hoff htw (wrong_at (m := m.1) (by omega) (ringB_short (by omega))))).symm) | exact ret_eq rfl rfl (congrArg (fun z : Int × Int => Ty.int .i64 z.2) (showV_good hc1 (shows_wrong hoff htw (wrong_at (m := m.1) (by omega) (ringB_short (by omega))))).symm)
              ·
                refine t_skip ?_
                refine i_then ?_
                refine t_seq ?_
                refine t_region ?_
                refine mvS rfl ?_
                refine r_len rfl rfl rfl ?_
                refine mvI rfl ?_
                refine r_nil ?_
                refine i_then ?_
                refine t_block ?_
                refine t_loop (fun (i : {i : Nat // ∀ j, j < i → ringAt b (nth rings m.1) j = true}) => live [(1, Ty.sl RowE rings), (2, Ty.pp (barnTys b)), (11, Ty.sl I64 (nth rings m.1)), (39, Ty.sl RowE rings), (40, Ty.int .i64 rings.length), (41, Ty.int .i64 (m.1 : Nat)), (48, Ty.sl I64 (nth rings m.1)), (49, Ty.int .i64 (nth rings m.1).length), (50, Ty.int .i64 (i.1 : Nat))] []) (fun i => (nth rings m.1).length - i.1) (⟨0, fun i hi => absurd hi (Nat.not_lt_zero i)⟩) ?_ fun i => ?_
                · (refine Ent.mk' ?_ ?_ <;> (repeat' (first | exact allSub_zero | exact allTags_nil | refine allSub_succ' ?_ (Ty.sub_any _) | refine allSub_succ' ?_ (Ty.sub_refl _))))
                ·
                  refine t_seq ?_
                  refine t_region ?_
                  refine r_bin rfl rfl rfl ?_
                  refine r_nil ?_
                  refine i_then ?_
                  refine t_seq ?_
                  refine t_cond_dec rfl (fun hc7 => ?_) (fun hc7 => ?_)
                  ·
                    refine t_skip ?_
                    refine i_then ?_
                    refine t_seq ?_
                    refine t_block ?_
                    refine t_seq ?_
                    refine t_region ?_
                    refine mvI rfl ?_
                    refine r_index_slN rfl rfl rfl rfl rfl rfl (by omega) ?_
                    refine r_load_pp rfl rfl rfl rfl ?_
                    refine asI rfl ?_
                    refine asI rfl ?_
                    refine r_nil ?_
                    refine i_then ?_
                    refine t_seq ?_
                    have hri := not_off hoff (m := m.1) (i := i.1) (by omega) (by omega)
                    have hrl := row_flat (rings := rings) (m := m.1) (by omega)
                    refine t_draw mixed rfl ?_
                    refine r_load_ppN rfl rfl rfl (by exact Nat.le_of_ble_eq_true rfl) ?_
                    refine mvI rfl ?_
                    refine r_call (c_follows b (nth (nth rings m.1) i.1) hri) rfl rfl rfl rfl rfl ?_
                    refine mvS rfl ?_
                    refine mvI rfl ?_
                    refine r_add rfl rfl (by omega) (by omega) ?_
                    refine mvS rfl ?_
                    refine r_len rfl rfl rfl ?_
                    refine r_remN (k := i.1) rfl rfl (by omega) ?_
                    refine r_index_sl rfl rfl rfl rfl rfl rfl (by omega) (by have := Nat.mod_lt (i.1 + 1) (show 0 < (nth rings m.1).length by omega); omega) ?_
                    refine r_load_pp rfl rfl rfl rfl ?_
                    refine r_bin rfl rfl rfl ?_
                    refine r_nil ?_
                    refine ⟨by kernel_rfl, ?_⟩
                    refine i_then ?_
                    refine t_cond_ndec rfl (fun hc8 => ?_) (fun hc8 => ?_)
                    ·
                      refine t_seq ?_
                      refine t_region ?_
                      refine asI rfl ?_
                      refine asI rfl ?_
                      refine r_nil ?_
                      refine i_then ?_
                      refine t_ret ?_
                      refine i_block_ret ?_
                      refine i_then_ret ?_
                      refine i_then_ret ?_
                      refine i_block_ret ?_
                      refine i_block_ret ?_
                      refine i_then_ret ?_
                      refine i_then_ret ?_
                      refine i_block_ret ?_
                      refine i_then_ret ?_
                      refine i_rp2 rfl rfl rfl ?_ ?_
                      all_goals skip
                      all_goals first | exact ret_eq rfl rfl (congrArg (fun z : Int × Int => Ty.int .i64 z.1) (showV_good hc1 (shows_wrong hoff htw (wrong_at (m := m.1) (by omega) (ringB_false (k := i.1) (by omega) (decide_eq_false hc8))))).symm) | exact ret_eq rfl rfl (congrArg (fun z : Int × Int => Ty.int .i64 z.2) (showV_good hc1 (shows_wrong hoff htw (wrong_at (m := m.1) (by omega) (ringB_false (k := i.1) (by omega) (decide_eq_false hc8))))).symm)
                    ·
                      refine t_skip ?_
                      refine i_block ?_
                      refine i_then ?_
                      refine t_region ?_
                      refine r_add rfl rfl (by omega) (by omega) ?_
                      refine mvI rfl ?_
                      refine r_nil ?_
                      refine i_round (⟨i.1 + 1, lt_ext i.2 (decide_eq_true hc8)⟩) ?_ (by show (nth rings m.1).length - (i.1 + 1) < (nth rings m.1).length - i.1; omega)
                      (refine Ent.mk' ?_ ?_ <;> (repeat' (first | exact allSub_zero | exact allTags_nil | refine allSub_succ' ?_ (Ty.sub_any _) | refine allSub_succ' ?_ (Ty.sub_refl _))))
                      all_goals skip
                  ·
                    refine t_exit ?_
                    refine i_then_exit ?_
                    refine i_then_exit ?_
                    refine i_block_exit rfl ?_
                    refine i_block ?_
                    refine i_then ?_
                    refine t_region ?_
                    refine r_add rfl rfl (by omega) (by omega) ?_
                    refine mvI rfl ?_
                    refine r_nil ?_
                    refine i_round (⟨m.1 + 1, wrong_ext (by omega) m.2 (by omega) (fun j hj => i.2 j (by omega))⟩) ?_ (by show rings.length - (m.1 + 1) < rings.length - m.1; omega)
                    (refine Ent.mk' ?_ ?_ <;> (repeat' (first | exact allSub_zero | exact allTags_nil | refine allSub_succ' ?_ (Ty.sub_any _) | refine allSub_succ' ?_ (Ty.sub_refl _))))
                    all_goals skip
            ·
              refine t_exit ?_
              refine i_then_exit ?_
              refine i_then_exit ?_
              refine i_block_exit rfl ?_
              refine i_then ?_
              refine t_seq ?_
              have hwr : wrongL b rings = false := wrong_none (by omega) m.2
              have hml : (mustL b).length ≤ b.lots.length := filtUp_len _ _
              have hs1 := hs.lots
              refine t_region ?_
              refine r_load_ppN rfl rfl rfl (by exact Nat.le_of_ble_eq_true rfl) ?_
              refine r_call (c_must b hs) rfl rfl rfl rfl rfl ?_
              refine r_len rfl rfl rfl ?_
              refine mvS rfl ?_
              refine r_len rfl rfl rfl ?_
              refine r_add rfl rfl (by omega) (by omega) ?_
              refine asI rfl ?_
              refine asI rfl ?_
              refine r_nil ?_
              refine i_then ?_
              refine t_ret ?_
              refine i_rp2 rfl rfl rfl ?_ ?_
              all_goals skip
              all_goals first | exact ret_eq rfl rfl (congrArg (fun z : Int × Int => Ty.int .i64 z.1) (showV_good hc1 (shows_ok hoff htw hwr)).symm) | exact ret_eq rfl rfl (congrArg (fun z : Int × Int => Ty.int .i64 z.2) (showV_good hc1 (shows_ok hoff htw hwr)).symm)
end Go.Proofs.YtpnndljmhpepgaaGreat

namespace Go.Proofs.YtpnndljmhpepgaaGreat
open Go Go.T
def noB : Barn := ⟨[], []⟩
def lotsTo (b : Barn) (t : Tur) : List Lot := b.lots.set t.lot.toNat { nth b.lots t.lot.toNat with inn := t.aim }
def turnedB (b : Barn) (t : Tur) : Barn × Int :=
  if (!b.lot t.lot || !b.bin t.aim) = true then (noB, 1) else if b.free t.aim = false then (noB, 5) else if b.hold t.aim t.lot = false then (noB, 9) else (⟨b.sizes, lotsTo b t⟩, 0)
theorem turned_1 {b : Barn} {t : Tur} (h : (!b.lot t.lot || !b.bin t.aim) = true) : turnedB b t = (noB, 1) := if_pos h
theorem turned_5 {b : Barn} {t : Tur} (h : (!b.lot t.lot || !b.bin t.aim) = false) (h2 : b.free t.aim = false) : turnedB b t = (noB, 5) := by unfold turnedB; rw [if_neg (by rw [h]; decide), if_pos h2]
theorem turned_9 {b : Barn} {t : Tur} (h : (!b.lot t.lot || !b.bin t.aim) = false) (h2 : b.free t.aim = true) (h3 : b.hold t.aim t.lot = false) : turnedB b t = (noB, 9) := by unfold turnedB; rw [if_neg (by rw [h]; decide), if_neg (by rw [h2]; decide), if_pos h3]
theorem turned_0 {b : Barn} {t : Tur} (h : (!b.lot t.lot || !b.bin t.aim) = false) (h2 : b.free t.aim = true) (h3 : b.hold t.aim t.lot = true) : turnedB b t = (⟨b.sizes, lotsTo b t⟩, 0) := by unfold turnedB; rw [if_neg (by rw [h]; decide), if_neg (by rw [h2]; decide), if_neg (by rw [h3]; decide)]
theorem known_rng {b : Barn} {t : Tur} (h : (!b.lot t.lot || !b.bin t.aim) = false) : (0 ≤ t.lot ∧ t.lot < b.lots.length) ∧ 0 ≤ t.aim ∧ t.aim < b.sizes.length := by
  simp only [Bool.or_eq_false_iff, Bool.not_eq_false', Barn.lot, Barn.bin, inB_true] at h; omega
theorem turned_err {b : Barn} {t : Tur} : (turnedB b t).2 = 0 → (0 ≤ t.lot ∧ t.lot < b.lots.length) ∧ (0 ≤ t.aim ∧ t.aim < b.sizes.length) ∧ b.free t.aim = true ∧ b.hold t.aim t.lot = true ∧ (turnedB b t).1 = ⟨b.sizes, lotsTo b t⟩ := by
  intro h
  cases h1 : (!b.lot t.lot || !b.bin t.aim) with
  | true => rw [turned_1 h1] at h; cases h
  | false =>
    cases h2 : b.free t.aim with
    | false => rw [turned_5 h1 h2] at h; cases h
    | true =>
      cases h3 : b.hold t.aim t.lot with
      | false => rw [turned_9 h1 h2 h3] at h; cases h
      | true => have := known_rng h1; rw [turned_0 h1 h2 h3]; exact ⟨this.1, this.2, rfl, rfl, rfl⟩
def doneGo (cur : Barn) (back : List Tur) : List Tur → Barn × List Tur × Int
  | [] => (cur, back.reverse, 0)
  | t :: l => if (turnedB cur t).2 = 0 then doneGo (turnedB cur t).1 (back ++ [⟨t.lot, (nth cur.lots t.lot.toNat).inn⟩]) l else (noB, [], (turnedB cur t).2)
def doneV (b : Barn) (plan : List Tur) : Barn × List Tur × Int :=
  if checkB b = 0 then if (plan.length : Int) > 6000 then (noB, [], 2) else doneGo b [] plan else (noB, [], checkB b)
structure DIx (b : Barn) (plan : List Tur) (k : Nat) (cur : Barn) (back : List Tur) : Prop where
  same : doneGo b [] plan = doneGo cur back (plan.drop k)
  sizes : cur.sizes = b.sizes
  lots : cur.lots.length = b.lots.length
  len : back.length = k
  le : k ≤ plan.length
theorem dix0 (b : Barn) (plan : List Tur) : DIx b plan 0 b [] := ⟨by rw [List.drop_zero], rfl, rfl, rfl, Nat.zero_le _⟩
section
variable {b : Barn} {plan : List Tur} {k : Nat} {cur : Barn} {back : List Tur} (h : DIx b plan k cur back)
include h
theorem DIx.small (hs : b.Small) : cur.Small := ⟨by rw [h.sizes]; exact hs.sizes, by rw [h.lots]; exact hs.lots⟩
theorem DIx.stop (hk : k < plan.length) (he : ¬ (turnedB cur (nth plan k)).2 = 0) : doneGo b [] plan = (noB, [], (turnedB cur (nth plan k)).2) := by
  rw [h.same, drop_nth hk]; exact if_neg he
theorem DIx.next (hk : k < plan.length) (he : (turnedB cur (nth plan k)).2 = 0) : DIx b plan (k + 1) (turnedB cur (nth plan k)).1 (back ++ [⟨(nth plan k).lot, (nth cur.lots (nth plan k).lot.toNat).inn⟩]) := by
  obtain ⟨_, _, _, _, e⟩ := turned_err he
  refine ⟨?_, by rw [e]; exact h.sizes, by rw [e]; show (lotsTo _ _).length = _; unfold lotsTo; rw [List.length_set]; exact h.lots, by rw [List.length_append, h.len]; rfl, by omega⟩
  rw [h.same, drop_nth hk]; exact if_pos he
theorem DIx.end (hk : plan.length ≤ k) : doneGo b [] plan = (cur, back.reverse, 0) := by
  rw [h.same, List.drop_of_length_le hk]; rfl
end
theorem doneV_bad {b : Barn} {plan : List Tur} (h : ¬ checkB b = 0) : doneV b plan = (noB, [], checkB b) := if_neg h
theorem doneV_long {b : Barn} {plan : List Tur} (h : checkB b = 0) (h2 : (plan.length : Int) > 6000) : doneV b plan = (noB, [], 2) := (if_pos h).trans (if_pos h2)
theorem doneV_go {b : Barn} {plan : List Tur} (h : checkB b = 0) (h2 : ¬ (plan.length : Int) > 6000) {x : Barn × List Tur × Int} (e : doneGo b [] plan = x) : doneV b plan = x := (if_pos h).trans ((if_neg h2).trans e)
def rightB (b : Barn) : Bool := b.lots.all fun l => decide (l.aim = -1) || decide (l.aim = l.inn)
def makesB (b : Barn) (plan : List Tur) : Bool := decide ((doneV b plan).2.2 = 0) && rightB (doneV b plan).1
def sumUp (b : Barn) (plan : List Tur) (k : Nat) : Int := costL (sackC b) (plan.take k)
theorem sumUp_succ {b : Barn} {plan : List Tur} {k : Nat} (hk : k < plan.length) : sumUp b plan (k + 1) = sumUp b plan k + (nth b.lots (nth plan k).lot.toNat).sacks := by
  unfold sumUp; rw [take_nth hk, costL_append, costL_one]; rfl
end Go.Proofs.YtpnndljmhpepgaaGreat

namespace Go.Proofs.YtpnndljmhpepgaaGreat
open Go Go.T
set_option maxHeartbeats 4000000
theorem no_barn : (Ty.agg [Ty.ex (.slice none 0 0), Ty.ex (.slice none 0 0)]).Sub (barnT noB) := fun w M v ⟨cs, e, h⟩ => by
  obtain ⟨cs⟩ := cs
  match cs, h with
  | [_, _], ⟨h1, h2, _⟩ => exact ⟨_, e, Ty.nil_sl w M _ h1, Ty.nil_sl w M _ h2, trivial⟩
theorem ret_no {x : Barn} (h : x = noB) : RetSub (Ty.agg [Ty.ex (.slice none 0 0), Ty.ex (.slice none 0 0)]) (barnT x) := by subst h; exact ret_sub rfl rfl no_barn
attribute [local irreducible] dInt dBool dSl dPp dPtr dAgg dTup dClo dAny dEx dStr dGd dCells dVec dVs dRow dOp nth Tri Into TOps Ctr bodyPost Exit.then Exit.inBlock Code.wp Code.wpIn dWhen dPa dPe dAo dArr dMp dPm dMap dCJ CtrG CtrI OpY keepPost iterPost bodyPostM roundQ
set_option maxRecDepth 100000 in
theorem c_turned (b : Barn) (hs : b.Small) (t : Tur) : Ctr Tryz.prog 126 [barnT b, Ty.agg (TurE.tys t)] (Ty.tup [barnT (turnedB b t).1, Ty.int .i64 (turnedB b t).2]) := by
  refine fn_intro Tryz.func126 rfl (by decide) Tryz.ntmps126 (by exact Nat.le_of_ble_eq_true rfl) fun w0 M0 => ?_
  refine t_seq ?_
  refine t_region ?_
  refine r_box_agg rfl ?_
  refine r_box_agg rfl ?_
  refine r_alloc rfl (by exact List.cons_ne_nil _ _) rfl ?_
  refine asI rfl ?_
  refine r_nil ?_
  refine i_then ?_
  refine t_seq ?_
  refine t_block ?_
  refine t_seq ?_
  refine t_region ?_
  refine r_load_ppN rfl rfl rfl (by exact Nat.le_of_ble_eq_true rfl) ?_
  refine r_field_pp rfl rfl rfl rfl rfl (by decide) ?_
  refine r_load_pp rfl rfl rfl rfl ?_
  refine r_call (c_lot b hs _) rfl rfl rfl rfl rfl ?_
  refine r_not rfl ?_
  refine mvB rfl ?_
  apply r_guard (s := 13) rfl rfl rfl
  · intro hg; apply opT_of; (refine r_load_ppN rfl rfl rfl (by exact Nat.le_of_ble_eq_true rfl) ?_); refine r_nil ?_; exact rfl
  · exact rfl
  · exact rfl
  apply r_guard (s := 13) rfl rfl rfl
  · intro hg; apply opT_of; (refine r_field_pp rfl rfl rfl rfl rfl (by decide) ?_); refine r_nil ?_; exact rfl
  · exact rfl
  · exact rfl
  apply r_guard (s := 13) rfl rfl rfl
  · intro hg; apply opT_strip (s := 15) rfl (by (rw [hg]; rfl)); apply opT_of; (refine r_load_pp rfl rfl rfl rfl ?_); refine r_nil ?_; exact rfl
  · exact rfl
  · exact rfl
  apply r_guard (s := 13) rfl rfl rfl
  · intro hg; apply opT_strip (s := 14) rfl (by (rw [hg]; rfl)); apply opT_strip (s := 16) rfl (by (rw [hg]; rfl)); apply opT_of; (refine r_call (c_bin b hs _) rfl rfl rfl rfl rfl ?_); refine r_nil ?_; exact rfl
  · exact rfl
  · exact rfl
  apply r_guard (s := 13) rfl rfl rfl
  · intro hg; apply opT_strip (s := 17) rfl (by (rw [hg]; rfl)); apply opT_of; (refine r_not rfl ?_); refine r_nil ?_; exact rfl
  · exact rfl
  · exact rfl
  refine r_or rfl rfl ?_
  refine asB rfl ?_
  refine r_nil ?_
  refine i_then ?_
  refine t_cond rfl (fun hc1 => ?_) (fun hc1 => ?_)
  ·
    refine t_seq ?_
    refine t_region ?_
    refine r_build rfl rfl (by exact List.cons_ne_nil _ _) rfl (by repeat (exact (Parts.nil : Parts _ _ [] _))) (by exact (rfl : _ = some [_, _])) ?_
    refine r_storeN rfl rfl (by decide) rfl rfl rfl rfl rfl rfl ?_
    refine asI rfl ?_
    refine r_nil ?_
    refine i_then ?_
    refine t_ret ?_
    refine i_block_ret ?_
    refine i_then_ret ?_
    refine i_rcell2 rfl rfl rfl rfl rfl (by decide) rfl rfl rfl ?_ ?_
    all_goals skip
    all_goals first | exact ret_no (congrArg Prod.fst (turned_1 hc1)) | exact ret_eq rfl rfl (congrArg (fun z : Barn × Int => Ty.int .i64 z.2) (turned_1 hc1).symm)
  ·
    refine t_seq ?_
    refine t_region ?_
    refine r_load_ppN rfl rfl rfl (by exact Nat.le_of_ble_eq_true rfl) ?_
    refine r_field_pp rfl rfl rfl rfl rfl (by decide) ?_
    refine r_load_pp rfl rfl rfl rfl ?_
    refine r_call (c_free b _) rfl rfl rfl rfl rfl ?_
    refine r_not rfl ?_
    refine asB rfl ?_
    refine r_nil ?_
    refine i_then ?_
    refine t_cond rfl (fun hc2 => ?_) (fun hc2 => ?_)
    ·
      refine t_seq ?_
      refine t_region ?_
      refine r_build rfl rfl (by exact List.cons_ne_nil _ _) rfl (by repeat (exact (Parts.nil : Parts _ _ [] _))) (by exact (rfl : _ = some [_, _])) ?_
      refine r_storeN rfl rfl (by decide) rfl rfl rfl rfl rfl rfl ?_
      refine asI rfl ?_
      refine r_nil ?_
      refine i_then ?_
      refine t_ret ?_
      refine i_block_ret ?_
      refine i_then_ret ?_
      refine i_rcell2 rfl rfl rfl rfl rfl (by decide) rfl rfl rfl ?_ ?_
      all_goals skip
      all_goals first | exact ret_no (congrArg Prod.fst (turned_5 hc1 (not_b hc2))) | exact ret_eq rfl rfl (congrArg (fun z : Barn × Int => Ty.int .i64 z.2) (turned_5 hc1 (not_b hc2)).symm)
    ·
      refine t_seq ?_
      have hkn := known_rng hc1
      have hs1 := hs.lots
      refine t_region ?_
      refine r_load_ppN rfl rfl rfl (by exact Nat.le_of_ble_eq_true rfl) ?_
      refine r_field_pp rfl rfl rfl rfl rfl (by decide) ?_
      refine r_load_pp rfl rfl rfl rfl ?_
      refine r_field_pp rfl rfl rfl rfl rfl (by decide) ?_
      refine r_load_pp rfl rfl rfl rfl ?_
      refine r_call (c_holds b t.aim t.lot hkn.2 hkn.1) rfl rfl rfl rfl rfl ?_
      refine r_not rfl ?_
      refine asB rfl ?_
      refine r_nil ?_
      refine i_then ?_
      refine t_cond_ndec rfl (fun hc3 => ?_) (fun hc3 => ?_)
      ·
        refine t_seq ?_
        refine t_region ?_
        refine r_build rfl rfl (by exact List.cons_ne_nil _ _) rfl (by repeat (exact (Parts.nil : Parts _ _ [] _))) (by exact (rfl : _ = some [_, _])) ?_
        refine r_storeN rfl rfl (by decide) rfl rfl rfl rfl rfl rfl ?_
        refine asI rfl ?_
        refine r_nil ?_
        refine i_then ?_
        refine t_ret ?_
        refine i_block_ret ?_
        refine i_then_ret ?_
        refine i_rcell2 rfl rfl rfl rfl rfl (by decide) rfl rfl rfl ?_ ?_
        all_goals skip
        all_goals first | exact ret_no (congrArg Prod.fst (turned_9 hc1 (not_not_b hc2) (decide_eq_false hc3))) | exact ret_eq rfl rfl (congrArg (fun z : Barn × Int => Ty.int .i64 z.2) (turned_9 hc1 (not_not_b hc2) (decide_eq_false hc3)).symm)
      ·
        refine t_skip ?_
        refine i_block ?_
        refine i_then ?_
        refine t_seq ?_
        have hkn := known_rng hc1
        have hs1 := hs.lots
        refine t_region ?_
        refine r_field_pp rfl rfl rfl rfl rfl (by decide) ?_
        refine r_load_pp rfl rfl rfl rfl ?_
        refine r_len rfl rfl rfl ?_
        refine r_makeV (E := LotE) (x0 := ⟨0, 0, 0⟩) rfl rfl rfl rfl rfl rfl rfl (by decide) rfl (by omega) (by (dsimp only; omega)) (by omega) ?_
        refine asV rfl ?_
        refine r_nil ?_
        refine i_then ?_
        refine t_seq ?_
        refine t_region ?_
        refine mvV rfl ?_
        refine r_field_pp rfl rfl rfl rfl rfl (by decide) ?_
        refine r_load_pp rfl rfl rfl rfl ?_
        refine r_copyV rfl rfl rfl (by decide) rfl rfl rfl rfl (by (simp <;> omega)) (by omega) ?_
        refine r_nil ?_
        refine i_then ?_
        refine t_seq ?_
        refine t_asC (tg := 41) rfl (Cont.sub_vec (show b.lots ++ List.drop b.lots.length (List.replicate ((b.lots.length : Int)).toNat (⟨0, 0, 0⟩ : Lot)) = b.lots by rw [List.drop_of_length_le (by simp), List.append_nil])) ?_
        refine t_region ?_
        refine mvV rfl ?_
        refine r_field_pp rfl rfl rfl rfl rfl (by decide) ?_
        refine r_load_pp rfl rfl rfl rfl ?_
        refine r_field_pp rfl rfl rfl rfl rfl (by decide) ?_
        refine r_load_pp rfl rfl rfl rfl ?_
        refine r_index_vsI rfl rfl rfl rfl rfl hkn.1.1 (by omega) ?_
        refine r_field_ptr rfl rfl rfl rfl rfl (by decide) ?_
        refine r_store_vecC (E := LotE) (z := ⟨(nth b.lots t.lot.toNat).sacks, t.aim, (nth b.lots t.lot.toNat).aim⟩) rfl rfl rfl (by decide) rfl rfl (by exact (rfl : _ = Ty.int _ _)) rfl (by omega) (by decide) rfl rfl ?_
        refine r_nil ?_
        refine i_then ?_
        refine t_seq ?_
        refine t_pub (tg := 41) [(6, Ty.sl LotE (lotsTo b t))] (by decide) rfl ⟨pub_vs rfl rfl (by simp [lotsTo]) (by decide), trivial⟩ ?_
        refine t_region ?_
        refine r_field_pp rfl rfl rfl rfl rfl (by decide) ?_
        refine r_load_pp rfl rfl rfl rfl ?_
        refine mvS rfl ?_
        refine r_build rfl rfl (by exact List.cons_ne_nil _ _) rfl (by repeat (first | exact (Parts.nil : Parts _ _ [] _) | (show Parts _ _ ((_, _) :: _) _; apply Parts.one; (· exact (rfl : _ = Ty.sl _ _)); (· exact rfl)))) (by exact (rfl : _ = some [_, _])) ?_
        refine r_storeN rfl rfl (by decide) rfl rfl rfl rfl rfl rfl ?_
        refine asI rfl ?_
        refine r_nil ?_
        refine i_then ?_
        refine t_ret ?_
        refine i_rcell2 rfl rfl rfl rfl rfl (by decide) rfl rfl rfl ?_ ?_
        all_goals skip
        all_goals first | exact ret_eq rfl rfl (congrArg (fun z : Barn × Int => barnT z.1) (turned_0 hc1 (not_not_b hc2) (decide_eq_true (by omega))).symm) | exact ret_eq rfl rfl (congrArg (fun z : Barn × Int => Ty.int .i64 z.2) (turned_0 hc1 (not_not_b hc2) (decide_eq_true (by omega))).symm)
set_option maxRecDepth 100000 in
theorem c_done (b : Barn) (hs : b.Small) (plan : List Tur) (hp : plan.length ≤ 1000000) : Ctr Tryz.prog 89 [barnT b, Ty.sl TurE plan] (Ty.tup [barnT (doneV b plan).1, Ty.sl TurE (doneV b plan).2.1, Ty.int .i64 (doneV b plan).2.2]) := by
  refine fn_intro Tryz.func89 rfl (by decide) Tryz.ntmps89 (by exact Nat.le_of_ble_eq_true rfl) fun w0 M0 => ?_
  refine t_seq ?_
  refine t_region ?_
  refine r_box_agg rfl ?_
  refine r_alloc rfl (by exact List.cons_ne_nil _ _) rfl ?_
  refine asX rfl ?_
  refine asI rfl ?_
  refine r_nil ?_
  refine i_then ?_
  refine t_seq ?_
  refine t_seq ?_
  refine t_region ?_
  refine r_load_ppN rfl rfl rfl (by exact Nat.le_of_ble_eq_true rfl) ?_
  refine r_call (c_Check b hs) rfl rfl rfl rfl rfl ?_
  refine asI rfl ?_
  refine r_nil ?_
  refine i_then ?_
  refine t_seq ?_
  refine t_region ?_
  refine mvI rfl ?_
  refine r_bin rfl rfl rfl ?_
  refine r_nil ?_
  refine i_then ?_
  refine t_cond_ndec rfl (fun hc1 => ?_) (fun hc1 => ?_)
  ·
    refine t_seq ?_
    refine t_region ?_
    refine r_build rfl rfl (by exact List.cons_ne_nil _ _) rfl (by repeat (exact (Parts.nil : Parts _ _ [] _))) (by exact (rfl : _ = some [_, _])) ?_
    refine mvI rfl ?_
    refine r_storeN rfl rfl (by decide) rfl rfl rfl rfl rfl rfl ?_
    refine asX rfl ?_
    refine asI rfl ?_
    refine r_nil ?_
    refine i_then ?_
    refine t_ret ?_
    refine i_then_ret ?_
    refine i_rcell3 rfl rfl rfl rfl rfl rfl (by decide) rfl rfl rfl ?_ ?_ ?_
    all_goals skip
    all_goals first | exact ret_no (congrArg Prod.fst (doneV_bad hc1)) | exact ret_nil_eq (congrArg (fun z : Barn × List Tur × Int => z.2.1) (doneV_bad hc1)) | exact ret_eq rfl rfl (congrArg (fun z : Barn × List Tur × Int => Ty.int .i64 z.2.2) (doneV_bad hc1).symm)
  ·
    refine t_skip ?_
    refine i_then ?_
    refine t_seq ?_
    refine t_seq ?_
    refine t_region ?_
    refine mvS rfl ?_
    refine r_len rfl rfl rfl ?_
    refine r_bin rfl rfl rfl ?_
    refine r_nil ?_
    refine i_then ?_
    refine t_cond_dec rfl (fun hc2 => ?_) (fun hc2 => ?_)
    ·
      refine t_seq ?_
      refine t_region ?_
      refine r_build rfl rfl (by exact List.cons_ne_nil _ _) rfl (by repeat (exact (Parts.nil : Parts _ _ [] _))) (by exact (rfl : _ = some [_, _])) ?_
      refine r_storeN rfl rfl (by decide) rfl rfl rfl rfl rfl rfl ?_
      refine asX rfl ?_
      refine asI rfl ?_
      refine r_nil ?_
      refine i_then ?_
      refine t_ret ?_
      refine i_then_ret ?_
      refine i_rcell3 rfl rfl rfl rfl rfl rfl (by decide) rfl rfl rfl ?_ ?_ ?_
      all_goals skip
      all_goals first | exact ret_no (congrArg Prod.fst (doneV_long hc1 hc2)) | exact ret_nil_eq (congrArg (fun z : Barn × List Tur × Int => z.2.1) (doneV_long hc1 hc2)) | exact ret_eq rfl rfl (congrArg (fun z : Barn × List Tur × Int => Ty.int .i64 z.2.2) (doneV_long hc1 hc2).symm)
    ·
      refine t_skip ?_
      refine i_then ?_
      refine t_seq ?_
      refine t_region ?_
      refine asX rfl ?_
      refine r_nil ?_
      refine i_then ?_
      refine t_seq ?_
      refine t_draw mixed rfl ?_
      refine r_field_pp rfl rfl rfl rfl rfl (by decide) ?_
      refine r_load_pp rfl rfl rfl rfl ?_
      refine r_call (c_Clone_int b.sizes (by have := hs.sizes; omega)) rfl rfl rfl rfl rfl ?_
      refine r_field_pp rfl rfl rfl rfl rfl (by decide) ?_
      refine r_load_pp rfl rfl rfl rfl ?_
      refine r_call (c_Clone_lot b.lots (by have := hs.lots; omega)) rfl rfl rfl rfl rfl ?_
      refine r_build rfl rfl (by exact List.cons_ne_nil _ _) rfl (by repeat (first | exact (Parts.nil : Parts _ _ [] _) | (show Parts _ _ ((_, _) :: _) _; apply Parts.one; (· exact (rfl : _ = Ty.sl _ _)); (· exact rfl)))) (by exact (rfl : _ = some [_, _])) ?_
      refine r_alloc rfl (by exact List.cons_ne_nil _ _) rfl ?_
      refine r_storeN rfl rfl (by decide) rfl rfl rfl rfl rfl rfl ?_
      refine r_nil ?_
      refine ⟨by kernel_rfl, ?_⟩
      refine i_then ?_
      refine t_seq ?_
      refine t_seq ?_
      refine t_region ?_
      refine mvS rfl ?_
      refine r_len rfl rfl rfl ?_
      refine mvI rfl ?_
      refine r_nil ?_
      refine i_then ?_
      refine t_block ?_
      refine t_loop (fun (x : {x : Nat × Barn × List Tur // DIx b plan x.1 x.2.1 x.2.2}) => live [(4, Ty.ptr 5 0), (8, Ty.row TurE 37 60 x.1.2.2), (9, Ty.ptr 10 0), (31, Ty.sl TurE plan), (32, Ty.int .i64 plan.length), (33, Ty.int .i64 (x.1.1 : Nat))] [(5, Cont.cells 25 [Ty.ex (.slice none 0 0), Ty.ex (.slice none 0 0)]), (10, Cont.cells 25 (barnTys x.1.2.1))]) (fun x => plan.length - x.1.1) (⟨(0, b, []), dix0 b plan⟩) ?_ fun x => ?_
      · (refine Ent.mk' ?_ ?_ <;> (repeat' (first | exact allSub_zero | exact allTags_nil | refine allSub_succ' ?_ (Ty.sub_any _) | refine allSub_succ' ?_ (Ty.sub_refl _) | refine allSub_succ' ?_ Ty.nil_row | refine allTags_cons rfl (Cont.sub_refl _) ?_)))
      ·
        have hxl := x.2.len
        refine t_seq ?_
        refine t_region ?_
        refine r_bin rfl rfl rfl ?_
        refine r_nil ?_
        refine i_then ?_
        refine t_seq ?_
        refine t_cond_dec rfl (fun hc3 => ?_) (fun hc3 => ?_)
        ·
          refine t_skip ?_
          refine i_then ?_
          refine t_seq ?_
          refine t_block ?_
          refine t_seq ?_
          refine t_region ?_
          refine r_index_slN rfl rfl rfl rfl rfl rfl (by omega) ?_
          refine r_load_ppN rfl rfl rfl (by exact Nat.le_of_ble_eq_true rfl) ?_
          refine r_alloc rfl (by exact List.cons_ne_nil _ _) rfl ?_
          refine r_storeN rfl rfl (by decide) rfl rfl rfl rfl rfl rfl ?_
          refine r_nil ?_
          refine i_then ?_
          refine t_seq ?_
          refine t_region ?_
          refine r_load_ptrN rfl rfl (by decide) rfl rfl (by exact Nat.le_of_ble_eq_true rfl) ?_
          refine r_load_ptrN rfl rfl (by decide) rfl rfl (by exact Nat.le_of_ble_eq_true rfl) ?_
          refine r_call (c_turned x.1.2.1 (x.2.small hs) (nth plan x.1.1)) rfl rfl rfl rfl rfl ?_
          refine mvT rfl ?_
          refine r_extract rfl rfl ?_
          refine r_extract rfl rfl ?_
          refine r_alloc rfl (by exact List.cons_ne_nil _ _) rfl ?_
          refine r_storeN rfl rfl (by decide) rfl rfl rfl rfl rfl rfl ?_
          refine asI rfl ?_
          refine r_nil ?_
          refine i_then ?_
          refine t_seq ?_
          refine t_seq ?_
          refine t_region ?_
          refine mvI rfl ?_
          refine r_bin rfl rfl rfl ?_
          refine r_nil ?_
          refine i_then ?_
          refine t_cond_ndec rfl (fun hc4 => ?_) (fun hc4 => ?_)
          ·
            refine t_seq ?_
            refine t_region ?_
            refine r_build rfl rfl (by exact List.cons_ne_nil _ _) rfl (by repeat (exact (Parts.nil : Parts _ _ [] _))) (by exact (rfl : _ = some [_, _])) ?_
            refine mvI rfl ?_
            refine r_storeN rfl rfl (by decide) rfl rfl rfl rfl rfl rfl ?_
            refine asX rfl ?_
            refine asI rfl ?_
            refine r_nil ?_
            refine i_then ?_
            refine t_ret ?_
            refine i_then_ret ?_
            refine i_block_ret ?_
            refine i_then_ret ?_
            refine i_then_ret ?_
            refine i_block_ret ?_
            refine i_then_ret ?_
            refine i_rcell3 rfl rfl rfl rfl rfl rfl (by decide) rfl rfl rfl ?_ ?_ ?_
            all_goals skip
            all_goals first | exact ret_no (congrArg Prod.fst (doneV_go hc1 hc2 (x.2.stop (by omega) hc4))) | exact ret_nil_eq (congrArg (fun z : Barn × List Tur × Int => z.2.1) (doneV_go hc1 hc2 (x.2.stop (by omega) hc4))) | exact ret_eq rfl rfl (congrArg (fun z : Barn × List Tur × Int => Ty.int .i64 z.2.2) (doneV_go hc1 hc2 (x.2.stop (by omega) hc4)).symm)
          ·
            refine t_skip ?_
            refine i_then ?_
            refine t_seq ?_
            obtain ⟨hk1, hk2, hk3, hk4, hk5⟩ := turned_err hc4
            refine t_draw mixed rfl ?_
            refine mvR rfl ?_
            refine r_field_ptr rfl rfl rfl rfl rfl (by decide) ?_
            refine r_load_ptr rfl rfl (by decide) rfl rfl rfl ?_
            refine r_field_ptr rfl rfl rfl rfl rfl (by decide) ?_
            refine r_load_ptr rfl rfl (by decide) rfl rfl rfl ?_
            refine r_field_ptr rfl rfl rfl rfl rfl (by decide) ?_
            refine r_load_ptr rfl rfl (by decide) rfl rfl rfl ?_
            refine r_index_sl rfl rfl rfl rfl rfl rfl hk1.1 (by omega) ?_
            refine r_field_pp rfl rfl rfl rfl rfl (by decide) ?_
            refine r_load_pp rfl rfl rfl rfl ?_
            refine r_build rfl rfl (by exact List.cons_ne_nil _ _) rfl (by repeat (first | exact (Parts.nil : Parts _ _ [] _) | (show Parts _ _ ((_, _) :: _) _; apply Parts.one; (· exact (rfl : _ = Ty.int _ _)); (· exact rfl)))) (by exact (rfl : _ = some [_, _])) ?_
            refine r_buildSlice (E := TurE) (xs := [⟨(nth plan x.1.1).lot, (nth x.1.2.1.lots (nth plan x.1.1).lot.toNat).inn⟩]) rfl rfl rfl rfl rfl (by decide) (by decide) (by repeat (first | exact (Parts.nil : Parts _ _ [] _) | (show Parts _ _ ((_, _) :: _) _; apply Parts.agg; (· exact (rfl : _ = Ty.agg _))))) (by exact rfl) rfl ?_
            refine r_append rfl rfl (by decide) rfl rfl rfl rfl rfl rfl (by decide) (by (simp <;> omega)) (by (simp <;> omega)) ?_
            refine asR rfl ?_
            refine r_nil ?_
            refine ⟨by kernel_rfl, ?_⟩
            refine i_then ?_
            refine t_region ?_
            refine r_load_ptrN rfl rfl (by decide) rfl rfl (by exact Nat.le_of_ble_eq_true rfl) ?_
            refine r_storeN rfl rfl (by decide) rfl rfl rfl rfl rfl rfl ?_
            refine r_nil ?_
            refine i_block ?_
            refine i_then ?_
            refine t_region ?_
            refine r_add rfl rfl (by omega) (by omega) ?_
            refine mvI rfl ?_
            refine r_nil ?_
            refine i_round (⟨(x.1.1 + 1, (turnedB x.1.2.1 (nth plan x.1.1)).1, x.1.2.2 ++ [⟨(nth plan x.1.1).lot, (nth x.1.2.1.lots (nth plan x.1.1).lot.toNat).inn⟩]), x.2.next (by omega) hc4⟩) ?_ (by show plan.length - (x.1.1 + 1) < plan.length - x.1.1; omega)
            (refine Ent.mk' ?_ ?_ <;> (repeat' (first | exact allSub_zero | exact allTags_nil | refine allSub_succ' ?_ (Ty.sub_any _) | refine allSub_succ' ?_ (Ty.sub_refl _) | refine allTags_cons rfl (Cont.sub_refl _) ?_)))
            all_goals skip
        ·
          refine t_exit ?_
          refine i_then_exit ?_
          refine i_then_exit ?_
          refine i_block_exit rfl ?_
          refine i_then ?_
          refine t_seq ?_
          have hxe := x.2.le
          refine t_own (s := 8) rfl rfl ?_
          refine t_region ?_
          refine mvV rfl ?_
          refine r_callG [(60, 1000)] [] [(60, Cont.vec TurE 37 x.1.2.2.reverse)] (c_Reverse_tur x.1.2.2 (by omega)) rfl rfl (by repeat (first | exact cv_nil | refine cv_cons ?_ ?_ | exact cv_vs List.mem_cons_self)) (pre_cons (a := 60) (b := 1000) (by exact List.mem_cons_self) rfl (cc_vec (by exact List.mem_cons_self) rfl) pre_nil) (post_cons (a := 60) (b := 1000) (by exact List.mem_cons_self) rfl (cc_vec (by exact List.mem_cons_self) rfl) post_nil) (cv_pub rfl rfl) ?_
          refine r_nil ?_
          refine i_then ?_
          refine t_seq ?_
          refine t_pub (tg := 60) [(8, Ty.sl TurE x.1.2.2.reverse)] (by decide) rfl ⟨pub_vs rfl rfl (by rw [List.length_reverse]) (by decide), trivial⟩ ?_
          refine t_region ?_
          refine r_load_ptrN rfl rfl (by decide) rfl rfl (by exact Nat.le_of_ble_eq_true rfl) ?_
          refine mvS rfl ?_
          refine r_storeN rfl rfl (by decide) rfl rfl rfl rfl rfl rfl ?_
          refine asS rfl ?_
          refine asI rfl ?_
          refine r_nil ?_
          refine i_then ?_
          refine t_ret ?_
          refine i_rcell3 rfl rfl rfl rfl rfl rfl (by decide) rfl rfl rfl ?_ ?_ ?_
          all_goals skip
          all_goals first | exact ret_eq rfl rfl (congrArg (fun z : Barn × List Tur × Int => barnT z.1) (doneV_go hc1 hc2 (x.2.end (by omega))).symm) | exact ret_eq rfl rfl (congrArg (fun z : Barn × List Tur × Int => Ty.sl TurE z.2.1) (doneV_go hc1 hc2 (x.2.end (by omega))).symm) | exact ret_eq rfl rfl (congrArg (fun z : Barn × List Tur × Int => Ty.int .i64 z.2.2) (doneV_go hc1 hc2 (x.2.end (by omega))).symm)
set_option maxRecDepth 100000 in
theorem c_right1 (l : Lot) : Ctr Tryz.prog 128 [Ty.agg (LotE.tys l)] (Ty.bool (decide (l.aim = -1) || decide (l.aim = l.inn))) := by
  refine fn_intro Tryz.func128 rfl (by decide) Tryz.ntmps128 (by exact Nat.le_of_ble_eq_true rfl) fun w0 M0 => ?_
  refine t_seq ?_
  refine t_region ?_
  refine r_box_agg rfl ?_
  refine asB rfl ?_
  refine r_nil ?_
  refine i_then ?_
  refine t_seq ?_
  refine t_region ?_
  refine r_field_pp rfl rfl rfl rfl rfl (by decide) ?_
  refine r_load_pp rfl rfl rfl rfl ?_
  refine r_bin rfl rfl rfl ?_
  refine mvB rfl ?_
  apply r_guard (s := 6) rfl rfl rfl
  · intro hg; apply opT_of; (refine r_field_pp rfl rfl rfl rfl rfl (by decide) ?_); refine r_nil ?_; exact rfl
  · exact rfl
  · exact rfl
  apply r_guard (s := 6) rfl rfl rfl
  · intro hg; apply opT_strip (s := 7) rfl (by (rw [hg]; rfl)); apply opT_of; (refine r_load_pp rfl rfl rfl rfl ?_); refine r_nil ?_; exact rfl
  · exact rfl
  · exact rfl
  apply r_guard (s := 6) rfl rfl rfl
  · intro hg; apply opT_of; (refine r_field_pp rfl rfl rfl rfl rfl (by decide) ?_); refine r_nil ?_; exact rfl
  · exact rfl
  · exact rfl
  apply r_guard (s := 6) rfl rfl rfl
  · intro hg; apply opT_strip (s := 9) rfl (by (rw [hg]; rfl)); apply opT_of; (refine r_load_pp rfl rfl rfl rfl ?_); refine r_nil ?_; exact rfl
  · exact rfl
  · exact rfl
  apply r_guard (s := 6) rfl rfl rfl
  · intro hg; apply opT_strip (s := 8) rfl (by (rw [hg]; rfl)); apply opT_strip (s := 10) rfl (by (rw [hg]; rfl)); apply opT_of; (refine r_bin rfl rfl rfl ?_); refine r_nil ?_; exact rfl
  · exact rfl
  · exact rfl
  refine r_or rfl rfl ?_
  refine asB rfl ?_
  refine r_nil ?_
  refine i_then ?_
  refine t_ret ?_
  refine i_rp1 rfl rfl ?_
  all_goals exact ret_refl rfl rfl
set_option maxRecDepth 100000 in
theorem c_right (b : Barn) : Ctr Tryz.prog 90 [barnT b] (Ty.bool (rightB b)) := by
  refine fn_intro Tryz.func90 rfl (by decide) Tryz.ntmps90 (by exact Nat.le_of_ble_eq_true rfl) fun w0 M0 => ?_
  refine t_seq ?_
  refine t_region ?_
  refine r_box_agg rfl ?_
  refine asB rfl ?_
  refine r_nil ?_
  refine i_then ?_
  refine t_seq ?_
  refine t_region ?_
  refine r_field_pp rfl rfl rfl rfl rfl (by decide) ?_
  refine r_load_pp rfl rfl rfl rfl ?_
  refine r_call (c_every_lot b.lots (Ty.clo 128 []) rfl (fun l => decide (l.aim = -1) || decide (l.aim = l.inn)) rfl rfl fun x _ => cal_clo (c_right1 x) rfl rfl rfl rfl rfl rfl) rfl rfl rfl rfl rfl ?_
  refine asB rfl ?_
  refine r_nil ?_
  refine i_then ?_
  refine t_ret ?_
  refine i_rp1 rfl rfl ?_
  all_goals exact ret_refl rfl rfl
set_option maxRecDepth 100000 in
theorem c_Makes (b : Barn) (hs : b.Small) (plan : List Tur) (hp : plan.length ≤ 1000000) : Ctr Tryz.prog 33 [barnT b, Ty.sl TurE plan] (Ty.tup [Ty.bool (makesB b plan), Ty.int .i64 (doneV b plan).2.2]) := by
  refine fn_intro Tryz.func33 rfl (by decide) Tryz.ntmps33 (by exact Nat.le_of_ble_eq_true rfl) fun w0 M0 => ?_
  refine t_seq ?_
  refine t_region ?_
  refine r_box_agg rfl ?_
  refine asB rfl ?_
  refine asI rfl ?_
  refine r_nil ?_
  refine i_then ?_
  refine t_seq ?_
  refine t_region ?_
  refine r_load_ppN rfl rfl rfl (by exact Nat.le_of_ble_eq_true rfl) ?_
  refine mvS rfl ?_
  refine r_call (c_done b hs plan hp) rfl rfl rfl rfl rfl ?_
  refine mvT rfl ?_
  refine r_extract rfl rfl ?_
  refine r_extract rfl rfl ?_
  refine r_extract rfl rfl ?_
  refine r_alloc rfl (by exact List.cons_ne_nil _ _) rfl ?_
  refine r_storeN rfl rfl (by decide) rfl rfl rfl rfl rfl rfl ?_
  refine asS rfl ?_
  refine asI rfl ?_
  refine r_nil ?_
  refine i_then ?_
  refine t_seq ?_
  refine t_region ?_
  refine mvI rfl ?_
  refine r_bin rfl rfl rfl ?_
  refine mvB rfl ?_
  apply r_guard (s := 18) rfl rfl rfl
  · intro hg; apply opT_of; (refine r_load_ptrN rfl rfl (by decide) rfl rfl (by exact Nat.le_of_ble_eq_true rfl) ?_); refine r_nil ?_; exact rfl
  · exact rfl
  · exact rfl
  apply r_guard (s := 18) rfl rfl rfl
  · intro hg; apply opT_strip (s := 19) rfl (by (rw [hg]; rfl)); apply opT_of; (refine r_call (c_right _) rfl rfl rfl rfl rfl ?_); refine r_nil ?_; exact rfl
  · exact rfl
  · exact rfl
  refine r_and rfl rfl ?_
  refine mvI rfl ?_
  refine asB rfl ?_
  refine asI rfl ?_
  refine r_nil ?_
  refine i_then ?_
  refine t_ret ?_
  refine i_rp2 rfl rfl rfl ?_ ?_
  all_goals exact ret_refl rfl rfl
end Go.Proofs.YtpnndljmhpepgaaGreat

namespace Go.Proofs.YtpnndljmhpepgaaGreat
open Go Go.T
def skipR (b : Barn) (p : Pl) (l : List Tur) (k lot : Nat) : Bool := (takenP b p k || !b.hold k lot) || l.any fun t => decide (t.aim = (k : Int))
def roundsL (b : Barn) (p : Pl) (g : Int) : Nat → List Tur → Nat → List (List Tur)
  | 0, l, _ => [l]
  | m + 1, l, lot => if (l.length : Int) = g then [l] else ((List.range b.sizes.length).flatMap fun k => if skipR b p l k lot = true then [] else roundsL b p g m (l ++ [⟨lot, k⟩]) (lot + 1)) ++ roundsL b p g m l (lot + 1)
def roundsW (b : Barn) (p : Pl) (g : Int) (l : List Tur) (lot : Nat) : List (List Tur) := roundsL b p g (b.lots.length - lot) l lot
def roundK (b : Barn) (p : Pl) (g : Int) (l : List Tur) (lot k : Nat) : List (List Tur) := if skipR b p l k lot = true then [] else roundsW b p g (l ++ [⟨lot, k⟩]) (lot + 1)
def roundUp (b : Barn) (p : Pl) (g : Int) (l : List Tur) (lot n : Nat) : List (List Tur) := (List.range n).flatMap (roundK b p g l lot)
variable {b : Barn} {p : Pl} {g : Int} {l : List Tur} {lot : Nat}
theorem rounds_end (h : (decide ((lot : Int) = b.lots.length) || decide ((l.length : Int) = g)) = true) : roundsW b p g l lot = [l] := by
  simp only [Bool.or_eq_true, decide_eq_true_eq] at h
  unfold roundsW
  by_cases e : b.lots.length - lot = 0
  · rw [e]; rfl
  · obtain ⟨m, hm⟩ : ∃ m, b.lots.length - lot = m + 1 := ⟨b.lots.length - lot - 1, by omega⟩
    rw [hm]; exact if_pos (by omega)
theorem rounds_on (hl : lot < b.lots.length) (h : ¬ (l.length : Int) = g) : roundsW b p g l lot = roundUp b p g l lot b.sizes.length ++ roundsW b p g l (lot + 1) := by
  unfold roundsW
  obtain ⟨m, hm⟩ : ∃ m, b.lots.length - lot = m + 1 := ⟨b.lots.length - lot - 1, by omega⟩
  have hm' : b.lots.length - (lot + 1) = m := by omega
  rw [hm, hm']
  show (if (l.length : Int) = g then _ else _) = _
  rw [if_neg h]
  congr 1
  unfold roundUp
  congr 1
  funext k
  unfold roundK roundsW
  rw [hm']
theorem roundUp_succ (n : Nat) : roundUp b p g l lot (n + 1) = roundUp b p g l lot n ++ roundK b p g l lot n := by
  unfold roundUp; rw [List.range_succ, List.flatMap_append]; simp
theorem roundK_no {k : Nat} (h : skipR b p l k lot = true) : roundK b p g l lot k = [] := if_pos h
theorem roundK_yes {k : Nat} (h : skipR b p l k lot = false) : roundK b p g l lot k = roundsW b p g (l ++ [⟨lot, k⟩]) (lot + 1) := if_neg (by rw [h]; decide)
theorem roundUp_pre {n : Nat} (h : n ≤ b.sizes.length) : roundUp b p g l lot n <+: roundUp b p g l lot b.sizes.length := by
  obtain ⟨r, e⟩ := range_split h
  unfold roundUp
  rw [e, List.flatMap_append]; exact List.prefix_append _ _
def allR (b : Barn) (p : Pl) (g : Int) : List (List Tur) := roundsW b p g [] 0
theorem pre_at {α : Type} {A B R : List α} {k : Nat} (h : (A ++ B) <+: R.drop k) : B <+: R.drop (k + A.length) := by
  obtain ⟨C, e⟩ := h
  refine ⟨C, ?_⟩
  rw [← List.drop_drop, ← e, List.append_assoc, List.drop_left]
theorem pre_get {α : Type} {x : α} {R : List α} {k : Nat} (h : [x] <+: R.drop k) : R[k]? = some x := by
  obtain ⟨C, e⟩ := h
  have := congrArg (fun l => l[0]?) e
  simp only [List.singleton_append, List.getElem?_cons_zero, List.getElem?_drop, Nat.add_zero] at this
  exact this.symm
theorem pre_round {R : List (List Tur)} {k n : Nat} (hl : lot < b.lots.length) (h : ¬ (l.length : Int) = g) (hp : roundsW b p g l lot <+: R.drop k) (hn : n < b.sizes.length) : roundK b p g l lot n <+: R.drop (k + (roundUp b p g l lot n).length) := by
  refine pre_at (List.IsPrefix.trans ?_ hp)
  rw [rounds_on hl h, ← roundUp_succ]
  exact List.IsPrefix.trans (roundUp_pre (by omega)) (List.prefix_append _ _)
theorem pre_last {R : List (List Tur)} {k : Nat} (hl : lot < b.lots.length) (h : ¬ (l.length : Int) = g) (hp : roundsW b p g l lot <+: R.drop k) : roundsW b p g l (lot + 1) <+: R.drop (k + (roundUp b p g l lot b.sizes.length).length) := by
  refine pre_at ?_
  rw [← rounds_on hl h]; exact hp
theorem not_end (h : (decide ((lot : Int) = b.lots.length) || decide ((l.length : Int) = g)) = false) (hle : lot ≤ b.lots.length) : lot < b.lots.length ∧ ¬ (l.length : Int) = g := by
  simp only [Bool.or_eq_false_iff, decide_eq_false_iff_not] at h; omega
end Go.Proofs.YtpnndljmhpepgaaGreat

namespace Go.T
open Go Go.RowKit
def dCK (J : World → Tags → Prop) (w : World) (M : Tags) : Prop :=
  ∃ Mc, Wf w Mc ∧ ZOk Mc ∧ J w Mc ∧ (∀ b, M b = none → Mc b = none) ∧ ∀ b u, b < w.heap.size → M b = some u → u ≠ 7000 → Mc b = some (Zt + b)
theorem dCK_mono {J : World → Tags → Prop} (hJ : Cb J) {S K : Nat → Prop} {w w' : World} {M M' : Tags} (le : Le S K w M w' M') (hs : ¬ S 7000) (hk : ¬ K 7000) (h : dCK J w M) : dCK J w' M' := by
  obtain ⟨Mc, wf, z, hj, h1, h2⟩ := h
  have own : ∀ b, M b = some 7000 → M' b = some 7000 ∧ w'.heap[b]? = w.heap[b]? := fun b h => let ⟨a, c⟩ := le.own b _ h hk; ⟨a, c hs⟩
  have mb : ∀ b t, Mc b = some t → t < Zt → M b = some 7000 := fun b t h ht => by
    cases hm : M b with
    | none => rw [h1 b hm] at h; cases h
    | some u =>
      by_cases e : u = 7000
      · rw [e]
      · have := h2 b u (wf.lt b t h) hm e
        rw [this] at h; injection h with h; omega
  let N : Tags := fun b => if b < w'.heap.size then (match M' b with | none => none | some u => if u = 7000 then (if b < w.heap.size ∧ M b = some 7000 then Mc b else some (Zt + b)) else some (Zt + b)) else none
  have hN : ∀ b, N b = if b < w'.heap.size then (match M' b with | none => none | some u => if u = 7000 then (if b < w.heap.size ∧ M b = some 7000 then Mc b else some (Zt + b)) else some (Zt + b)) else none := fun _ => rfl
  have zok : ZOk N := by
    intro b u h hu
    rw [hN] at h
    split at h
    · split at h
      · cases h
      · split at h
        · split at h
          · exact z b u h hu
          · injection h with h; exact h.symm
        · injection h with h; exact h.symm
    · cases h
  have wf' : Wf w' N := by
    refine ⟨fun b t h => ?_, fun b b' t ht1 h h' => ?_⟩
    · rw [hN] at h
      split at h
      · assumption
      · cases h
    · have part : ∀ b, N b = some (t + 1) → Mc b = some (t + 1) := fun b h => by
        have hz : t + 1 < Zt := by unfold Zt; omega
        rw [hN] at h
        split at h
        · split at h
          · cases h
          · split at h
            · split at h
              · exact h
              · injection h with h; omega
            · injection h with h; omega
        · cases h
      exact wf.inj b b' t ht1 (part b h) (part b' h')
  have lez : Le (fun t => Zt ≤ t) (fun t => Zt ≤ t) w Mc w' N := by
    refine ⟨le.size, le.os, le.tape, le.out, fun b hb hm => ?_, fun b t hm ht => ?_⟩
    · have hb' : b < w'.heap.size := Nat.lt_of_lt_of_le hb le.size
      cases hmb : M b with
      | none =>
        obtain ⟨a, c⟩ := le.pub b hb hmb
        exact ⟨by rw [hN, if_pos hb', a], c⟩
      | some u =>
        by_cases e : u = 7000
        · subst e
          obtain ⟨a, c⟩ := own b hmb
          exact ⟨by rw [hN, if_pos hb', a]; show (if (7000 : Nat) = 7000 then _ else _) = _; rw [if_pos rfl, if_pos ⟨hb, hmb⟩]; exact hm, c⟩
        · rw [h2 b u hb hmb e] at hm; cases hm
    · have hlt := wf.lt b t hm
      have h0 := mb b t hm (Nat.lt_of_not_le ht)
      obtain ⟨a, c⟩ := own b h0
      refine ⟨?_, fun _ => c⟩
      rw [hN, if_pos (Nat.lt_of_lt_of_le hlt le.size), a]
      show (if (7000 : Nat) = 7000 then _ else _) = _
      rw [if_pos rfl, if_pos ⟨hlt, h0⟩]; exact hm
  refine ⟨N, wf', zok, hJ _ _ _ _ wf' lez hj, fun b h => ?_, fun b u hb h hu => ?_⟩
  · rw [hN, h]; split <;> rfl
  · rw [hN, if_pos hb, h]; show (if u = 7000 then _ else _) = _; rw [if_neg hu]
def Cont.ck {J : World → Tags → Prop} (hJ : Cb J) : Cont :=
  { den := fun w M t => t = 7000 ∧ dCK J w M
    mono := fun le _ _ hs hk ⟨e, h⟩ => ⟨e, dCK_mono hJ le (e ▸ hs) (e ▸ hk) h⟩ }
theorem Cont.sub_ck {J : Nat → World → Tags → Prop} (hJ : ∀ k, Cb (J k)) {a b : Nat} (e : a = b) : (Cont.ck (hJ a)).Sub (Cont.ck (hJ b)) := by subst e; exact Cont.sub_refl _
def dYb (b1 : Bool) (J1 Jx : World → Tags → Prop) (w : World) (M : Tags) (v : Value) : Prop := (v = .bool b1 ∧ dCK J1 w M) ∨ (v = .bool (!b1) ∧ dCK Jx w M)
def Ty.yb {J1 Jx : World → Tags → Prop} (b1 : Bool) (h1 : Cb J1) (hx : Cb Jx) : Ty :=
  ⟨dYb b1 J1 Jx, [7000], [7000], fun le hk hs h => h.imp (fun ⟨e, h⟩ => ⟨e, dCK_mono h1 le (hs _ (by simp)) (hk _ (by simp)) h⟩) (fun ⟨e, h⟩ => ⟨e, dCK_mono hx le (hs _ (by simp)) (hk _ (by simp)) h⟩), true, fun _ h => h.elim (fun ⟨e, _⟩ => e ▸ rfl) (fun ⟨e, _⟩ => e ▸ rfl)⟩
theorem Ty.sub_yb {J1 J2 Jx : World → Tags → Prop} {b1 : Bool} {h1 : Cb J1} {h2 : Cb J2} {hx : Cb Jx} (e : J1 = J2) : (Ty.yb b1 h1 hx).Sub (Ty.yb b1 h2 hx) := by subst e; exact Ty.sub_refl _
def Cont.me (g T : Nat) (v : Value) (tys : List Ty) (cs : List Value) (h1 : depsOf tys = []) (h2 : cdepsOf tys = []) : Cont :=
  { den := fun w M _ => M g = some 1000 ∧ w.heap[g]? = some (.cells #[v] T (0, 0)) ∧ dens w M tys cs
    deps := [1000], cdeps := [1000]
    mono := fun le hk hs _ _ ⟨e1, e2, e3⟩ => let ⟨a, c⟩ := le.own g _ e1 (hk 1000 (by simp)); ⟨a, (c (hs 1000 (by simp))).trans e2, dens_mono le (by rw [h1]; intro _ h; cases h) (by rw [h2]; intro _ h; cases h) e3⟩ }
def Cont.snap (w0 : World) (old : Nat → Prop) : Cont :=
  { den := fun w M t => ∀ b, old b → M b = some t ∧ w.heap[b]? = w0.heap[b]?
    mono := fun le _ _ hs hk h b hb => let ⟨a, c⟩ := le.own b _ (h b hb).1 hk; ⟨a, (c hs).trans (h b hb).2⟩ }
def backY (w : World) (M1 Mc' : Tags) : Tags := fun b => if b < w.heap.size then M1 b else (Mc' b).map fun _ => 7000
theorem backY_ok {w w' : World} {M1 Mc Mc' : Tags} (wf1 : Wf w M1) (wf' : Wf w' Mc') (h1 : ∀ b, M1 b = none → Mc b = none) (h2 : ∀ b u, b < w.heap.size → M1 b = some u → u ≠ 7000 → Mc b = some (Zt + b)) (le : Le (fun t => t < Zt) (fun t => t < Zt) w Mc w' Mc') :
    Wf w' (backY w M1 Mc') ∧ Le (· ∈ [7000]) (· ∈ ([] : List Nat)) w M1 w' (backY w M1 Mc') ∧ (∀ b, backY w M1 Mc' b = none → Mc' b = none) ∧ ∀ b u, b < w'.heap.size → backY w M1 Mc' b = some u → u ≠ 7000 → Mc' b = some (Zt + b) := by
  unfold backY
  refine ⟨⟨fun b u h => ?_, fun b b' u ht1 h h' => ?_⟩, ⟨le.size, le.os, le.tape, le.out, fun b hb hm => ⟨by simp [hb, hm], (le.pub b hb (h1 b hm)).2⟩, fun b u hm _ => ⟨by simp [wf1.lt b u hm, hm], fun hs => ?_⟩⟩, fun b h => ?_, fun b u _ h hu => ?_⟩
  · split at h
    · exact Nat.lt_of_lt_of_le ‹_› le.size
    · obtain ⟨v, hv, _⟩ := Option.map_eq_some_iff.1 h
      exact wf'.lt b v hv
  · have part : ∀ b, (if b < w.heap.size then M1 b else (Mc' b).map fun _ => 7000) = some (u + 1) → M1 b = some (u + 1) := fun b h => by
      split at h
      · exact h
      · obtain ⟨v, _, hv⟩ := Option.map_eq_some_iff.1 h
        omega
    exact wf1.inj b b' u ht1 (part b h) (part b' h')
  · have hu : u ≠ 7000 := fun e => hs (by simp [e])
    exact (le.own b _ (h2 b u (wf1.lt b _ hm) hm hu) (by omega)).2 (by omega)
  · split at h
    · exact (le.pub b ‹_› (h1 b h)).1
    · simpa using h
  · split at h
    · exact (le.own b _ (h2 b u ‹_› h hu) (by omega)).1
    · obtain ⟨v, _, hv⟩ := Option.map_eq_some_iff.1 h
      exact absurd hv.symm hu
def pubL (M : Tags) (L : List Nat) : Tags := fun b => match M b with | none => none | some t => if t ∈ L then none else some t
theorem pubL_none {M : Tags} {L : List Nat} {b : Nat} (h : M b = none) : pubL M L b = none := by simp [pubL, h]
theorem pubL_lend {M : Tags} {L : List Nat} {b : Nat} (h : lend M L b = none) : pubL M L b = none := by
  unfold lend at h; unfold pubL
  cases hm : M b with
  | none => rfl
  | some t =>
    rw [hm] at h
    show (if t ∈ L then none else some t) = none
    by_cases e : t ∈ L
    · rw [if_pos e]
    · have h : (if t ∈ L then none else some 0) = none := h
      rw [if_neg e] at h; cases h
theorem pubL_le {w : World} {M : Tags} {L : List Nat} : Le (· ∈ ([] : List Nat)) (· ∈ L) w M w (pubL M L) :=
  ⟨Nat.le_refl _, rfl, rfl, rfl, fun b _ hm => ⟨pubL_none hm, rfl⟩, fun b t hm hk => ⟨by simp [pubL, hm, hk], fun _ => rfl⟩⟩
theorem pubL_some {M : Tags} {L : List Nat} {b t : Nat} (h : pubL M L b = some t) : M b = some t := by
  unfold pubL at h
  split at h
  · cases h
  · split at h
    · cases h
    · rename_i hm _; rw [hm]; exact h
theorem pubL_wf {w : World} {M : Tags} {L : List Nat} (wf : Wf w M) : Wf w (pubL M L) := ⟨fun b t h => wf.lt b t (pubL_some h), fun b b' t ht h h' => wf.inj b b' t ht (pubL_some h) (pubL_some h')⟩
def yPost (w : World) (Mc : Tags) (J1 Jx : World → Tags → Prop) (e : Ending) (w' : World) : Prop :=
  ∃ M', Wf w' M' ∧ ZOk M' ∧ Le (fun t => t < Zt) (fun t => t < Zt) w Mc w' M' ∧ ((e = .returned (.bool true) ∧ J1 w' M') ∨ (e = .returned (.bool false) ∧ Jx w' M'))
abbrev gp (g : Nat) : Value := .pointer (some ⟨g, 0, none⟩)
def MoreY (P : Program) (f : FuncId) (T : Nat) (capTys args : List Ty) (J0 J1 Jx : World → Tags → Prop) : Prop :=
  (∃ fn, P.funcs[f]? = some fn ∧ (fn.name == "runtime.NumGoroutine") = false ∧ fn.body.isNone = false) ∧
  ∀ (w : World) (Mc : Tags) (g : Nat) (vs cs cs' : List Value), Wf w Mc → ZOk Mc → dens w Mc args vs → dens w Mc capTys cs → dens w Mc capTys cs' → Mc g = some (Zt + g) →
    w.heap[g]? = some (.cells #[.func (.func f) #[] (cs' ++ [gp g]).toArray] T (0, 0)) → J0 w Mc →
    Calls P f (vs ++ (cs ++ [gp g])).toArray w (yPost w Mc J1 Jx)
section
variable {P : Program} {fr : Fr} {ops : Array Oper} {A : As} {rest : List Oper} {K : As → List (As × Fx) → Prop} {d : Nat} {t ty' : TypeId} {p : String} {e : Array Edge}
theorem r_yieldY {c l k : Nat} {encs : List (List Ty)} {J : Nat → World → Tags → Prop} {Jx : World → Tags → Prop} (hJ : ∀ k, Cb (J k)) (hJx : Cb Jx) (hY : Yld P l encs J Jx) {xs : List Operand} {ats : Array TypeId} {tys : List Ty}
    (hkd : fr.kd = .plain) (hc : A.op fr (.tmp c) = .ex (yv l)) (hx : opsTy A fr xs = tys) (hd : depsOf tys = []) (hdc : cdepsOf tys = []) (hk : encs[k]? = some tys) (ht : A.tag 7000 = some (.ck (hJ k)))
    (h : TOps P fr ops rest (A.after { d := some d, ty := .yb true (hJ (k + 1)) hJx, S := [7000], rs := c :: xs.flatMap opR, rt := [7000] }) fun A' l' => K A' ((A, { d := some d, ty := .yb true (hJ (k + 1)) hJx, S := [7000], rs := c :: xs.flatMap opR, rt := [7000] }) :: l')) :
    TOps P fr ops (⟨some d, .call ⟨.value (.tmp c), xs.toArray, ats⟩, t, p, e, none⟩ :: rest) A K := by
  refine ⟨{ d := some d, ty := .yb true (hJ (k + 1)) hJx, S := [7000], rs := c :: xs.flatMap opR, rt := [7000] }, ⟨rfl, by simp, by simp, by simp, fun a w M wf hsz hrd htg => ?_⟩, h⟩
  rw [if_pos (by simp [Region.wanted])]
  have hcv := op_den (x := .tmp c) (rs := c :: xs.flatMap opR) (fun u hu => by exact (List.mem_singleton.1 hu) ▸ List.mem_cons_self) hrd
  rw [hc] at hcv
  have hcv : a.eval (.tmp c) = yv l := hcv
  obtain ⟨_, Mc, wfc, z, hj, h1, h2⟩ := htg _ (tag_mem ht) (by simp)
  have hv : dens w Mc tys (xs.map a.eval) := conv_nodeps h1 hd hdc (hx ▸ opsTy_dens (rs := c :: xs.flatMap opR) hrd fun x hx c hc => List.mem_cons_of_mem _ (List.mem_flatMap.2 ⟨x, hx, hc⟩))
  obtain ⟨fn, tmps, assign, body, hy, hR⟩ := hY k tys hk w Mc _ wfc z hj hv
  refine ⟨fun f _ => fr.kd.fn_true f, ?_⟩
  have hrun : (execOp a.eval ⟨some d, .call ⟨.value (.tmp c), xs.toArray, ats⟩, t, p, e, none⟩).run P w = .ok (.round l fn tmps assign body) w := by
    simp [execOp, resolve, hcv, yv, Deferred.ofValue, invoke, hy]
  rw [Oper.semAt_eq _ _ _ (by intro c h; cases h), hrun, Oper.uponIn_round]
  refine ⟨fun h => (by rw [fr.kd.depth_none] at h; cases h), ?_⟩
  have hfe : fr.kd.fence = Fence.wide := by rw [hkd]; rfl
  rw [hfe]
  refine RoundIn.mono hR fun en w' ⟨Mc', wf', z', le, hor⟩ => ?_
  obtain ⟨g1, g2, g3, g4⟩ := backY_ok wf wf' h1 h2 le
  rcases hor with ⟨rfl, hj'⟩ | ⟨rfl, hj'⟩
  · exact ⟨.bool true, rfl, _, g1, g2, .inl ⟨rfl, Mc', wf', z', hj', g3, g4⟩, by simp⟩
  · exact ⟨.bool false, rfl, _, g1, g2, .inr ⟨rfl, Mc', wf', z', hj', g3, g4⟩, by simp⟩
theorem run_callFuncY {f : FuncId} {T : Nat} {capTys args : List Ty} {J0 J1 Jx : World → Tags → Prop} (hF : MoreY P f T capTys args J0 J1 Jx) (vs : Array Value) (w : World) : (callFunc f vs).run P w = .ok (.enter f vs) w := by
  obtain ⟨⟨fn, hf, hn, hb⟩, _⟩ := hF
  have hn' : fn.name ≠ "runtime.NumGoroutine" := by simpa using hn
  have hb' : fn.body ≠ none := fun h => by rw [h] at hb; cases hb
  simp [callFunc, hf, hn', hb']
theorem r_callY (L : List Nat) {c f T g : Nat} {capTys args ss : List Ty} {cs' : List Value} {J0 J1 Jx : World → Tags → Prop} (h0 : Cb J0) (h1 : Cb J1) (hx : Cb Jx) (hM : MoreY P f T capTys args J0 J1 Jx) {h3 : depsOf capTys = []} {h4 : cdepsOf capTys = []} {xs : List Operand} {ats : Array TypeId}
    (hc : A.op fr (.tmp c) = .ex (.func (.func f) #[] (cs' ++ [gp g]).toArray)) (hxs : opsTy A fr xs = ss) (hl : Lends L ss args) (hd : depsOf args = []) (hdc : cdepsOf args = [])
    (hme : A.tag 1001 = some (.me g T (.func (.func f) #[] (cs' ++ [gp g]).toArray) capTys cs' h3 h4)) (hck : A.tag 7000 = some (.ck h0)) (hL : ∀ u ∈ L, 1 ≤ u ∧ u ∉ fr.pass) (hL7 : L.contains 7000 = false) (hL1 : L.contains 1000 = false)
    (h : TOps P fr ops rest (A.after { d := some d, ty := .yb true h1 hx, S := [7000], K := L, rs := c :: xs.flatMap opR, rt := [7000, 1001] }) fun A' l' => K A' ((A, { d := some d, ty := .yb true h1 hx, S := [7000], K := L, rs := c :: xs.flatMap opR, rt := [7000, 1001] }) :: l')) :
    TOps P fr ops (⟨some d, .call ⟨.value (.tmp c), xs.toArray, ats⟩, t, p, e, none⟩ :: rest) A K := by
  refine ⟨{ d := some d, ty := .yb true h1 hx, S := [7000], K := L, rs := c :: xs.flatMap opR, rt := [7000, 1001] }, ⟨rfl, by simp, by simp, hL, fun a w M wf hsz hrd htg => ?_⟩, h⟩
  rw [if_pos (by simp [Region.wanted])]
  have hcv := op_den (x := .tmp c) (rs := c :: xs.flatMap opR) (fun u hu => by exact (List.mem_singleton.1 hu) ▸ List.mem_cons_self) hrd
  rw [hc] at hcv
  have hcv : a.eval (.tmp c) = .func (.func f) #[] (cs' ++ [gp g]).toArray := hcv
  obtain ⟨e1, e2, e3⟩ := htg _ (tag_mem hme) (by simp)
  obtain ⟨_, hck'⟩ := htg _ (tag_mem hck) (by simp)
  have hck1 : dCK J0 w (pubL M L) := dCK_mono h0 (pubL_le (w := w) (M := M) (L := L)) (by simp) (by simpa using hL7) hck'
  obtain ⟨Mc, wfc, z, hj, k1, k2⟩ := hck1
  have e1' : pubL M L g = some 1000 := by have : 1000 ∉ L := by simpa using hL1
                                          simp [pubL, e1, this]
  have hg : g < w.heap.size := (Array.getElem?_eq_some_iff.1 e2).1
  have hv : dens w Mc args (xs.map a.eval) := conv_nodeps (fun b hb => k1 b (pubL_lend hb)) hd hdc (lends_dens wf hl (hxs ▸ opsTy_dens (rs := c :: xs.flatMap opR) hrd fun x hx c hc => List.mem_cons_of_mem _ (List.mem_flatMap.2 ⟨x, hx, hc⟩)))
  have hcs : dens w Mc capTys cs' := conv_nodeps (fun b hb => k1 b (pubL_none hb)) h3 h4 e3
  have hcall := hM.2 w Mc g _ cs' cs' wfc z hv hcs hcs (k2 g 1000 hg e1' (by decide)) e2 hj
  refine wp_in_enter (f := f) (args := (xs.map a.eval ++ (cs' ++ [gp g])).toArray) (by simp [execOp, resolve, hcv, Deferred.ofValue, invoke, run_callFuncY hM]) (hcall.mono fun en w' ⟨Mc', wf', z', le, hor⟩ => ?_)
  obtain ⟨g1, g2, g3, g4⟩ := backY_ok (pubL_wf (L := L) wf) wf' k1 k2 le
  have g2' : Le (· ∈ [7000]) (· ∈ L) w M w' (backY w (pubL M L) Mc') := ((pubL_le (w := w) (M := M) (L := L)).trans g2).weaken (fun u hu => by rcases hu with h | h; cases h; exact h) (fun u hu => by rcases hu with h | h; exact h; cases h)
  rcases hor with ⟨rfl, hj'⟩ | ⟨rfl, hj'⟩
  · exact ⟨.bool true, rfl, .bool true, rfl, _, g1, g2', .inl ⟨rfl, Mc', wf', z', hj', g3, g4⟩, by simp⟩
  · exact ⟨.bool false, rfl, .bool false, rfl, _, g1, g2', .inr ⟨rfl, Mc', wf', z', hj', g3, g4⟩, by simp⟩
theorem r_callY0 {c f T tg : Nat} {capTys args ss : List Ty} {J0 J1 Jx : World → Tags → Prop} (h0 : Cb J0) (h1 : Cb J1) (hx : Cb Jx) (hM : MoreY P f T capTys args J0 J1 Jx) (h3 : depsOf capTys = []) (h4 : cdepsOf capTys = []) {xs : List Operand} {ats : Array TypeId}
    (hc : A.op fr (.tmp c) = .clo f (capTys ++ [.ptr tg 0])) (hxs : opsTy A fr xs = ss) (hl : Lends [] ss args) (hd : depsOf args = []) (hdc : cdepsOf args = [])
    (hcell : A.tag tg = some (.cells T [.clo f (capTys ++ [.ptr tg 0])])) (htg1 : Tag1 tg) (hck : A.tag 7000 = some (.ck h0))
    (h : TOps P fr ops rest (A.after { d := some d, ty := .yb true h1 hx, S := [7000], rs := c :: xs.flatMap opR, rt := [7000, tg] }) fun A' l' => K A' ((A, { d := some d, ty := .yb true h1 hx, S := [7000], rs := c :: xs.flatMap opR, rt := [7000, tg] }) :: l')) :
    TOps P fr ops (⟨some d, .call ⟨.value (.tmp c), xs.toArray, ats⟩, t, p, e, none⟩ :: rest) A K := by
  refine ⟨{ d := some d, ty := .yb true h1 hx, S := [7000], rs := c :: xs.flatMap opR, rt := [7000, tg] }, ⟨rfl, by simp, by simp, by simp, fun a w M wf hsz hrd htg => ?_⟩, h⟩
  rw [if_pos (by simp [Region.wanted])]
  have hcv := op_den (x := .tmp c) (rs := c :: xs.flatMap opR) (fun u hu => by exact (List.mem_singleton.1 hu) ▸ List.mem_cons_self) hrd
  rw [hc] at hcv
  obtain ⟨⟨cl⟩, ev, hcl⟩ := hcv
  have split : ∀ (l : List Value), dens w M (capTys ++ [.ptr tg 0]) l → ∃ cs b, l = cs ++ [gp b] ∧ dens w M capTys cs ∧ M b = some tg := fun l hl => by
    have hlen := dens_len hl
    rw [List.length_append, List.length_singleton] at hlen
    have g1 := dens_take capTys.length hl
    have g2 := dens_drop capTys.length hl
    rw [List.take_left] at g1
    rw [List.drop_left] at g2
    have e1 : (l.drop capTys.length).length = 1 := by rw [List.length_drop]; omega
    obtain ⟨v, hv⟩ := List.length_eq_one_iff.1 e1
    rw [hv] at g2
    obtain ⟨⟨b, hb, ev⟩, _⟩ := g2
    exact ⟨_, b, by subst ev; have h9 := List.take_append_drop capTys.length l; rw [hv] at h9; exact h9.symm, g1, hb⟩
  obtain ⟨cs, g, rfl, hcs, hg⟩ := split _ hcl
  obtain ⟨b', ⟨cells⟩, hb', hh, hdd⟩ := htg _ (tag_mem hcell) (by simp)
  obtain ⟨u, rfl⟩ : ∃ u, tg = u + 1 := ⟨tg - 1, by have := htg1.1; omega⟩
  have hbg : g = b' := wf.inj g b' u htg1.2 hg hb'
  subst hbg
  obtain ⟨v', rfl⟩ : ∃ v', cells = [v'] := by
    have hlen := dens_len hdd
    exact List.length_eq_one_iff.1 (by simpa using hlen)
  obtain ⟨⟨⟨cl'⟩, ev', hcl'⟩, _⟩ := hdd
  obtain ⟨cs', g', rfl, hcs', hg'⟩ := split _ hcl'
  have hgg : g' = g := wf.inj g' g u htg1.2 hg' hg
  subst hgg
  subst ev'
  obtain ⟨_, Mc, wfc, z, hj, k1, k2⟩ := htg _ (tag_mem hck) (by simp)
  have hgs : g' < w.heap.size := (Array.getElem?_eq_some_iff.1 hh).1
  have hcv : a.eval (.tmp c) = .func (.func f) #[] (cs ++ [gp g']).toArray := ev
  have hv : dens w Mc args (xs.map a.eval) := conv_nodeps (fun b hb => k1 b (by
      unfold lend at hb
      cases hm : M b with
      | none => rfl
      | some q => rw [hm] at hb; simp at hb)) hd hdc (lends_dens wf hl (hxs ▸ opsTy_dens (rs := c :: xs.flatMap opR) hrd fun x hx c hc => List.mem_cons_of_mem _ (List.mem_flatMap.2 ⟨x, hx, hc⟩)))
  have hcall := hM.2 w Mc g' _ cs cs' wfc z hv (conv_nodeps k1 h3 h4 hcs) (conv_nodeps k1 h3 h4 hcs') (k2 g' _ hgs hg (by have := htg1.2; omega)) hh hj
  refine wp_in_enter (f := f) (args := (xs.map a.eval ++ (cs ++ [gp g'])).toArray) (by simp [execOp, resolve, hcv, Deferred.ofValue, invoke, run_callFuncY hM]) (hcall.mono fun en w' ⟨Mc', wf', z', le, hor⟩ => ?_)
  obtain ⟨g1, g2, g3, g4⟩ := backY_ok wf wf' k1 k2 le
  rcases hor with ⟨rfl, hj'⟩ | ⟨rfl, hj'⟩
  · exact ⟨.bool true, rfl, .bool true, rfl, _, g1, g2, .inl ⟨rfl, Mc', wf', z', hj', g3, g4⟩, by simp⟩
  · exact ⟨.bool false, rfl, .bool false, rfl, _, g1, g2, .inr ⟨rfl, Mc', wf', z', hj', g3, g4⟩, by simp⟩
theorem r_notY {x : Operand} {J1 Jx : World → Tags → Prop} {h1 : Cb J1} {hx : Cb Jx} {b1 : Bool} (hop : A.op fr x = .yb b1 h1 hx)
    (h : TOps P fr ops rest (A.set d (.yb (!b1) h1 hx)) fun A' l' => K A' ((A, { d := some d, ty := .yb (!b1) h1 hx, rs := opR x }) :: l')) : TOps P fr ops (⟨some d, .unOp .not ty' x, t, p, e, none⟩ :: rest) A K :=
  tops_pure (opT_pure rfl rfl fun a w M _ hrd _ => by
    have hdx := op_den (x := x) (fun _ h => h) hrd
    rw [hop] at hdx
    rcases hdx with ⟨ex, hj⟩ | ⟨ex, hj⟩
    · exact ⟨.bool (!b1), by simp [execOp, ex, Op.unary], .inl ⟨rfl, hj⟩⟩
    · exact ⟨.bool (!!b1), by simp [execOp, ex, Op.unary], .inr ⟨rfl, hj⟩⟩) h
end
section
variable {P : Program} {fr : Fr} {A : As} {Q : Exit → Act → World → Prop} {x y : Code}
theorem t_condY {c : Operand} {J1 Jx : World → Tags → Prop} {h1 : Cb J1} {hx : Cb Jx} (hc : A.op fr c = .yb false h1 hx) (hth : Tri P fr x ⟨A.slots, (7000, .ck hx) :: A.tags⟩ Q) (hel : Tri P fr y ⟨A.slots, (7000, .ck h1) :: A.tags⟩ Q) : Tri P fr (.cond c x y) A Q := fun a w ha => by
  obtain ⟨M, ok, hs, ht⟩ := ha
  have hd := op_den (x := c) (rs := opR c) (fun _ h => h) (fun c _ hn => hs c hn)
  rw [hc] at hd
  rcases hd with ⟨ev, hj⟩ | ⟨ev, hj⟩
  · exact wpIn_cond_false ev (hel a w ⟨M, ok, hs, fun x hx => by
      rcases List.mem_cons.1 hx with rfl | hx
      · exact ⟨rfl, hj⟩
      · exact ht x hx⟩)
  · exact wpIn_cond_true ev (hth a w ⟨M, ok, hs, fun x hx => by
      rcases List.mem_cons.1 hx with rfl | hx
      · exact ⟨rfl, hj⟩
      · exact ht x hx⟩)
end
def startM (Mc : Tags) (g : Option Nat) : Tags := fun b => match Mc b with | none => none | some u => if u < Zt then some 7000 else if some b = g then some 1000 else some 5000
theorem startM_none {Mc : Tags} {g : Option Nat} {b : Nat} (h : startM Mc g b = none) : Mc b = none := by
  unfold startM at h
  split at h
  · assumption
  · split at h
    · cases h
    · split at h <;> cases h
theorem startM_none' {Mc : Tags} {g : Option Nat} {b : Nat} (h : Mc b = none) : startM Mc g b = none := by simp [startM, h]
theorem startM_wf {w : World} {Mc : Tags} {g : Option Nat} (wf : Wf w Mc) : Wf w (startM Mc g) := by
  refine ⟨fun b t h => ?_, fun b b' t ht h h' => ?_⟩
  · cases hm : Mc b with
    | none => rw [startM_none' hm] at h; cases h
    | some u => exact wf.lt b u hm
  · have key : ∀ b, startM Mc g b = some (t + 1) → some b = g := fun b h => by
      unfold startM at h
      split at h
      · cases h
      · split at h
        · injection h with h; omega
        · split at h
          · assumption
          · injection h with h; omega
    have e1 := key b h
    have e2 := key b' h'
    rw [← e2] at e1; injection e1
theorem startM_ck {w : World} {Mc : Tags} {g : Option Nat} {J : World → Tags → Prop} (wf : Wf w Mc) (z : ZOk Mc) (hj : J w Mc) : dCK J w (startM Mc g) := by
  refine ⟨Mc, wf, z, hj, fun b h => startM_none h, fun b u _ h hu => ?_⟩
  unfold startM at h
  split at h
  · cases h
  · rename_i v hv
    split at h
    · injection h with h; exact absurd h.symm hu
    · rw [hv]; congr 1; exact z b v hv (by omega)
def oldB (Mc : Tags) (g : Nat) (b : Nat) : Prop := Mc b = some (Zt + b) ∧ b ≠ g
section
variable {P : Program}
theorem moreY_intro {f : FuncId} {fn : Func} {c : Code} {T : Nat} {capTys args : List Ty} {J0 J1 Jx : World → Tags → Prop} {n : Nat} (h0 : Cb J0) (hf : P.funcs[f]? = some fn) (hb : fn.body = some c) (hn : (fn.name == "runtime.NumGoroutine") = false) (hnt : fn.ntmps = n) (hl : (args ++ (capTys ++ [Ty.ptr 1000 0])).length ≤ n)
    (hd : depsOf args = []) (hdc : cdepsOf args = []) (h3 : depsOf capTys = []) (h4 : cdepsOf capTys = [])
    (h : ∀ w Mc g cs', Wf w Mc → ZOk Mc → Mc g = some (Zt + g) → w.heap[g]? = some (.cells #[.func (.func f) #[] (cs' ++ [gp g]).toArray] T (0, 0)) →
      Tri P ⟨n, w, startM Mc (some g), [7000, 5000, 1000], .plain⟩ c (entryG (args ++ (capTys ++ [Ty.ptr 1000 0])) [(7000, .ck h0), (1000, .cells T [.ex (.func (.func f) #[] (cs' ++ [gp g]).toArray)]), (1001, .me g T (.func (.func f) #[] (cs' ++ [gp g]).toArray) capTys cs' h3 h4), (5000, .snap w (oldB Mc g))]) (bodyPost P fn (yPost w Mc J1 Jx))) : MoreY P f T capTys args J0 J1 Jx := by
  refine ⟨⟨fn, hf, hn, by rw [hb]; rfl⟩, fun w Mc g vs cs cs' wf z hv hcs hcs' hg hh hj => calls_of_wp hf hb (wpIn_wide.1 (h w Mc g cs' wf z hg hh _ _ ?_))⟩
  have hnn : ∀ b, Mc b = none → startM Mc (some g) b = none := fun b hb => startM_none' hb
  have hg0 : startM Mc (some g) g = some 1000 := by simp [startM, hg]
  have hall : dens w (startM Mc (some g)) (args ++ (capTys ++ [Ty.ptr 1000 0])) (vs ++ (cs ++ [gp g])) := dens_append (conv_nodeps hnn hd hdc hv) (dens_append (conv_nodeps hnn h3 h4 hcs) ⟨⟨g, hg0, rfl⟩, trivial⟩)
  have hlen := dens_len hall
  refine ⟨startM Mc (some g), ⟨startM_wf wf, Le.refl _ _ _ _, by simp [hnt]; simp at hlen hl; omega, Defs.nil⟩, fun c hc => ?_, fun x hx => ?_⟩
  · simp only [entryG]
    cases ha : (args ++ (capTys ++ [Ty.ptr 1000 0]))[c]? with
    | none => trivial
    | some ty =>
      obtain ⟨v, hv, hdv⟩ := dens_get hall c ty ha
      have : ((vs ++ (cs ++ [gp g])).toArray ++ Array.replicate (fn.ntmps - (vs ++ (cs ++ [gp g])).toArray.size) undef).getD c undef = v := by
        have hlt : c < (vs ++ (cs ++ [gp g])).length := (List.getElem?_eq_some_iff.1 hv).1
        rw [Array.getD_eq_getD_getElem?, Array.getElem?_append_left (by simpa using hlt), List.getElem?_toArray, hv]; rfl
      rw [this]; exact hdv
  · simp only [entryG, List.mem_cons, List.not_mem_nil, or_false] at hx
    rcases hx with rfl | rfl | rfl | rfl
    · exact ⟨rfl, startM_ck wf z hj⟩
    · exact ⟨g, _, hg0, hh, rfl, trivial⟩
    · exact ⟨hg0, hh, conv_nodeps hnn h3 h4 hcs'⟩
    · intro b ⟨hb1, hb2⟩
      refine ⟨?_, rfl⟩
      have : ¬ Zt + b < Zt := by omega
      simp [startM, hb1, this, hb2]
variable {A : As} {fn : Func} {n : Nat} {J1 Jx : World → Tags → Prop}
theorem yret_le {w w' : World} {Mc M Mc' : Tags} {g T : Nat} {v : Value} {tys : List Ty} {cs : List Value} {h3 : depsOf tys = []} {h4 : cdepsOf tys = []} (z : ZOk Mc) (wf : Wf w Mc) (hg : w.heap[g]? = some (.cells #[v] T (0, 0)))
    (hb : Le (fun t => 1 ≤ t) (fun t => 1 ≤ t ∧ t ∉ [7000, 5000, 1000]) w (startM Mc (some g)) w' M) (hm : (Cont.me g T v tys cs h3 h4).den w' M 1001) (ho : (Cont.snap w (oldB Mc g)).den w' M 5000) (k1 : ∀ b, M b = none → Mc' b = none) (k2 : ∀ b u, b < w'.heap.size → M b = some u → u ≠ 7000 → Mc' b = some (Zt + b)) :
    Le (fun t => t < Zt) (fun t => t < Zt) w Mc w' Mc' := by
  refine ⟨hb.size, hb.os, hb.tape, hb.out, fun b hlt h => ?_, fun b t h ht => ?_⟩
  · obtain ⟨a, c⟩ := hb.pub b hlt (startM_none' h)
    exact ⟨k1 b a, c⟩
  · have e := z b t h (by omega)
    subst e
    have hlt : b < w'.heap.size := Nat.lt_of_lt_of_le (wf.lt b _ h) hb.size
    by_cases e : b = g
    · subst e
      exact ⟨k2 b 1000 hlt hm.1 (by decide), fun _ => hm.2.1.trans hg.symm⟩
    · obtain ⟨a, c⟩ := ho b ⟨h, e⟩
      exact ⟨k2 b 5000 hlt a (by decide), fun _ => c⟩
theorem i_retY {tm g T : Nat} {w : World} {Mc : Tags} {v : Value} {tys : List Ty} {cs : List Value} {h3 : depsOf tys = []} {h4 : cdepsOf tys = []} {h1 : Cb J1} {hx : Cb Jx} (z : ZOk Mc) (wf : Wf w Mc) (hg : w.heap[g]? = some (.cells #[v] T (0, 0))) (hr : fn.results = #[.tmp tm]) (htm : Nat.blt tm n = true) (hm : A.tag 1001 = some (.me g T v tys cs h3 h4)) (ho : A.tag 5000 = some (.snap w (oldB Mc g))) (hs : (A.slots tm).Sub (.yb true h1 hx)) :
    Into ⟨n, w, startM Mc (some g), [7000, 5000, 1000], .plain⟩ A (bodyPost P fn (yPost w Mc J1 Jx) .ret) := by
  intro a w' ⟨M, ok, hsl, htg⟩
  rcases hs _ _ _ (hsl tm (by simpa using htm)) with ⟨ev, Mc', wf', z', hj, k1, k2⟩ | ⟨ev, Mc', wf', z', hj, k1, k2⟩
  · exact ⟨ok.nodefers (by simp), _, results_tmp hr _ _ _, Mc', wf', z', yret_le (h3 := h3) (h4 := h4) z wf hg ok.base (htg _ (tag_mem hm)) (htg _ (tag_mem ho)) k1 k2, .inl ⟨by rw [ev], hj⟩⟩
  · exact ⟨ok.nodefers (by simp), _, results_tmp hr _ _ _, Mc', wf', z', yret_le (h3 := h3) (h4 := h4) z wf hg ok.base (htg _ (tag_mem hm)) (htg _ (tag_mem ho)) k1 k2, .inr ⟨by rw [ev]; rfl, hj⟩⟩
theorem i_retYx {tm g T : Nat} {w : World} {Mc : Tags} {v : Value} {tys : List Ty} {cs : List Value} {h3 : depsOf tys = []} {h4 : cdepsOf tys = []} {hx : Cb Jx} (z : ZOk Mc) (wf : Wf w Mc) (hg : w.heap[g]? = some (.cells #[v] T (0, 0))) (hr : fn.results = #[.tmp tm]) (htm : Nat.blt tm n = true) (hm : A.tag 1001 = some (.me g T v tys cs h3 h4)) (ho : A.tag 5000 = some (.snap w (oldB Mc g))) (hs : A.slots tm = .bool false) (hk : A.tag 7000 = some (.ck hx)) :
    Into ⟨n, w, startM Mc (some g), [7000, 5000, 1000], .plain⟩ A (bodyPost P fn (yPost w Mc J1 Jx) .ret) := by
  intro a w' ⟨M, ok, hsl, htg⟩
  have ev := hsl tm (by simpa using htm)
  rw [hs] at ev
  obtain ⟨_, Mc', wf', z', hj, k1, k2⟩ := htg _ (tag_mem hk)
  have ev : a.tmps.getD tm undef = .bool false := ev
  exact ⟨ok.nodefers (by simp), _, results_tmp hr _ _ _, Mc', wf', z', yret_le (h3 := h3) (h4 := h4) z wf hg ok.base (htg _ (tag_mem hm)) (htg _ (tag_mem ho)) k1 k2, .inr ⟨by rw [ev], hj⟩⟩
theorem fnYI_intro {f : FuncId} {c : Code} {args : Nat → List Ty} {encs : List (List Ty)} (hf : P.funcs[f]? = some fn) (hb : fn.body = some c) (hn : (fn.name == "runtime.NumGoroutine") = false) (hnt : fn.ntmps = n) (hl : ∀ l, (args l).length ≤ n) (hdd : ∀ l, depsOf (args l) = [] ∧ cdepsOf (args l) = [])
    (h : ∀ l J Jx (hJ : ∀ k, Cb (J k)) (_ : Cb Jx), Yld P l encs J Jx → ∀ w0 M0, Tri P ⟨n, w0, M0, [7000, 5000], .plain⟩ c (entryG (args l) [(7000, .ck (hJ 0))]) (bodyPost P fn (iterPost encs.length J Jx (Ty.tup []) (Ty.tup [])))) : CtrI P f args encs (Ty.tup []) (Ty.tup []) := by
  refine ⟨⟨fn, hf, hn, by rw [hb]; rfl⟩, fun l J Jx hJ hJx hY w Mc vs wf z hd hj => calls_of_wp hf hb (wpIn_wide.1 (h l J Jx hJ hJx hY w (startM Mc none) _ _ ?_))⟩
  have hall : dens w (startM Mc none) (args l) vs := conv_nodeps (fun b hb => startM_none' hb) (hdd l).1 (hdd l).2 hd
  have hlen := dens_len hall
  have hl := hl l
  refine ⟨startM Mc none, ⟨startM_wf wf, Le.refl _ _ _ _, by simp [hnt, hlen]; omega, Defs.nil⟩, fun c hc => ?_, fun x hx => ?_⟩
  · simp only [entryG]
    cases ha : (args l)[c]? with
    | none => trivial
    | some ty =>
      obtain ⟨v, hv, hdv⟩ := dens_get hall c ty ha
      have : (vs.toArray ++ Array.replicate (fn.ntmps - vs.toArray.size) undef).getD c undef = v := by
        have hlt : c < vs.length := (List.getElem?_eq_some_iff.1 hv).1
        rw [Array.getD_eq_getD_getElem?, Array.getElem?_append_left (by simpa using hlt)]
        simp [hv]
      rw [this]; exact hdv
  · rw [List.mem_singleton.1 hx]; exact ⟨rfl, startM_ck wf z hj⟩
theorem i_retYI {s : Nat} {w0 : World} {M0 : Tags} {J : Nat → World → Tags → Prop} {m : Nat} {h1 : Cb (J m)} {hx : Cb Jx} (hr : fn.results = #[]) (hsn : Nat.blt s n = true) (hs : A.slots s = .yb true h1 hx) : Into ⟨n, w0, M0, [7000, 5000], .plain⟩ A (bodyPost P fn (iterPost m J Jx (Ty.tup []) (Ty.tup [])) .normal) := by
  intro a w' ⟨M, ok, hsl, htg⟩
  have hd := hsl s (by simpa using hsn)
  rw [hs] at hd
  rcases hd with ⟨ev, Mc', wf', z', hj, k1, k2⟩ | ⟨ev, Mc', wf', z', hj, k1, k2⟩
  · exact ⟨ok.nodefers (by simp), _, results_none hr _ _ _, _, Mc', rfl, wf', z', .inl ⟨⟨_, rfl, trivial⟩, hj⟩⟩
  · exact ⟨ok.nodefers (by simp), _, results_none hr _ _ _, _, Mc', rfl, wf', z', .inr ⟨⟨_, rfl, trivial⟩, hj⟩⟩
end
end Go.T

namespace Go.Proofs.YtpnndljmhpepgaaGreat
open Go Go.T
set_option maxHeartbeats 4000000
def rndEnc (l : List Tur) : List Ty := [Ty.sl TurE l]
def moreCaps (d : Desk) (gg : Int) (p : Pl) (li : Nat) : List Ty := [Ty.pp [Ty.pe DeskE d 0], Ty.pp [Ty.int .i64 gg], Ty.pp [Ty.ex (yv li)], Ty.pp (plT p)]
theorem same_tur (t : Tur) (k : Int) : (decide (t.lot = t.lot) && decide (t.aim = k)) = decide (t.aim = k) := by rw [decide_eq_true rfl, Bool.true_and]
theorem rnd_get {R : List (List Tur)} {k : Nat} {l : List Tur} (h : [l] <+: R.drop k) : (R.map rndEnc)[k]? = some [Ty.sl TurE l] := by rw [List.getElem?_map, pre_get h]; rfl
attribute [local irreducible] dInt dBool dSl dPp dPtr dAgg dTup dClo dAny dEx dStr dGd dCells dVec dVs dRow dOp nth Tri Into TOps Ctr bodyPost Exit.then Exit.inBlock Code.wp Code.wpIn dWhen dPa dPe dAo dArr dMp dPm dMap dCJ CtrG CtrI OpY keepPost iterPost bodyPostM roundQ
attribute [local irreducible] dYb dCK dRowJ dMs dFit
set_option maxRecDepth 100000 in
theorem k_Clone_tur (l : List Tur) (h : l.length ≤ 1000) : CtrG Tryz.prog 98 [] [] [Ty.sl TurE l] [] (Ty.row TurE 37 6 l) := by
  refine fnG_intro Tryz.func98 rfl (by decide) Tryz.ntmps98 (by exact Nat.le_of_ble_eq_true rfl) fun w0 M0 => ?_
  refine t_seq ?_
  refine t_region ?_
  refine asX rfl ?_
  refine r_nil ?_
  refine i_then ?_
  refine t_seq ?_
  refine t_seq ?_
  refine t_region ?_
  refine mvS rfl ?_
  refine r_eqnil und29 rfl ?_
  refine r_nil ?_
  refine i_then ?_
  refine t_cond_nb rfl (fun hc1 => ?_) (fun hc1 => ?_)
  ·
    refine t_seq ?_
    refine t_region ?_
    refine asX rfl ?_
    refine r_nil ?_
    refine i_then ?_
    refine t_ret ?_
    refine i_then_ret ?_
    refine g_ret1 [6] rfl rfl (by decide) (by repeat (exact rc_nil)) ?_
    all_goals skip
    all_goals (obtain rfl : l = [] := hc1; exact rg_cv cv_nilrow)
  ·
    refine t_skip ?_
    refine i_then ?_
    refine t_seq ?_
    refine t_region ?_
    refine r_buildRow (E := TurE) rfl rfl rfl rfl ?_
    refine mvS rfl ?_
    refine r_append rfl rfl (by decide) rfl rfl rfl rfl rfl rfl (by decide) (by (simp <;> omega)) (by (simp <;> omega)) ?_
    refine asR rfl ?_
    refine r_nil ?_
    refine i_then ?_
    refine t_ret ?_
    refine g_ret1 [6] rfl rfl (by decide) (by repeat (exact rc_nil)) ?_
    all_goals skip
    all_goals exact rg_cv (cv_row (by decide))
set_option maxRecDepth 100000 in
theorem c_more1 (t : Tur) (k : Int) : Ctr Tryz.prog 97 [Ty.agg (TurE.tys t), Ty.pp [Ty.int .i64 k]] (Ty.bool (decide (t.aim = k))) := by
  refine fn_intro Tryz.func97 rfl (by decide) Tryz.ntmps97 (by exact Nat.le_of_ble_eq_true rfl) fun w0 M0 => ?_
  refine t_seq ?_
  refine t_region ?_
  refine r_box_agg rfl ?_
  refine asB rfl ?_
  refine r_nil ?_
  refine i_then ?_
  refine t_seq ?_
  refine t_region ?_
  refine r_load_ppN rfl rfl rfl (by exact Nat.le_of_ble_eq_true rfl) ?_
  refine r_field_pp rfl rfl rfl rfl rfl (by decide) ?_
  refine r_load_pp rfl rfl rfl rfl ?_
  refine r_load_pp rfl rfl rfl rfl ?_
  refine r_build rfl rfl (by exact List.cons_ne_nil _ _) rfl (by repeat (first | exact (Parts.nil : Parts _ _ [] _) | (show Parts _ _ ((_, _) :: _) _; apply Parts.one; (· exact (rfl : _ = Ty.int _ _)); (· exact rfl)))) (by exact (rfl : _ = some [_, _])) ?_
  refine r_eql_A (eqt37 _ _ _ _) rfl rfl ?_
  refine asB rfl ?_
  refine r_nil ?_
  refine i_then ?_
  refine t_ret ?_
  refine i_rp1 rfl rfl ?_
  all_goals skip
  exact ret_eq rfl rfl (congrArg Ty.bool (same_tur t k))
set_option maxRecDepth 100000 in
theorem c_moreS (d : Desk) (hs : d.b.Small) (h6 : d.b.lots.length ≤ 6) (gg : Int) (p : Pl) (R : List (List Tur)) (li : Nat) (J : Nat → World → Tags → Prop) (Jx : World → Tags → Prop) (hJ : ∀ k, Cb (J k)) (hJx : Cb Jx) (hY : Yld Tryz.prog li (R.map rndEnc) J Jx) (l : List Tur) (lot : Nat) (lz : Int) (hlz : lz = (lot : Int)) (k : Nat) (hlot : lot ≤ d.b.lots.length) (hl : l.length ≤ lot) (hp : roundsW d.b p gg l lot <+: R.drop k) (ih : lot < d.b.lots.length → ∀ (l' : List Tur) (k' : Nat), l'.length ≤ lot + 1 → roundsW d.b p gg l' (lot + 1) <+: R.drop k' → MoreY Tryz.prog 94 147 (moreCaps d gg p li) [Ty.sl TurE l', Ty.int .i64 (lz + 1)] (J k') (J (k' + (roundsW d.b p gg l' (lot + 1)).length)) Jx) : MoreY Tryz.prog 94 147 (moreCaps d gg p li) [Ty.sl TurE l, Ty.int .i64 lz] (J (k)) (J (k + (roundsW d.b p gg l lot).length)) Jx := by
  subst hlz
  refine moreY_intro (hJ (k)) Tryz.func94 rfl (by decide) Tryz.ntmps94 (by exact Nat.le_of_ble_eq_true rfl) rfl rfl rfl rfl fun w0 Mc g cs0 wf0 z0 hg0 hh0 => ?_
  have hs1 := hs.sizes
  refine t_seq ?_
  refine t_region ?_
  refine asB rfl ?_
  refine r_nil ?_
  refine i_then ?_
  refine t_seq ?_
  refine t_seq ?_
  refine t_region ?_
  refine mvI rfl ?_
  refine r_load_pp rfl rfl rfl rfl ?_
  refine r_nilCheck_pe rfl ?_
  refine r_field_pe rfl rfl rfl rfl rfl (by decide) ?_
  refine r_field_pe rfl rfl rfl rfl rfl (by decide) ?_
  refine r_load_pe rfl rfl rfl rfl ?_
  refine r_len rfl rfl rfl ?_
  refine r_bin rfl rfl rfl ?_
  refine mvB rfl ?_
  apply r_guard (s := 19) rfl rfl rfl
  · intro hg; apply opT_of; (refine mvS rfl ?_); refine r_nil ?_; exact rfl
  · exact rfl
  · exact rfl
  apply r_guard (s := 19) rfl rfl rfl
  · intro hg; apply opT_strip (s := 20) rfl (by (rw [hg]; rfl)); apply opT_of; (refine r_len rfl rfl rfl ?_); refine r_nil ?_; exact rfl
  · exact rfl
  · exact rfl
  apply r_guard (s := 19) rfl rfl rfl
  · intro hg; apply opT_of; (refine r_load_pp rfl rfl rfl rfl ?_); refine r_nil ?_; exact rfl
  · exact rfl
  · exact rfl
  apply r_guard (s := 19) rfl rfl rfl
  · intro hg; apply opT_strip (s := 21) rfl (by (rw [hg]; rfl)); apply opT_strip (s := 22) rfl (by (rw [hg]; rfl)); apply opT_of; (refine r_bin rfl rfl rfl ?_); refine r_nil ?_; exact rfl
  · exact rfl
  · exact rfl
  refine r_or rfl rfl ?_
  refine r_nil ?_
  refine i_then ?_
  refine t_cond rfl (fun hc1 => ?_) (fun hc1 => ?_)
  ·
    refine t_seq ?_
    refine t_region ?_
    refine r_load_pp rfl rfl rfl rfl ?_
    refine mvS rfl ?_
    refine r_yieldY hJ hJx hY rfl rfl rfl rfl rfl (rnd_get (by have h := hp; rw [rounds_end (hc1)] at h; exact h)) rfl ?_
    refine r_assign (ty := Ty.yb true (hJ (k + 1)) hJx) rfl ?_
    refine r_nil ?_
    refine i_then ?_
    refine t_ret ?_
    refine i_then_ret ?_
    exact i_retY (h1 := hJ _) (hx := hJx) z0 wf0 hh0 rfl rfl rfl rfl (Ty.sub_yb (h1 := hJ (k + 1)) (congrArg J (by rw [rounds_end hc1]; rfl)))
  ·
    refine t_skip ?_
    refine i_then ?_
    refine t_seq ?_
    refine t_seq ?_
    obtain ⟨hne1, hne2⟩ := not_end (b := d.b) (l := l) (lot := lot) (g := gg) (hc1) hlot
    refine t_region ?_
    refine r_load_pp rfl rfl rfl rfl ?_
    refine r_nilCheck_pe rfl ?_
    refine r_field_pe rfl rfl rfl rfl rfl (by decide) ?_
    refine r_field_pe rfl rfl rfl rfl rfl (by decide) ?_
    refine r_load_pe rfl rfl rfl rfl ?_
    refine r_len rfl rfl rfl ?_
    refine mvI rfl ?_
    refine r_nil ?_
    refine i_then ?_
    refine t_block ?_
    refine t_loop (fun (q : {q : Nat // q ≤ d.b.sizes.length}) => live [(0, Ty.sl TurE l), (1, Ty.int .i64 (lot : Nat)), (2, Ty.pp [Ty.pe DeskE d 0]), (3, Ty.pp [Ty.int .i64 gg]), (4, Ty.pp [Ty.ex (yv li)]), (5, Ty.pp (plT p)), (6, Ty.ptr 1000 0), (33, Ty.int .i64 d.b.sizes.length), (34, Ty.int .i64 (q.1 : Nat))] [(7000, Cont.ck (hJ (k + (roundUp d.b p gg l lot q.1).length))), (1000, Cont.cells 147 [Ty.ex (.func (.func 94) #[] (cs0 ++ [gp g]).toArray)]), (1001, Cont.me g 147 (.func (.func 94) #[] (cs0 ++ [gp g]).toArray) (moreCaps d gg p li) cs0 rfl rfl), (5000, Cont.snap w0 (oldB Mc g))]) (fun q => d.b.sizes.length - q.1) (⟨0, by omega⟩) ?_ fun q => ?_
    · (refine Ent.mk' ?_ ?_ <;> (repeat' (first | exact allSub_zero | exact allTags_nil | refine allSub_succ' ?_ (Ty.sub_any _) | refine allSub_succ' ?_ (Ty.sub_refl _) | refine allTags_cons rfl (Cont.sub_refl _) ?_)))
    ·
      refine t_seq ?_
      refine t_region ?_
      refine r_bin rfl rfl rfl ?_
      refine r_nil ?_
      refine i_then ?_
      refine t_seq ?_
      refine t_cond_dec rfl (fun hc2 => ?_) (fun hc2 => ?_)
      ·
        refine t_skip ?_
        refine i_then ?_
        refine t_seq ?_
        refine t_block ?_
        refine t_seq ?_
        refine t_region ?_
        refine mvI rfl ?_
        refine r_alloc rfl (by exact List.cons_ne_nil _ _) rfl ?_
        refine r_store1 rfl rfl (by decide) rfl rfl (by exact (rfl : _ = Ty.int _ _)) rfl (by exact Nat.le_of_ble_eq_true rfl) rfl rfl (by exact (rfl : _ = [_])) ?_
        refine r_nil ?_
        refine i_then ?_
        refine t_seq ?_
        refine t_seq ?_
        refine t_pub (tg := 11) [(10, Ty.pp [Ty.int .i64 (q.1 : Nat)])] (by decide) rfl ⟨pub_ptr (T := 3) (tg := 11) (off := 0) (l := [Ty.int .i64 (q.1 : Nat)]) rfl rfl rfl (by decide), trivial⟩ ?_
        refine t_draw mixed rfl ?_
        refine r_load_pp rfl rfl rfl rfl ?_
        refine r_load_ppN rfl rfl rfl (by exact Nat.le_of_ble_eq_true rfl) ?_
        refine r_load_pp rfl rfl rfl rfl ?_
        refine r_call (c_taken d h6 p (q.1 : Nat)) rfl rfl rfl rfl rfl ?_
        refine mvB rfl ?_
        apply r_guard (s := 41) rfl rfl rfl
        · intro hg; apply opT_of; (refine r_load_pp rfl rfl rfl rfl ?_); refine r_nil ?_; exact rfl
        · exact rfl
        · exact rfl
        apply r_guard (s := 41) rfl rfl rfl
        · intro hg; apply opT_strip (s := 42) rfl (by (rw [hg]; rfl)); apply opT_of; (refine r_nilCheck_pe rfl ?_); refine r_nil ?_; exact rfl
        · exact rfl
        · exact rfl
        apply r_guard (s := 41) rfl rfl rfl
        · intro hg; apply opT_strip (s := 43) rfl (by (rw [hg]; rfl)); apply opT_of; (refine r_field_pe rfl rfl rfl rfl rfl (by decide) ?_); refine r_nil ?_; exact rfl
        · exact rfl
        · exact rfl
        apply r_guard (s := 41) rfl rfl rfl
        · intro hg; apply opT_strip (s := 44) rfl (by (rw [hg]; rfl)); apply opT_of; (refine r_load_peN rfl rfl rfl rfl rfl ?_); refine r_nil ?_; exact rfl
        · exact rfl
        · exact rfl
        apply r_guard (s := 41) rfl rfl rfl
        · intro hg; apply opT_of; (refine r_load_pp rfl rfl rfl rfl ?_); refine r_nil ?_; exact rfl
        · exact rfl
        · exact rfl
        apply r_guard (s := 41) rfl rfl rfl
        · intro hg; apply opT_of; (refine mvI rfl ?_); refine r_nil ?_; exact rfl
        · exact rfl
        · exact rfl
        apply r_guard (s := 41) rfl rfl rfl
        · intro hg; apply opT_strip (s := 45) rfl (by (rw [hg]; rfl)); apply opT_strip (s := 46) rfl (by (rw [hg]; rfl)); apply opT_strip (s := 47) rfl (by (rw [hg]; rfl)); apply opT_of; (refine r_call (c_holds d.b (q.1 : Nat) (lot : Nat) ⟨by omega, by omega⟩ ⟨by omega, by omega⟩) rfl rfl rfl rfl rfl ?_); refine r_nil ?_; exact rfl
        · exact rfl
        · exact rfl
        apply r_guard (s := 41) rfl rfl rfl
        · intro hg; apply opT_strip (s := 48) rfl (by (rw [hg]; rfl)); apply opT_of; (refine r_not rfl ?_); refine r_nil ?_; exact rfl
        · exact rfl
        · exact rfl
        refine r_or rfl rfl ?_
        refine mvB rfl ?_
        apply r_guard (s := 51) rfl rfl rfl
        · intro hg; apply opT_of; (refine mvS rfl ?_); refine r_nil ?_; exact rfl
        · exact rfl
        · exact rfl
        apply r_guard (s := 51) rfl rfl rfl
        · intro hg; apply opT_of; (refine r_makeFunc rfl ?_); refine r_nil ?_; exact rfl
        · exact rfl
        · exact rfl
        apply r_guard (s := 51) rfl rfl rfl
        · intro hg; apply opT_strip (s := 52) rfl (by (rw [hg]; rfl)); apply opT_strip (s := 53) rfl (by (rw [hg]; rfl)); apply opT_of; (refine r_call (c_ContainsFunc_tur l (Ty.clo 97 [Ty.pp [Ty.int .i64 (q.1 : Nat)]]) rfl (fun t => decide (t.aim = ((q.1 : Nat) : Int))) rfl rfl fun x _ => cal_clo (c_more1 x (q.1 : Nat)) rfl rfl rfl rfl rfl rfl) rfl rfl rfl rfl rfl ?_); refine r_nil ?_; exact rfl
        · exact rfl
        · exact rfl
        refine r_or rfl rfl ?_
        refine r_nil ?_
        refine ⟨by kernel_rfl, ?_⟩
        refine i_then ?_
        refine t_cond rfl (fun hc3 => ?_) (fun hc3 => ?_)
        ·
          refine t_exit ?_
          refine i_then_exit ?_
          refine i_block_exit rfl ?_
          refine i_then ?_
          refine t_region ?_
          refine r_add rfl rfl (by omega) (by omega) ?_
          refine mvI rfl ?_
          refine r_nil ?_
          refine i_round (⟨q.1 + 1, by omega⟩) ?_ (by show d.b.sizes.length - (q.1 + 1) < d.b.sizes.length - q.1; omega)
          (refine Ent.mk' ?_ ?_ <;> (repeat' (first | exact allSub_zero | exact allTags_nil | refine allSub_succ' ?_ (Ty.sub_any _) | refine allSub_succ' ?_ (Ty.sub_refl _) | refine allTags_cons rfl (Cont.sub_refl _) ?_ | refine allTags_cons rfl ?_ ?_)))
          all_goals skip
          all_goals exact Cont.sub_ck hJ (by rw [roundUp_succ, roundK_no hc3, List.append_nil])
        ·
          refine t_skip ?_
          refine i_then ?_
          refine t_seq ?_
          have hsk : skipR d.b p l q.1 lot = false := hc3
          have hpk := pre_round (n := q.1) hne1 hne2 hp (by omega)
          rw [roundK_yes hsk] at hpk
          refine t_draw mixed rfl ?_
          refine r_load_ptr rfl rfl (by decide) rfl rfl rfl ?_
          refine mvS rfl ?_
          refine r_callG [(59, 6)] [59] [] (k_Clone_tur l (by omega)) rfl rfl (by repeat (first | exact cv_nil | refine cv_cons ?_ ?_ | exact cv_pub rfl rfl)) pre_nil post_nil (cv_row (by exact List.mem_cons_self)) ?_
          refine mvI rfl ?_
          refine r_load_pp rfl rfl rfl rfl ?_
          refine r_build rfl rfl (by exact List.cons_ne_nil _ _) rfl (by repeat (first | exact (Parts.nil : Parts _ _ [] _) | (show Parts _ _ ((_, _) :: _) _; apply Parts.one; (· exact (rfl : _ = Ty.int _ _)); (· exact rfl)))) (by exact (rfl : _ = some [_, _])) ?_
          refine r_buildSlice (E := TurE) (xs := [⟨(lot : Int), (q.1 : Nat)⟩]) rfl rfl rfl rfl rfl (by decide) (by decide) (by repeat (first | exact (Parts.nil : Parts _ _ [] _) | (show Parts _ _ ((_, _) :: _) _; apply Parts.agg; (· exact (rfl : _ = Ty.agg _))))) (by exact rfl) rfl ?_
          refine r_append rfl rfl (by decide) rfl rfl rfl rfl rfl rfl (by decide) (by (simp <;> omega)) (by (simp <;> omega)) ?_
          refine mvI rfl ?_
          refine r_add rfl rfl (by omega) (by omega) ?_
          refine r_callY [59] (hJ (k + (roundUp d.b p gg l lot q.1).length)) (hJ _) hJx (ih hne1 (l ++ [⟨(lot : Int), (q.1 : Nat)⟩]) (k + (roundUp d.b p gg l lot q.1).length) (by simp; omega) hpk) rfl rfl (by repeat (first | exact lends_nil | refine lends_cons (lend_pub rfl rfl) ?_ | refine lends_cons (lend_row rfl) ?_)) rfl rfl rfl rfl (fun u hu => by rw [List.mem_singleton.1 hu]; exact ⟨by decide, by simp⟩) rfl rfl ?_
          refine r_notY (h1 := hJ _) (hx := hJx) rfl ?_
          refine r_nil ?_
          refine ⟨by kernel_rfl, ?_⟩
          refine i_then ?_
          refine t_condY (h1 := hJ _) (hx := hJx) rfl ?_ ?_
          ·
            refine t_seq ?_
            refine t_region ?_
            refine asB rfl ?_
            refine r_nil ?_
            refine i_then ?_
            refine t_ret ?_
            refine i_block_ret ?_
            refine i_then_ret ?_
            refine i_then_ret ?_
            refine i_block_ret ?_
            refine i_then_ret ?_
            exact i_retYx (hx := hJx) z0 wf0 hh0 rfl rfl rfl rfl rfl rfl
          ·
            refine t_skip ?_
            refine i_block ?_
            refine i_then ?_
            refine t_region ?_
            refine r_add rfl rfl (by omega) (by omega) ?_
            refine mvI rfl ?_
            refine r_nil ?_
            refine i_round (⟨q.1 + 1, by omega⟩) ?_ (by show d.b.sizes.length - (q.1 + 1) < d.b.sizes.length - q.1; omega)
            (refine Ent.mk' ?_ ?_ <;> (repeat' (first | exact allSub_zero | exact allTags_nil | refine allSub_succ' ?_ (Ty.sub_any _) | refine allSub_succ' ?_ (Ty.sub_refl _) | refine allTags_cons rfl (Cont.sub_refl _) ?_ | refine allTags_cons rfl ?_ ?_)))
            all_goals skip
            all_goals exact Cont.sub_ck hJ (by rw [roundUp_succ, roundK_yes hsk, List.length_append]; omega)
      ·
        refine t_exit ?_
        refine i_then_exit ?_
        refine i_then_exit ?_
        refine i_block_exit rfl ?_
        refine i_then ?_
        refine t_seq ?_
        refine t_region ?_
        refine r_load_ptr rfl rfl (by decide) rfl rfl rfl ?_
        refine mvS rfl ?_
        refine mvI rfl ?_
        refine r_add rfl rfl (by omega) (by omega) ?_
        refine r_callY [] (hJ (k + (roundUp d.b p gg l lot q.1).length)) (hJ _) hJx (ih hne1 l (k + (roundUp d.b p gg l lot q.1).length) (by omega) (by rw [show q.1 = d.b.sizes.length by have := q.2; omega]; exact pre_last hne1 hne2 hp)) rfl rfl (by repeat (first | exact lends_nil | refine lends_cons (lend_pub rfl rfl) ?_)) rfl rfl rfl rfl (fun u hu => by cases hu) rfl rfl ?_
        refine r_assign (ty := Ty.yb true (hJ _) hJx) rfl ?_
        refine r_nil ?_
        refine i_then ?_
        refine t_ret ?_
        exact i_retY (h1 := hJ _) (hx := hJx) z0 wf0 hh0 rfl rfl rfl rfl (Ty.sub_yb (h1 := hJ (k + (roundUp d.b p gg l lot q.1).length + (roundsW d.b p gg l (lot + 1)).length)) (congrArg J (by rw [rounds_on hne1 hne2, List.length_append, show q.1 = d.b.sizes.length by have := q.2; omega]; omega)))
theorem c_more (d : Desk) (hs : d.b.Small) (h6 : d.b.lots.length ≤ 6) (gg : Int) (p : Pl) (R : List (List Tur)) (li : Nat) (J : Nat → World → Tags → Prop) (Jx : World → Tags → Prop) (hJ : ∀ k, Cb (J k)) (hJx : Cb Jx) (hY : Yld Tryz.prog li (R.map rndEnc) J Jx) : ∀ (m lot : Nat) (lz : Int) (l : List Tur) (k : Nat), lot + m = d.b.lots.length → lz = (lot : Int) → l.length ≤ lot → roundsW d.b p gg l lot <+: R.drop k →
    MoreY Tryz.prog 94 147 (moreCaps d gg p li) [Ty.sl TurE l, Ty.int .i64 lz] (J k) (J (k + (roundsW d.b p gg l lot).length)) Jx
  | 0, lot, lz, l, k, hm, hlz, hl, hp => c_moreS d hs h6 gg p R li J Jx hJ hJx hY l lot lz hlz k (by omega) hl hp (fun h => by omega)
  | m + 1, lot, lz, l, k, hm, hlz, hl, hp => c_moreS d hs h6 gg p R li J Jx hJ hJx hY l lot lz hlz k (by omega) hl hp (fun _ l' k' hl' hp' => c_more d hs h6 gg p R li J Jx hJ hJx hY m (lot + 1) (lz + 1) l' k' (by omega) (by omega) hl' hp')
set_option maxRecDepth 100000 in
theorem c_rounds1 (d : Desk) (hs : d.b.Small) (h6 : d.b.lots.length ≤ 6) (gg : Int) (p : Pl) : CtrI Tryz.prog 93 (fun l => [Ty.ex (yv l), Ty.pp [Ty.pe DeskE d 0], Ty.pp [Ty.int .i64 gg], Ty.pp (plT p)]) ((allR d.b p gg).map rndEnc) (Ty.tup []) (Ty.tup []) := by
  refine fnYI_intro Tryz.func93 rfl (by decide) Tryz.ntmps93 (fun _ => by exact Nat.le_of_ble_eq_true rfl) (fun _ => ⟨rfl, rfl⟩) fun l J Jx hJ hJx hY w0 M0 => ?_
  refine t_seq ?_
  refine t_region ?_
  refine r_box_one (by exact (rfl : _ = Ty.ex _)) rfl ?_
  refine r_nil ?_
  refine i_then ?_
  refine t_seq ?_
  refine t_region ?_
  refine r_alloc rfl (by exact List.cons_ne_nil _ _) rfl ?_
  refine r_nil ?_
  refine i_then ?_
  refine t_seq ?_
  refine t_region ?_
  refine r_makeFunc rfl ?_
  refine r_store1 rfl rfl (by decide) rfl rfl (by exact (rfl : _ = Ty.clo _ _)) rfl (by exact Nat.le_of_ble_eq_true rfl) rfl rfl (by exact (rfl : _ = [_])) ?_
  refine r_nil ?_
  refine i_then ?_
  refine t_region ?_
  refine r_load_ptr rfl rfl (by decide) rfl rfl rfl ?_
  refine r_callY0 (tg := 6) (hJ 0) (hJ _) hJx (c_more d hs h6 gg p (allR d.b p gg) l J Jx hJ hJx hY d.b.lots.length 0 0 [] 0 (by omega) rfl (Nat.le_refl _) (List.prefix_rfl)) rfl rfl rfl rfl (by repeat (first | exact lends_nil | refine lends_cons (lend_pub rfl rfl) ?_ | refine lends_cons lend_nil ?_)) rfl rfl rfl (by decide) rfl ?_
  refine r_nil ?_
  exact i_retYI (h1 := hJ _) (hx := hJx) rfl (s := 8) rfl (by rw [List.length_map, Nat.zero_add]; rfl)
set_option maxRecDepth 100000 in
theorem c_rounds (d : Desk) (p : Pl) (gg : Int) : Ctr Tryz.prog 46 [Ty.pe DeskE d 0, Ty.agg (plT p), Ty.int .i64 gg] (Ty.clo 93 [Ty.pp [Ty.pe DeskE d 0], Ty.pp [Ty.int .i64 gg], Ty.pp (plT p)]) := by
  refine fn_intro Tryz.func46 rfl (by decide) Tryz.ntmps46 (by exact Nat.le_of_ble_eq_true rfl) fun w0 M0 => ?_
  refine t_seq ?_
  refine t_region ?_
  refine r_box_one (by exact (rfl : _ = Ty.pe _ _ _)) rfl ?_
  refine r_box_agg rfl ?_
  refine r_box_one (by exact (rfl : _ = Ty.int _ _)) rfl ?_
  refine asX rfl ?_
  refine r_nil ?_
  refine i_then ?_
  refine t_seq ?_
  refine t_region ?_
  refine r_makeFunc rfl ?_
  refine asF rfl ?_
  refine r_nil ?_
  refine i_then ?_
  refine t_ret ?_
  refine i_rp1 rfl rfl ?_
  all_goals exact ret_refl rfl rfl
  skip
end Go.Proofs.YtpnndljmhpepgaaGreat

namespace Go.Proofs.YtpnndljmhpepgaaGreat
open Go Go.T
def OkT (b : Barn) (p : Pl) (t : Tur) : Prop := (0 ≤ t.lot ∧ t.lot < b.lots.length) ∧ (0 ≤ t.aim ∧ t.aim < b.sizes.length) ∧ takenP b p t.aim = false ∧ b.hold t.aim t.lot = true
structure RoundOk (b : Barn) (p : Pl) (g : Int) (l : List Tur) : Prop where
  len : (l.length : Int) ≤ g
  ok : ∀ t ∈ l, OkT b p t
  apart : l.Pairwise fun s t => s.lot < t.lot ∧ s.aim ≠ t.aim
theorem skip_no {b : Barn} {p : Pl} {l : List Tur} {k lot : Nat} : skipR b p l k lot = false ↔ (takenP b p k = false ∧ b.hold k lot = true) ∧ ∀ t ∈ l, t.aim ≠ (k : Int) := by
  unfold skipR
  simp only [Bool.or_eq_false_iff, Bool.not_eq_false', List.any_eq_false, decide_eq_true_eq]
theorem mem_rounds {b : Barn} {p : Pl} {g : Int} : ∀ (m lot : Nat) (l0 l : List Tur), lot + m = b.lots.length → RoundOk b p g l0 → (∀ t ∈ l0, t.lot < lot) →
    (l ∈ roundsW b p g l0 lot ↔ ∃ r, l = l0 ++ r ∧ RoundOk b p g l ∧ ∀ t ∈ r, (lot : Int) ≤ t.lot)
  | 0, lot, l0, l, hm, h0, hl0 => by
    rw [rounds_end (by rw [decide_eq_true (show (lot : Int) = b.lots.length by omega)]; rfl), List.mem_singleton]
    constructor
    · rintro rfl; exact ⟨[], (List.append_nil _).symm, h0, fun t h => by cases h⟩
    · rintro ⟨r, rfl, h1, h2⟩
      cases r with
      | nil => exact List.append_nil _
      | cons t r =>
        have := h1.ok t (List.mem_append.2 (.inr List.mem_cons_self))
        have := h2 t List.mem_cons_self
        have := this; have := ‹OkT b p t›.1; omega
  | m + 1, lot, l0, l, hm, h0, hl0 => by
    by_cases hg : (l0.length : Int) = g
    · rw [rounds_end (by rw [decide_eq_true hg, Bool.or_true]), List.mem_singleton]
      constructor
      · rintro rfl; exact ⟨[], (List.append_nil _).symm, h0, fun t h => by cases h⟩
      · rintro ⟨r, rfl, h1, h2⟩
        have := h1.len
        rw [List.length_append] at this
        have : r = [] := List.length_eq_zero_iff.1 (by omega)
        rw [this, List.append_nil]
    · have hlen := h0.len
      rw [rounds_on (by omega) hg, List.mem_append, mem_rounds m (lot + 1) l0 l (by omega) h0 (fun t ht => by have := hl0 t ht; omega)]
      unfold roundUp
      rw [List.mem_flatMap]
      constructor
      · rintro (⟨k, hk, h⟩ | ⟨r, h1, h2, h3⟩)
        · rw [List.mem_range] at hk
          cases hs : skipR b p l0 k lot with
          | true => rw [roundK_no hs] at h; cases h
          | false =>
            rw [roundK_yes hs] at h
            obtain ⟨⟨e1, e2⟩, e3⟩ := skip_no.1 hs
            have hok : RoundOk b p g (l0 ++ [⟨lot, k⟩]) := by
              refine ⟨by rw [List.length_append]; simp; omega, fun t ht => ?_, ?_⟩
              · rcases List.mem_append.1 ht with ht | ht
                · exact h0.ok t ht
                · rw [List.mem_singleton.1 ht]
                  exact ⟨⟨by show 0 ≤ (lot : Int); omega, by show (lot : Int) < _; omega⟩, ⟨by show 0 ≤ (k : Int); omega, by show (k : Int) < _; omega⟩, e1, e2⟩
              · rw [List.pairwise_append]
                refine ⟨h0.apart, List.pairwise_singleton _ _, fun s hs t ht => ?_⟩
                rw [List.mem_singleton.1 ht]
                exact ⟨hl0 s hs, e3 s hs⟩
            obtain ⟨r, f1, f2, f3⟩ := (mem_rounds m (lot + 1) (l0 ++ [⟨lot, k⟩]) l (by omega) hok (fun t ht => by
              rcases List.mem_append.1 ht with ht | ht
              · have := hl0 t ht; omega
              · rw [List.mem_singleton.1 ht]; show (lot : Int) < _; omega)).1 h
            refine ⟨⟨lot, k⟩ :: r, by rw [f1, List.append_assoc]; rfl, f2, fun t ht => ?_⟩
            rcases List.mem_cons.1 ht with rfl | ht
            · exact Int.le_refl _
            · have := f3 t ht; omega
        · exact ⟨r, h1, h2, fun t ht => by have := h3 t ht; omega⟩
      · rintro ⟨r, h1, h2, h3⟩
        cases r with
        | nil => exact .inr ⟨[], h1, h2, fun t ht => by cases ht⟩
        | cons t r =>
          subst h1
          have ht := h2.ok t (List.mem_append.2 (.inr List.mem_cons_self))
          have hge := h3 t List.mem_cons_self
          have hap := h2.apart
          rw [List.pairwise_append, List.pairwise_cons] at hap
          obtain ⟨a1, ⟨a2, a3⟩, a4⟩ := hap
          by_cases e : t.lot = lot
          · refine .inl ⟨t.aim.toNat, List.mem_range.2 (by have := ht.2.1; omega), ?_⟩
            have ek : ((t.aim.toNat : Nat) : Int) = t.aim := by have := ht.2.1; omega
            have ee : (⟨(lot : Int), ((t.aim.toNat : Nat) : Int)⟩ : Tur) = t := by cases t; simp only [Tur.mk.injEq] at *; exact ⟨e.symm, ek⟩
            have hs : skipR b p l0 t.aim.toNat lot = false := skip_no.2 ⟨⟨by rw [ek]; exact ht.2.2.1, by rw [ek, ← e]; exact ht.2.2.2⟩, fun s hs => by rw [ek]; exact (a4 s hs t List.mem_cons_self).2⟩
            rw [roundK_yes hs, ee]
            have hok : RoundOk b p g (l0 ++ [t]) := by
              refine ⟨by have := h2.len; rw [List.length_append, List.length_cons] at this; rw [List.length_append]; simp; omega, fun s hs => h2.ok s ?_, ?_⟩
              · rcases List.mem_append.1 hs with hs | hs
                · exact List.mem_append.2 (.inl hs)
                · exact List.mem_append.2 (.inr (by rw [List.mem_singleton.1 hs]; exact List.mem_cons_self))
              · rw [List.pairwise_append]
                exact ⟨h0.apart, List.pairwise_singleton _ _, fun s hs u hu => by rw [List.mem_singleton.1 hu]; exact a4 s hs t List.mem_cons_self⟩
            refine (mem_rounds m (lot + 1) (l0 ++ [t]) _ (by omega) hok (fun s hs => ?_)).2 ⟨r, by rw [List.append_assoc]; rfl, h2, fun s hs => ?_⟩
            · rcases List.mem_append.1 hs with hs | hs
              · have := hl0 s hs; omega
              · rw [List.mem_singleton.1 hs, e]; omega
            · have := (a2 s hs).1; omega
          · refine .inr ⟨t :: r, rfl, h2, fun s hs => ?_⟩
            rcases List.mem_cons.1 hs with rfl | hs
            · omega
            · have := (a2 s hs).1; omega
theorem mem_allR {b : Barn} {p : Pl} {g : Int} (hg : 0 ≤ g) {l : List Tur} : l ∈ allR b p g ↔ RoundOk b p g l := by
  unfold allR
  rw [mem_rounds b.lots.length 0 [] l (by omega) ⟨by simp; exact hg, (fun t h => by cases h), List.Pairwise.nil⟩ (fun t h => by cases h)]
  constructor
  · rintro ⟨r, _, h, _⟩; exact h
  · intro h; exact ⟨l, rfl, h, fun t ht => by have := (h.ok t ht).1.1; omega⟩
def movedAll (p : Pl) (l : List Tur) : Pl := l.foldl moved p
theorem movedAll_snoc (p : Pl) (l : List Tur) (t : Tur) : movedAll p (l ++ [t]) = moved (movedAll p l) t := by unfold movedAll; rw [List.foldl_append]; rfl
theorem moved_nth {p : Pl} {t : Tur} {i : Nat} (h : i < 6) : nth (moved p t).1 i = if t.lot.toNat = i then t.aim else nth p.1 i := nthA_set (by rw [p.2]; exact h)
theorem all_nth {b : Barn} {p : Pl} {g : Int} : ∀ (l : List Tur), RoundOk b p g l → ∀ i, i < 6 → nth (movedAll p l).1 i = nth p.1 i ∨ ∃ t ∈ l, nth (movedAll p l).1 i = t.aim := by
  refine snoc_ind (fun _ i _ => .inl rfl) fun l t ih h i hi => ?_
  rw [movedAll_snoc, moved_nth hi]
  by_cases e : t.lot.toNat = i
  · rw [if_pos e]; exact .inr ⟨t, List.mem_append.2 (.inr (List.mem_singleton.2 rfl)), rfl⟩
  · rw [if_neg e]
    have hl : RoundOk b p g l := ⟨by have := h.len; rw [List.length_append] at this; simp at this; omega, fun s hs => h.ok s (List.mem_append.2 (.inl hs)), (List.pairwise_append.1 h.apart).1⟩
    rcases ih hl i hi with h1 | ⟨s, hs, h1⟩
    · exact .inl h1
    · exact .inr ⟨s, List.mem_append.2 (.inl hs), h1⟩
theorem round_go {b : Barn} {p : Pl} {g : Int} (h6 : b.lots.length ≤ 6) : ∀ (l : List Tur), RoundOk b p g l → goP b p l = some (movedAll p l) := by
  refine snoc_ind (fun _ => rfl) fun l t ih h => ?_
  have hl : RoundOk b p g l := ⟨by have := h.len; rw [List.length_append] at this; simp at this; omega, fun s hs => h.ok s (List.mem_append.2 (.inl hs)), (List.pairwise_append.1 h.apart).1⟩
  have ht := h.ok t (List.mem_append.2 (.inr (List.mem_singleton.2 rfl)))
  have hap := (List.pairwise_append.1 h.apart).2.2
  rw [movedAll_snoc]
  refine goP_snoc (ih hl) (mem_turnsL.2 ⟨ht.1.1, ht.1.2, ht.2.1.1, ht.2.1.2, ?_, ht.2.2.2⟩)
  rw [Bool.eq_false_iff]
  intro hc
  obtain ⟨i, hi, e⟩ := (taken_iff h6).1 hc
  rcases all_nth l hl i (by omega) with h1 | ⟨s, hs, h1⟩
  · have := (taken_iff h6).2 ⟨i, hi, h1.symm.trans e⟩
    rw [ht.2.2.1] at this; cases this
  · exact (hap s hs t (List.mem_singleton.2 rfl)).2 (h1.symm.trans e)
def goR (b : Barn) (g : Int) : Pl → List (List Tur) → Option Pl
  | p, [] => some p
  | p, l :: rs => if l ∈ allR b p g then goR b g (movedAll p l) rs else none
theorem goR_append (b : Barn) (g : Int) : ∀ (rs : List (List Tur)) (p : Pl) (rs' : List (List Tur)), goR b g p (rs ++ rs') = (goR b g p rs).bind fun q => goR b g q rs'
  | [], p, rs' => rfl
  | l :: rs, p, rs' => by
    show (if l ∈ allR b p g then goR b g (movedAll p l) (rs ++ rs') else none) = Option.bind (if l ∈ allR b p g then goR b g (movedAll p l) rs else none) _
    by_cases h : l ∈ allR b p g
    · rw [if_pos h, if_pos h, goR_append b g rs (movedAll p l) rs']
    · rw [if_neg h, if_neg h]; rfl
theorem goR_one {b : Barn} {g : Int} {p : Pl} {l : List Tur} (h : l ∈ allR b p g) : goR b g p [l] = some (movedAll p l) := if_pos h
theorem goR_snoc {b : Barn} {g : Int} {p q : Pl} {rs : List (List Tur)} {l : List Tur} (h1 : goR b g p rs = some q) (h2 : l ∈ allR b q g) : goR b g p (rs ++ [l]) = some (movedAll q l) := by
  rw [goR_append, h1]; exact goR_one h2
theorem goR_snoc_inv {b : Barn} {g : Int} {p r : Pl} {rs : List (List Tur)} {l : List Tur} (h : goR b g p (rs ++ [l]) = some r) : ∃ q, goR b g p rs = some q ∧ l ∈ allR b q g ∧ r = movedAll q l := by
  rw [goR_append] at h
  cases h1 : goR b g p rs with
  | none => rw [h1] at h; cases h
  | some q =>
    rw [h1] at h
    have h : (if l ∈ allR b q g then some (movedAll q l) else none) = some r := h
    by_cases h2 : l ∈ allR b q g
    · rw [if_pos h2] at h; injection h with h; exact ⟨q, rfl, h2, h.symm⟩
    · rw [if_neg h2] at h; cases h
structure RSt where
  ways : List (Pl × Way)
  queue : List Pl
def relaxR (p : Pl) (x : RSt) (l : List Tur) : RSt := if (mget x.ways (movedAll p l)).isSome = true then x else ⟨mput x.ways (movedAll p l) ⟨p, l, 0⟩, x.queue ++ [movedAll p l]⟩
theorem relaxR_yes {p : Pl} {x : RSt} {l : List Tur} (h : (mget x.ways (movedAll p l)).isSome = true) : relaxR p x l = x := if_pos h
theorem relaxR_no {p : Pl} {x : RSt} {l : List Tur} (h : (mget x.ways (movedAll p l)).isSome = false) : relaxR p x l = ⟨mput x.ways (movedAll p l) ⟨p, l, 0⟩, x.queue ++ [movedAll p l]⟩ := if_neg (by rw [h]; decide)
structure RInv (b : Barn) (g : Int) (dep : Pl → Nat) (D : Nat) (cur : Option (Pl × List (List Tur))) (x : RSt) : Prop where
  start : mget x.ways (firstP b) = some way0
  dep0 : dep (firstP b) = 0
  keys : (x.ways.map Prod.fst).Nodup
  via : ∀ q w, mget x.ways q = some w → q = firstP b ∨ (w.byT ∈ allR b w.frm g ∧ q = movedAll w.frm w.byT ∧ (∃ w', mget x.ways w.frm = some w') ∧ dep q = dep w.frm + 1)
  depl : ∀ q w, mget x.ways q = some w → dep q < x.ways.length
  bins : ∀ q w, mget x.ways q = some w → inBins q
  qin : ∀ q ∈ x.queue, (∃ w, mget x.ways q = some w) ∧ D ≤ dep q ∧ dep q ≤ D + 1
  srt : x.queue.Pairwise fun s t => dep s ≤ dep t
  old : ∀ q w, mget x.ways q = some w → q ∈ x.queue ∨ (dep q ≤ D ∧ madeP b q = false ∧ ((∃ ls, cur = some (q, ls)) ∨ ∀ l ∈ allR b q g, (∃ w', mget x.ways (movedAll q l) = some w') ∧ dep (movedAll q l) ≤ dep q + 1))
  curs : ∀ p ls, cur = some (p, ls) → (∃ w, mget x.ways p = some w) ∧ dep p = D ∧ ∀ l ∈ ls, (∃ w', mget x.ways (movedAll p l) = some w') ∧ dep (movedAll p l) ≤ dep p + 1
def setDep (dep : Pl → Nat) (q : Pl) (n : Nat) : Pl → Nat := fun r => if r = q then n else dep r
variable {b : Barn} {g : Int} {dep : Pl → Nat} {D : Nat} {x : RSt} {p : Pl}
theorem relaxR_inv (hr : b.Right) (hg : 0 ≤ g) {ls : List (List Tur)} {l : List Tur} (h : RInv b g dep D (some (p, ls)) x) (hl : l ∈ allR b p g) : ∃ dep', RInv b g dep' D (some (p, ls ++ [l])) (relaxR p x l) := by
  obtain ⟨⟨wp, hwp⟩, hpD, hps⟩ := h.curs p ls rfl
  cases hm : (mget x.ways (movedAll p l)).isSome with
  | true =>
    rw [relaxR_yes hm]
    obtain ⟨w0, hw0⟩ := Option.isSome_iff_exists.1 hm
    refine ⟨dep, { h with old := fun q w hq => ?_, curs := fun p' ls' e => ?_ }⟩
    · rcases h.old q w hq with h1 | ⟨h1, h2, h3⟩
      · exact .inl h1
      · refine .inr ⟨h1, h2, ?_⟩
        rcases h3 with ⟨ls', e⟩ | h3
        · injection e with e; injection e with e1 e2; exact .inl ⟨_, by rw [e1]⟩
        · exact .inr h3
    · injection e with e; injection e with e1 e2; subst e1; subst e2
      refine ⟨⟨wp, hwp⟩, hpD, fun l' hl' => ?_⟩
      rcases List.mem_append.1 hl' with hl' | hl'
      · exact hps l' hl'
      · rw [List.mem_singleton.1 hl']
        refine ⟨⟨w0, hw0⟩, ?_⟩
        rcases h.old _ w0 hw0 with h1 | ⟨h1, _⟩
        · have := (h.qin _ h1).2.2; omega
        · omega
  | false =>
    rw [relaxR_no hm]
    have hnone : mget x.ways (movedAll p l) = none := by
      cases e : mget x.ways (movedAll p l) with
      | none => rfl
      | some w => rw [e] at hm; cases hm
    have hne : ∀ r w, mget x.ways r = some w → r ≠ movedAll p l := fun r w hw e => by rw [e, hnone] at hw; cases hw
    have hget : ∀ r, mget (mput x.ways (movedAll p l) ⟨p, l, 0⟩) r = if movedAll p l = r then some ⟨p, l, 0⟩ else mget x.ways r := fun r => mget_mput _ _ _ _
    have hold : ∀ r w, mget x.ways r = some w → mget (mput x.ways (movedAll p l) ⟨p, l, 0⟩) r = some w := fun r w hw => by rw [hget, if_neg (fun e => hne r w hw e.symm)]; exact hw
    have hdep : ∀ r w, mget x.ways r = some w → setDep dep (movedAll p l) (D + 1) r = dep r := fun r w hw => if_neg (hne r w hw)
    have hnew : setDep dep (movedAll p l) (D + 1) (movedAll p l) = D + 1 := if_pos rfl
    have hlen : (mput x.ways (movedAll p l) ⟨p, l, 0⟩).length = x.ways.length + 1 := mput_len _ _ _ hnone
    have split : ∀ r w, mget (mput x.ways (movedAll p l) ⟨p, l, 0⟩) r = some w → (r = movedAll p l ∧ w = ⟨p, l, 0⟩) ∨ mget x.ways r = some w := fun r w hw => by
      rw [hget] at hw
      by_cases e : movedAll p l = r
      · rw [if_pos e] at hw; injection hw with hw; exact .inl ⟨e.symm, hw.symm⟩
      · rw [if_neg e] at hw; exact .inr hw
    refine ⟨setDep dep (movedAll p l) (D + 1), hold _ _ h.start, (hdep _ _ h.start).trans h.dep0, mput_nodup _ _ _ h.keys, fun q w hw => ?_, fun q w hw => ?_, fun q w hw => ?_, fun q hq => ?_, ?_, fun q w hw => ?_, fun p' ls' e => ?_⟩
    · rcases split q w hw with ⟨rfl, rfl⟩ | hw
      · exact .inr ⟨hl, rfl, ⟨wp, hold _ _ hwp⟩, by rw [hnew, hdep _ _ hwp, hpD]⟩
      · rcases h.via q w hw with h1 | ⟨h1, h2, ⟨w', h3⟩, h4⟩
        · exact .inl h1
        · exact .inr ⟨h1, h2, ⟨w', hold _ _ h3⟩, by rw [hdep _ _ hw, hdep _ _ h3]; exact h4⟩
    · rw [hlen]
      rcases split q w hw with ⟨rfl, rfl⟩ | hw
      · have := h.depl p wp hwp; rw [hnew]; omega
      · have := h.depl q w hw; rw [hdep _ _ hw]; omega
    · rcases split q w hw with ⟨rfl, rfl⟩ | hw
      · exact goP_bins hr l (h.bins p wp hwp) (round_go hr.lots l ((mem_allR hg).1 hl))
      · exact h.bins q w hw
    · rcases List.mem_append.1 hq with hq | hq
      · obtain ⟨⟨w, hw⟩, h2⟩ := h.qin q hq
        exact ⟨⟨w, hold _ _ hw⟩, by rw [hdep _ _ hw]; exact h2⟩
      · rw [List.mem_singleton.1 hq, hnew]
        exact ⟨⟨_, by rw [hget, if_pos rfl]⟩, by omega, by omega⟩
    · rw [List.pairwise_append]
      refine ⟨h.srt.imp_of_mem fun {s t} hs ht hst => ?_, List.pairwise_singleton _ _, fun s hs t ht => ?_⟩
      · obtain ⟨⟨ws, h1⟩, _⟩ := h.qin s hs
        obtain ⟨⟨wt, h2⟩, _⟩ := h.qin t ht
        rw [hdep _ _ h1, hdep _ _ h2]; exact hst
      · obtain ⟨⟨ws, h1⟩, _, h2⟩ := h.qin s hs
        rw [List.mem_singleton.1 ht, hnew, hdep _ _ h1]; exact h2
    · rcases split q w hw with ⟨rfl, rfl⟩ | hw
      · exact .inl (List.mem_append.2 (.inr (List.mem_singleton.2 rfl)))
      · rcases h.old q w hw with h1 | ⟨h1, h2, h3⟩
        · exact .inl (List.mem_append.2 (.inl h1))
        · refine .inr ⟨by rw [hdep _ _ hw]; exact h1, h2, ?_⟩
          rcases h3 with ⟨ls', e⟩ | h3
          · injection e with e; injection e with e1 e2; exact .inl ⟨_, by rw [e1]⟩
          · refine .inr fun l' hl' => ?_
            obtain ⟨⟨w', h4⟩, h5⟩ := h3 l' hl'
            exact ⟨⟨w', hold _ _ h4⟩, by rw [hdep _ _ h4, hdep _ _ hw]; exact h5⟩
    · injection e with e; injection e with e1 e2; subst e1; subst e2
      refine ⟨⟨wp, hold _ _ hwp⟩, by rw [hdep _ _ hwp]; exact hpD, fun l' hl' => ?_⟩
      rcases List.mem_append.1 hl' with hl' | hl'
      · obtain ⟨⟨w', h4⟩, h5⟩ := hps l' hl'
        exact ⟨⟨w', hold _ _ h4⟩, by rw [hdep _ _ h4, hdep _ _ hwp]; exact h5⟩
      · rw [List.mem_singleton.1 hl', hnew, hdep _ _ hwp]
        exact ⟨⟨_, by rw [hget, if_pos rfl]⟩, by omega⟩
def foldR (b : Barn) (g : Int) (p : Pl) (z : RSt) (k : Nat) : RSt := ((allR b p g).take k).foldl (relaxR p) z
theorem foldR_succ {z : RSt} {k : Nat} (hk : k < (allR b p g).length) : foldR b g p z (k + 1) = relaxR p (foldR b g p z k) (nth (allR b p g) k) := by
  unfold foldR; rw [take_nth hk, List.foldl_append]; rfl
theorem foldR_inv (hr : b.Right) (hg : 0 ≤ g) {z : RSt} (h : RInv b g dep D (some (p, [])) z) : ∀ k, k ≤ (allR b p g).length → ∃ dep', RInv b g dep' D (some (p, (allR b p g).take k)) (foldR b g p z k)
  | 0, _ => ⟨dep, by rw [List.take_zero]; exact h⟩
  | k + 1, hk => by
    obtain ⟨dep', h1⟩ := foldR_inv hr hg h k (by omega)
    rw [foldR_succ (by omega), take_nth (by omega)]
    exact relaxR_inv hr hg h1 (nth_mem (by omega))
theorem popR_inv {rest : List Pl} (h : RInv b g dep D none x) (hq : x.queue = p :: rest) (hm : madeP b p = false) : RInv b g dep (dep p) (some (p, [])) ⟨x.ways, rest⟩ := by
  have hp := h.qin p (by rw [hq]; exact List.mem_cons_self)
  have hs := h.srt
  rw [hq, List.pairwise_cons] at hs
  refine ⟨h.start, h.dep0, h.keys, h.via, h.depl, h.bins, fun q hq' => ?_, hs.2, fun q w hw => ?_, fun p' ls e => ?_⟩
  · have h1 := h.qin q (by rw [hq]; exact List.mem_cons_of_mem _ hq')
    have := hs.1 q hq'
    exact ⟨h1.1, this, by omega⟩
  · rcases h.old q w hw with h1 | ⟨h1, h2, h3⟩
    · rw [hq] at h1
      rcases List.mem_cons.1 h1 with rfl | h1
      · exact .inr ⟨Nat.le_refl _, hm, .inl ⟨[], rfl⟩⟩
      · exact .inl h1
    · refine .inr ⟨by omega, h2, ?_⟩
      rcases h3 with ⟨ls, e⟩ | h3
      · cases e
      · exact .inr h3
  · injection e with e; injection e with e1 e2; subst e1; subst e2
    exact ⟨hp.1, rfl, fun l hl => by cases hl⟩
theorem doneR_inv (h : RInv b g dep D (some (p, allR b p g)) x) : RInv b g dep D none x :=
  { h with
    old := fun q w hw => by
      rcases h.old q w hw with h1 | ⟨h1, h2, h3⟩
      · exact .inl h1
      · refine .inr ⟨h1, h2, .inr ?_⟩
        rcases h3 with ⟨ls, e⟩ | h3
        · injection e with e; injection e with e1 e2; subst e1
          exact (h.curs p _ rfl).2.2
        · exact h3
    curs := fun _ _ e => by cases e }
def rst0 (b : Barn) : RSt := ⟨[(firstP b, way0)], [firstP b]⟩
theorem rinv0 (hr : b.Right) : RInv b g (fun _ => 0) 0 none (rst0 b) := by
  have key : ∀ q w, mget (rst0 b).ways q = some w → q = firstP b := fun q w h => by
    simp only [rst0, mget] at h
    by_cases e : firstP b = q
    · exact e.symm
    · rw [if_neg e] at h; cases h
  refine ⟨by simp [rst0, mget], rfl, by simp [rst0], fun q w h => .inl (key q w h), fun q w h => by simp [rst0], fun q w h => by rw [key q w h]; exact first_bins hr, fun q hq => ?_, by simp [rst0], fun q w h => .inl (by rw [key q w h]; simp [rst0]), fun _ _ e => by cases e⟩
  rw [List.mem_singleton.1 hq]
  exact ⟨⟨way0, by simp [rst0, mget]⟩, Nat.le_refl _, by omega⟩
def stepR (b : Barn) (g : Int) (x : RSt) : RSt ⊕ Found :=
  match x.queue with
  | [] => .inr ⟨x.ways, pl0, false⟩
  | p :: rest => if madeP b p = true then .inr ⟨x.ways, p, true⟩ else .inl (foldR b g p ⟨x.ways, rest⟩ (allR b p g).length)
def runR (b : Barn) (g : Int) : Nat → RSt → Option Found
  | 0, _ => none
  | n + 1, x => match stepR b g x with
    | .inr f => some f
    | .inl y => runR b g n y
def EndsR (b : Barn) (g : Int) (x : RSt) (f : Found) : Prop := ∃ n, runR b g n x = some f
theorem runR_det : ∀ {n m : Nat} {x : RSt} {f f' : Found}, runR b g n x = some f → runR b g m x = some f' → f = f'
  | 0, _, _, _, _, h, _ => by cases h
  | _, 0, _, _, _, _, h => by cases h
  | n + 1, m + 1, x, f, f', h, h' => by
    unfold runR at h h'
    cases e : stepR b g x with
    | inr y => rw [e] at h h'; injection h with h; injection h' with h'; rw [← h, ← h']
    | inl y => rw [e] at h h'; exact runR_det h h'
theorem EndsR.det {f f' : Found} (h : EndsR b g x f) (h' : EndsR b g x f') : f = f' := let ⟨_, h⟩ := h; let ⟨_, h'⟩ := h'; runR_det h h'
theorem EndsR.step {y : RSt} {f : Found} (e : stepR b g x = .inl y) (h : EndsR b g y f) : EndsR b g x f := by
  obtain ⟨n, h⟩ := h
  exact ⟨n + 1, by unfold runR; rw [e]; exact h⟩
theorem EndsR.stop {f : Found} (e : stepR b g x = .inr f) : EndsR b g x f := ⟨1, by unfold runR; rw [e]⟩
open Classical in
noncomputable def roundsM (b : Barn) (g : Int) : Found := if h : ∃ f, EndsR b g (rst0 b) f then h.choose else default
theorem roundsM_eq {f : Found} (h : EndsR b g (rst0 b) f) : roundsM b g = f := by
  unfold roundsM
  rw [dif_pos ⟨f, h⟩]
  exact (Exists.choose_spec (⟨f, h⟩ : ∃ f, EndsR b g (rst0 b) f)).det h
theorem stepR_end (h : x.queue = []) : stepR b g x = .inr ⟨x.ways, pl0, false⟩ := by unfold stepR; rw [h]
theorem stepR_found {rest : List Pl} (hq : x.queue = p :: rest) (hm : madeP b p = true) : stepR b g x = .inr ⟨x.ways, p, true⟩ := by unfold stepR; rw [hq]; exact if_pos hm
theorem stepR_new {rest : List Pl} (hq : x.queue = p :: rest) (hm : madeP b p = false) : stepR b g x = .inl (foldR b g p ⟨x.ways, rest⟩ (allR b p g).length) := by unfold stepR; rw [hq]; exact if_neg (by rw [hm]; decide)
theorem RInv.few {cur : Option (Pl × List (List Tur))} (h : RInv b g dep D cur x) : x.ways.length ≤ placesN := by
  have := few_places h.keys fun p hp => by
    obtain ⟨w, hw⟩ := mem_mget hp
    exact h.bins p w hw
  rwa [List.length_map] at this
noncomputable def muR (x : RSt) : Nat := (placesN - x.ways.length) * 2 + x.queue.length
theorem foldR_len (z : RSt) : ∀ (l : List (List Tur)), (l.foldl (relaxR p) z).ways.length ≥ z.ways.length ∧ (l.foldl (relaxR p) z).queue.length + z.ways.length ≤ z.queue.length + (l.foldl (relaxR p) z).ways.length := by
  intro l
  induction l generalizing z with
  | nil => exact ⟨Nat.le_refl _, Nat.le_refl _⟩
  | cons t l ih =>
    rw [List.foldl_cons]
    obtain ⟨h1, h2⟩ := ih (relaxR p z t)
    cases hm : (mget z.ways (movedAll p t)).isSome with
    | true => rw [relaxR_yes hm] at h1 h2 ⊢; exact ⟨h1, h2⟩
    | false =>
      have hn : mget z.ways (movedAll p t) = none := by
        cases e : mget z.ways (movedAll p t) with
        | none => rfl
        | some w => rw [e] at hm; cases hm
      rw [relaxR_no hm] at h1 h2 ⊢
      have := mput_len z.ways (movedAll p t) ⟨p, t, 0⟩ hn
      simp only [List.length_append, List.length_singleton] at h1 h2
      rw [this] at h1 h2
      exact ⟨by omega, by omega⟩
theorem muR_new {rest : List Pl} {dep' : Pl → Nat} {D' : Nat} {cur' : Option (Pl × List (List Tur))} (hq : x.queue = p :: rest) (h : RInv b g dep' D' cur' (foldR b g p ⟨x.ways, rest⟩ (allR b p g).length)) : muR (foldR b g p ⟨x.ways, rest⟩ (allR b p g).length) < muR x := by
  have h1 := h.few
  have h2 := foldR_len (p := p) ⟨x.ways, rest⟩ ((allR b p g).take (allR b p g).length)
  unfold muR
  rw [hq, List.length_cons]
  have h2 : (foldR b g p ⟨x.ways, rest⟩ (allR b p g).length).ways.length ≥ x.ways.length ∧ (foldR b g p ⟨x.ways, rest⟩ (allR b p g).length).queue.length + x.ways.length ≤ rest.length + (foldR b g p ⟨x.ways, rest⟩ (allR b p g).length).ways.length := h2
  omega
theorem newR_inv (hr : b.Right) (hg : 0 ≤ g) {rest : List Pl} (h : RInv b g dep D none x) (hq : x.queue = p :: rest) (hm : madeP b p = false) : ∃ dep' D', RInv b g dep' D' none (foldR b g p ⟨x.ways, rest⟩ (allR b p g).length) := by
  obtain ⟨dep', h1⟩ := foldR_inv hr hg (popR_inv h hq hm) _ (Nat.le_refl _)
  rw [List.take_length] at h1
  exact ⟨dep', _, doneR_inv h1⟩
structure RSpec (b : Barn) (g : Int) (f : Found) : Prop where
  yes : f.is = true → ∃ L, Chain f.ways (firstP b) f.last L ∧ goR b g (firstP b) L = some f.last ∧ madeP b f.last = true ∧ (L.length ≤ 40000000) ∧ ∀ rs q, goR b g (firstP b) rs = some q → madeP b q = true → L.length ≤ rs.length
  no : f.is = false → ∀ rs q, goR b g (firstP b) rs = some q → madeP b q = false
theorem RInv.near (h : RInv b g dep D none x) (hq : ∀ q ∈ x.queue, D ≤ dep q) : ∀ (rs : List (List Tur)) (q : Pl), goR b g (firstP b) rs = some q → (rs.length ≤ D ∨ x.queue = []) → ∃ w, mget x.ways q = some w ∧ dep q ≤ rs.length := by
  refine snoc_ind (fun q e _ => ?_) fun rs l ih q e hl => ?_
  · injection e with e; subst e; exact ⟨_, h.start, by rw [h.dep0]; exact Nat.zero_le _⟩
  · obtain ⟨r, e1, e2, e3⟩ := goR_snoc_inv e
    rw [List.length_append, List.length_singleton] at hl ⊢
    obtain ⟨w, hw, hd⟩ := ih r e1 (hl.imp (fun h => by omega) id)
    rcases h.old r w hw with h1 | ⟨_, _, h3⟩
    · rcases hl with hl | hl
      · have := hq r h1; omega
      · rw [hl] at h1; cases h1
    · rcases h3 with ⟨ls, e⟩ | h3
      · cases e
      · obtain ⟨⟨w', h4⟩, h5⟩ := h3 l e2
        subst e3; exact ⟨w', h4, by omega⟩
theorem RInv.chain (h : RInv b g dep D none x) : ∀ (n : Nat) (p : Pl) (w : Way), mget x.ways p = some w → dep p ≤ n → ∃ A, Chain x.ways (firstP b) p A ∧ goR b g (firstP b) A = some p ∧ A.length = dep p := by
  intro n
  induction n with
  | zero =>
    intro p w hw hn
    rcases h.via p w hw with e | ⟨_, _, _, h4⟩
    · subst e; exact ⟨[], .nil, rfl, h.dep0.symm⟩
    · omega
  | succ n ih =>
    intro p w hw hn
    by_cases e : p = firstP b
    · subst e; exact ⟨[], .nil, rfl, h.dep0.symm⟩
    rcases h.via p w hw with e' | ⟨h1, h2, ⟨w', h3⟩, h4⟩
    · exact absurd e' e
    · obtain ⟨A, g1, g2, g3⟩ := ih w.frm w' h3 (by omega)
      exact ⟨A ++ [w.byT], .snoc e hw g1, by rw [h2]; exact goR_snoc g2 h1, by rw [List.length_append, g3, h4]; rfl⟩
theorem rspec_end (h : RInv b g dep D none x) (hq : x.queue = []) : RSpec b g ⟨x.ways, pl0, false⟩ := by
  refine ⟨(fun e => by cases e), fun _ rs q e => ?_⟩
  obtain ⟨w, hw, _⟩ := h.near (fun q hq' => by rw [hq] at hq'; cases hq') rs q e (.inr hq)
  rcases h.old q w hw with h1 | ⟨_, h2, _⟩
  · rw [hq] at h1; cases h1
  · exact h2
theorem rspec_found {rest : List Pl} (h : RInv b g dep D none x) (hq : x.queue = p :: rest) (hm : madeP b p = true) : RSpec b g ⟨x.ways, p, true⟩ := by
  obtain ⟨⟨w, hw⟩, h1, h2⟩ := h.qin p (by rw [hq]; exact List.mem_cons_self)
  refine ⟨fun _ => ?_, (fun e => by cases e)⟩
  obtain ⟨A, g1, g2, g3⟩ := h.chain _ p w hw (Nat.le_refl _)
  have hd := h.depl p w hw
  have hf := h.few
  have hN := placesN_eq
  refine ⟨A, g1, g2, hm, by omega, fun rs q e hq' => ?_⟩
  have hs := h.srt
  rw [hq, List.pairwise_cons] at hs
  -- those of the queue are no nearer than p
  have hmin : ∀ r ∈ x.queue, dep p ≤ dep r := fun r hr => by
    rw [hq] at hr
    rcases List.mem_cons.1 hr with rfl | hr
    · exact Nat.le_refl _
    · exact hs.1 r hr
  refine Nat.le_of_not_lt fun hlt => ?_
  have key : ∀ (rs : List (List Tur)) (q : Pl), goR b g (firstP b) rs = some q → rs.length < dep p → (∃ w, mget x.ways q = some w) ∧ dep q ≤ rs.length := by
    refine snoc_ind (fun q e _ => ?_) fun rs l ih q e hl => ?_
    · injection e with e; subst e; exact ⟨⟨_, h.start⟩, by rw [h.dep0]; exact Nat.zero_le _⟩
    · obtain ⟨r, e1, e2, e3⟩ := goR_snoc_inv e
      rw [List.length_append, List.length_singleton] at hl ⊢
      obtain ⟨⟨w, hw⟩, hd⟩ := ih r e1 (by omega)
      rcases h.old r w hw with h1 | ⟨_, _, h3⟩
      · have := hmin r h1; omega
      · rcases h3 with ⟨ls, e⟩ | h3
        · cases e
        · obtain ⟨h4, h5⟩ := h3 l e2
          subst e3; exact ⟨h4, by omega⟩
  obtain ⟨⟨w', hw'⟩, hd'⟩ := key rs q e (by omega)
  rcases h.old q w' hw' with h1 | ⟨_, h2, _⟩
  · have := hmin q h1; omega
  · rw [hq'] at h2; cases h2
theorem rounds_ends (hr : b.Right) (hg : 0 ≤ g) : ∀ (n : Nat) (x : RSt) (dep : Pl → Nat) (D : Nat), muR x < n → RInv b g dep D none x → ∃ f, EndsR b g x f ∧ RSpec b g f := by
  intro n
  induction n with
  | zero => intro x _ _ hx _; omega
  | succ n ih =>
    intro x dep D hx h
    cases hq : x.queue with
    | nil => exact ⟨_, .stop (stepR_end hq), rspec_end h hq⟩
    | cons p rest =>
      cases hm : madeP b p with
      | true => exact ⟨_, .stop (stepR_found hq hm), rspec_found h hq hm⟩
      | false =>
        obtain ⟨dep', D', h'⟩ := newR_inv hr hg h hq hm
        obtain ⟨f, h1, h2⟩ := ih _ dep' D' (by have := muR_new hq h'; omega) h'
        exact ⟨f, h1.step (stepR_new hq hm), h2⟩
theorem rounds_spec (hr : b.Right) (hg : 0 ≤ g) : RSpec b g (roundsM b g) ∧ EndsR b g (rst0 b) (roundsM b g) := by
  obtain ⟨f, h1, h2⟩ := rounds_ends hr hg _ (rst0 b) _ 0 (Nat.lt_succ_self _) (rinv0 hr)
  rw [roundsM_eq h1]; exact ⟨h2, h1⟩
def SameR (b : Barn) (g : Int) (x : RSt) : Prop := ∀ f, EndsR b g x f → roundsM b g = f
theorem sameR0 : SameR b g (rst0 b) := fun _ h => roundsM_eq h
theorem SameR.step {y : RSt} (h : SameR b g x) (e : stepR b g x = .inl y) : SameR b g y := fun f hf => h f (hf.step e)
theorem SameR.stop {f : Found} (h : SameR b g x) (e : stepR b g x = .inr f) : roundsM b g = f := h f (.stop e)
def askE (b : Barn) (g : Int) : Int := if checkB b = 0 then if inB g 1 3 = true then 0 else 3 else checkB b
theorem ask_zero {b : Barn} {g : Int} (h : askE b g = 0) : checkB b = 0 ∧ 1 ≤ g ∧ g ≤ 3 := by
  unfold askE at h
  split at h
  · rename_i h1
    split at h
    · rename_i h2; exact ⟨h1, inB_true.1 h2⟩
    · cases h
  · rename_i h1; exact absurd h h1
theorem ask_3 {b : Barn} {g : Int} (h : (decide (checkB b = 0) && !inB g 1 3) = true) : askE b g = 3 := by
  simp only [Bool.and_eq_true, decide_eq_true_eq, Bool.not_eq_true'] at h
  unfold askE; rw [if_pos h.1, if_neg (by rw [h.2]; decide)]
theorem ask_ok {b : Barn} {g : Int} (h : (decide (checkB b = 0) && !inB g 1 3) = false) : askE b g = checkB b := by
  unfold askE
  split
  · rename_i h1
    rw [decide_eq_true h1, Bool.true_and, Bool.not_eq_false'] at h
    rw [if_pos h, h1]
  · rfl
noncomputable def roundsV (b : Barn) (g : Int) : List (List Tur) := if askE b g = 0 then if (roundsM b g).is = true then chainM (roundsM b g).ways (firstP b) (roundsM b g).last else [] else []
noncomputable def roundsE (b : Barn) (g : Int) : Int := if askE b g = 0 then if (roundsM b g).is = true then 0 else 7 else askE b g
theorem take_moved {p : Pl} {l : List Tur} {j : Nat} (h : j < l.length) : moved (movedAll p (l.take j)) (nth l j) = movedAll p (l.take (j + 1)) := by rw [take_nth h, movedAll_snoc]
def headR (x : RSt) : Pl := nth x.queue 0
def restR (x : RSt) : RSt := ⟨x.ways, x.queue.drop 1⟩
theorem rowR {x : RSt} (h : 0 < x.queue.length) : x.queue = headR x :: x.queue.drop 1 := by
  have := drop_nth h
  rw [List.drop_zero] at this
  exact this
theorem frR_yes {p : Pl} {z : RSt} {k : Nat} (hk : k < (allR b p g).length) (h : (mget (foldR b g p z k).ways (movedAll p (nth (allR b p g) k))).isSome = true) : foldR b g p z k = foldR b g p z (k + 1) := by rw [foldR_succ hk, relaxR_yes h]
theorem frR_no {p : Pl} {z : RSt} {k : Nat} (hk : k < (allR b p g).length) (h : (mget (foldR b g p z k).ways (movedAll p (nth (allR b p g) k))).isSome = false) :
    mput (foldR b g p z k).ways (movedAll p (nth (allR b p g) k)) ⟨p, nth (allR b p g) k, 0⟩ = (foldR b g p z (k + 1)).ways ∧ (foldR b g p z k).queue ++ [movedAll p (nth (allR b p g) k)] = (foldR b g p z (k + 1)).queue := by
  rw [foldR_succ hk, relaxR_no h]; exact ⟨rfl, rfl⟩
structure RIxs (b : Barn) (g : Int) (x : RSt) : Prop where
  inv : ∃ dep D, RInv b g dep D none x
  same : SameR b g x
theorem rixs0 (hr : b.Right) : RIxs b g (rst0 b) := ⟨⟨_, 0, rinv0 hr⟩, sameR0⟩
theorem RIxs.len (h : RIxs b g x) : x.ways.length ≤ placesN := let ⟨_, _, h⟩ := h.inv; h.few
theorem RIxs.next (h : RIxs b g x) (hr : b.Right) (hg : 0 ≤ g) (hq : 0 < x.queue.length) (hm : madeP b (headR x) = false) : RIxs b g (foldR b g (headR x) (restR x) (allR b (headR x) g).length) ∧ muR (foldR b g (headR x) (restR x) (allR b (headR x) g).length) < muR x := by
  obtain ⟨dep, D, h1⟩ := h.inv
  obtain ⟨dep', D', h2⟩ := newR_inv hr hg h1 (rowR hq) hm
  exact ⟨⟨⟨dep', D', h2⟩, h.same.step (stepR_new (rowR hq) hm)⟩, muR_new (rowR hq) h2⟩
theorem foldR_qlen (h : x.queue.length ≤ x.ways.length + 1) (p : Pl) (k : Nat) : (foldR b g p x k).queue.length ≤ (foldR b g p x k).ways.length + 1 := by
  have h2 := foldR_len (p := p) x ((allR b p g).take k)
  have h2 : (foldR b g p x k).ways.length ≥ x.ways.length ∧ (foldR b g p x k).queue.length + x.ways.length ≤ x.queue.length + (foldR b g p x k).ways.length := h2
  omega
theorem foldR_few (h : RIxs b g x) (hr : b.Right) (hg : 0 ≤ g) (hq : 0 < x.queue.length) (hm : madeP b (headR x) = false) {k : Nat} (hk : k ≤ (allR b (headR x) g).length) : (foldR b g (headR x) (restR x) k).ways.length ≤ placesN := by
  obtain ⟨dep, D, h1⟩ := h.inv
  obtain ⟨dep', h2⟩ := foldR_inv hr hg (popR_inv h1 (rowR hq) hm) k hk
  exact h2.few
end Go.Proofs.YtpnndljmhpepgaaGreat

namespace Go.T
open Go Go.RowKit
section
variable {P : Program} {fr : Fr} {ops : Array Oper} {A : As} {rest : List Oper} {K : As → List (As × Fx) → Prop} {d : Nat} {t ty' : TypeId} {p : String} {e : Array Edge} [T : Tab P]
variable {α : Type} {E : El α} {Tb J : Nat} {xs ys : List α}
theorem r_lenO {x : Operand} {ti : TI} {el : Nat} (hx : A.op fr x = .rowO E Tb J xs) (hT : T.tab[ty']? = some ti) (hk : ti.k = .slice el)
    (h : TOps P fr ops rest (A.set d (.int .i64 (xs.length : Nat))) fun A' l => K A' ((A, { d := some d, ty := .int .i64 (xs.length : Nat), rs := opR x }) :: l)) :
    TOps P fr ops (⟨some d, .call ⟨.builtin .len, #[x], #[ty']⟩, t, p, e, none⟩ :: rest) A K :=
  tops_pure (opT_pure rfl rfl fun a w M _ hr _ => by
    have := op_den (x := x) (fun _ h => h) hr
    rw [hx] at this
    have h1 := this
    obtain ⟨_, D, _, hD, hkd, _⟩ := tab_info hT
    rw [hk] at hkd
    cases D <;> simp only [TK.of, reduceCtorEq, TK.slice.injEq] at hkd
    refine ⟨.int .i64 xs.length, ?_, rfl⟩
    rcases h1 with ⟨hn, ex⟩ | ⟨g, off, c, cur, ex, _⟩
    · simp [execOp, ex, resolve, invoke, builtin, Builtin.len_, run_underlying hD, hn, goInt]
    · simp [execOp, ex, resolve, invoke, builtin, Builtin.len_, run_underlying hD, goInt]) h
theorem r_indexO [Inhabited α] {x y : Operand} {kd : IntKind} {i : Nat} {ti te : TI} {el : Nat} (hx : A.op fr x = .rowO E Tb J xs) (hy : A.op fr y = .int kd i) (hT : T.tab[ty']? = some ti) (hk : ti.k = .slice el) (hE : T.tab[el]? = some te) (hs : te.size = E.size) (hi : i < xs.length)
    (h : TOps P fr ops rest (A.set d (.op J (E.tys (nth xs i)))) fun A' l' => K A' ((A, { d := some d, ty := .op J (E.tys (nth xs i)), rs := opR x ++ opR y }) :: l')) : TOps P fr ops (⟨some d, .indexAddr ty' x y, t, p, e, none⟩ :: rest) A K :=
  tops_pure (opT_pure rfl rfl fun a w M _ hr _ => by
    obtain ⟨hdx, hdy⟩ := op2 hr
    rw [hx] at hdx; rw [hy] at hdy
    have h1 := hdx
    have ey : a.eval y = .int kd i := hdy
    rcases h1 with ⟨h0, _⟩ | ⟨g, off, c, cur, ex, hg, hh, hn, _, _, hd⟩
    · subst h0; simp at hi
    · refine ⟨_, by simp only [execOp, ex, ey, Sem.run_bind, run_index_slice hT hk hE (Int.natCast_nonneg i) (show (i : Int).toNat < xs.length from hi)]; rfl, g, off + i * te.size, by simp, hg, fun j ty hj => ?_⟩
      rw [hs]
      exact rowO_cell hh hd hi hj) h
theorem r_cutO {x y : Operand} {kd : IntKind} {lo : Nat} {ti te : TI} {el : Nat} (hx : A.op fr x = .rowO E Tb J xs) (hy : A.op fr y = .int kd lo) (hT : T.tab[ty']? = some ti) (hk : ti.k = .slice el) (hE : T.tab[el]? = some te) (hs : te.size = E.size) (hlo : lo ≤ xs.length) (h0 : 0 < xs.length)
    (h : TOps P fr ops rest (A.set d (.rowO E Tb J (xs.drop lo))) fun A' l' => K A' ((A, { d := some d, ty := .rowO E Tb J (xs.drop lo), rs := opR x ++ opR y }) :: l')) : TOps P fr ops (⟨some d, .slice ty' x (some y) none none, t, p, e, none⟩ :: rest) A K :=
  tops_pure (opT_pure rfl rfl fun a w M _ hr _ => by
    obtain ⟨hdx, hdy⟩ := op2 hr
    rw [hx] at hdx; rw [hy] at hdy
    have h1 := hdx
    have ey : a.eval y = .int kd lo := hdy
    obtain ⟨_, D, _, hD, hkd, _⟩ := tab_info hT
    rw [hk] at hkd
    cases D <;> simp only [TK.of, reduceCtorEq, TK.slice.injEq] at hkd
    subst hkd
    have hsz := fun w => run_sizeOf' (P := P) hE w
    rcases h1 with ⟨hn, _⟩ | ⟨g, off, c, cur, ex, hg, hh, hn, hc, hsz2, hd⟩
    · subst hn; simp at h0
    have hlc : lo ≤ c := by omega
    have hrun : ∃ ad, (execOp a.eval ⟨some d, .slice ty' x (some y) none none, t, p, e, none⟩).run P w = .ok (.value (.slice (some ad) (xs.length - lo) (c - lo))) w ∧ ad = (if c = lo then (⟨g, off, none⟩ : Addr) else ⟨g, off + lo * E.size, none⟩) := by
      refine ⟨_, ?_, rfl⟩
      simp [execOp, ex, ey, Instr.sliceAt, Instr.slice, run_underlying hD, Instr.sliceBounds, Instr.sliceBound, asIntOf, hsz, hs, hn, hlo]
      by_cases hcl : c = lo
      · simp [hcl]
      · simp [hcl]; exact Addr.add_lit _ _ _
    obtain ⟨ad, hrun, had⟩ := hrun
    have hlen : (xs.drop lo).length = xs.length - lo := List.length_drop
    have key : dens w M ((xs.drop lo).flatMap E.tys) ((cur.toList.drop (off + lo * E.size)).take ((xs.drop lo).length * E.size)) := by
      have := dens_drop (lo * E.size) hd
      rw [List.drop_take, List.drop_drop, ← Nat.sub_mul] at this
      have e1 : (xs.flatMap E.tys).drop (lo * E.size) = (xs.drop lo).flatMap E.tys := by
        have : xs.flatMap E.tys = (xs.take lo).flatMap E.tys ++ (xs.drop lo).flatMap E.tys := by rw [← List.flatMap_append, List.take_append_drop]
        rw [this, List.drop_left' (by rw [flat_len, List.length_take, Nat.min_eq_left hlo])]
      rw [e1] at this
      rw [hlen]; exact this
    by_cases hcl : c = lo
    · rw [if_pos hcl] at had
      subst had
      refine ⟨_, hrun, .inr ⟨g, off, c - lo, cur, by rw [hlen], hg, hh, by rw [hlen]; omega, by omega, ?_, ?_⟩⟩
      · have : c - lo = 0 := by omega
        rw [this]; omega
      · have h0' : xs.drop lo = [] := List.eq_nil_of_length_eq_zero (by rw [hlen]; omega)
        rw [h0']; simp [dens]
    · rw [if_neg hcl] at had
      subst had
      refine ⟨_, hrun, .inr ⟨g, off + lo * E.size, c - lo, cur, by rw [hlen], hg, hh, by rw [hlen]; omega, by omega, ?_, key⟩⟩
      rw [Nat.add_assoc, ← Nat.add_mul, show lo + (c - lo) = c by omega]; exact hsz2) h
theorem r_appendO {x y : Operand} {st el : Nat} {ti te : TI} (hx : A.op fr x = .rowO E el J xs) (hy : A.op fr y = .sl E ys) (hJ : 4096 ≤ J) (hp : fr.pass.contains J = false) (hpos : 0 < ys.length) (hT : T.tab[st]? = some ti) (hk : ti.k = .slice el) (hE : T.tab[el]? = some te) (hs : te.size = E.size) (hz : te.zero.length = te.size) (h0 : 0 < te.size)
    (hlen : (xs.length + ys.length) * te.bytes ≤ 140737488355328) (hlen' : xs.length + ys.length ≤ 9223372036854775807)
    (h : TOps P fr ops rest (A.after { d := some d, ty := .rowO E el J (xs ++ ys), S := [J], rs := opR x ++ opR y }) fun A' l' => K A' ((A, { d := some d, ty := .rowO E el J (xs ++ ys), S := [J], rs := opR x ++ opR y }) :: l')) :
    TOps P fr ops (⟨some d, .call ⟨.builtin .append, #[x, y], #[st, st]⟩, t, p, e, none⟩ :: rest) A K := by
  refine ⟨_, opT_mem rfl rfl (by simp) (by simp; omega) (by simp) fun a w M wf hr htg => ?_, h⟩
  obtain ⟨hdx, hdy⟩ := op2 hr
  rw [hx] at hdx; rw [hy] at hdy
  have hrow := hdx
  obtain ⟨_, D, _, hD, hkd, _⟩ := tab_info hT
  rw [hk] at hkd
  cases D <;> simp only [TK.of, reduceCtorEq, TK.slice.injEq] at hkd
  subst hkd
  rename_i el
  obtain ⟨i, _, hi, _, _, hsz, hby, hze⟩ := tab_info hE
  obtain ⟨zz, hiz, hzc⟩ : ∃ z, i.zero = some z ∧ z.cells.size = i.size := by
    cases hiz : i.zero with
    | none => rw [hiz] at hze; rw [← hze] at hz; simp at hz; omega
    | some z => rw [hiz] at hze; exact ⟨z, rfl, by simp at hze; rw [hsz, ← hz, ← hze]; simp⟩
  obtain ⟨ad, c', ey, hc1, hc2, hpp⟩ := hdy
  obtain ⟨b', off', rfl, hp'⟩ := hpp hpos
  obtain ⟨news, hn1, hn2, hn3⟩ := pub_cells hp' _ (Nat.le_refl _)
  rw [List.take_length] at hn2
  have hnl : news.length = ys.length * i.size := by rw [hn1, flat_len, hsz, hs]
  have hnews : ∀ j u, news[j]? = some u → w.cell? ((⟨b', off', none⟩ : Addr).add j) = some u := fun j u hj => by rw [Addr.add_lit]; exact hn3 j u hj
  have hones := dens_ones hn2 (flat_ones E ys)
  have hesz : E.size = i.size := by rw [hsz, hs]
  -- behind a growth
  have grown : ∀ (olds : List Value) (cap : Nat), dens w M (xs.flatMap E.tys) olds → cap < xs.length + ys.length →
      (Builtin.append_ #[st, st] t #[a.eval x, a.eval y]).run P w = .ok (.slice (some ⟨w.heap.size, 0, none⟩) (xs.length + ys.length) (grownCap w (xs.length + ys.length) cap el)) (w.drew.alloc (.cells (olds.toArray ++ news.toArray ++ Builtin.zeroCells zz.cells (grownCap w (xs.length + ys.length) cap el - (xs.length + ys.length))) el)) →
      ∃ v w', (execOp a.eval ⟨some d, .call ⟨.builtin .append, #[x, y], #[st, st]⟩, t, p, e, none⟩).run P w = .ok (.value v) w' ∧ Fx.left { d := some d, ty := .rowO E el J (xs ++ ys), S := [J], rs := opR x ++ opR y } w M w' v := by
    intro olds cap hdo hcap hrun
    have holen : olds.length = xs.length * i.size := by rw [dens_len hdo, flat_len, hesz]
    have hge := grownCap_ge w (xs.length + ys.length) cap el
    have hcm : grownCap w (xs.length + ys.length) cap el ≤ maxLen := grownCap_le_maxLen w (xs.length + ys.length) cap el (by simp only [maxLen]; omega)
    have hsize : (w.drew.alloc (.cells (olds.toArray ++ news.toArray ++ Builtin.zeroCells zz.cells (grownCap w (xs.length + ys.length) cap el - (xs.length + ys.length))) el)).heap.size = w.heap.size + 1 := by simp
    have hold : ∀ b2, b2 < w.heap.size → (w.drew.alloc (.cells (olds.toArray ++ news.toArray ++ Builtin.zeroCells zz.cells (grownCap w (xs.length + ys.length) cap el - (xs.length + ys.length))) el)).heap[b2]? = w.heap[b2]? := fun b2 h => Below.heap_alloc w.drew _ b2 h
    have hnew : (w.drew.alloc (.cells (olds.toArray ++ news.toArray ++ Builtin.zeroCells zz.cells (grownCap w (xs.length + ys.length) cap el - (xs.length + ys.length))) el)).heap[w.heap.size]? = some (.cells (olds.toArray ++ news.toArray ++ Builtin.zeroCells zz.cells (grownCap w (xs.length + ys.length) cap el - (xs.length + ys.length))) el (0, 0)) := alloc_new w.drew _
    have hos : (w.drew.alloc (.cells (olds.toArray ++ news.toArray ++ Builtin.zeroCells zz.cells (grownCap w (xs.length + ys.length) cap el - (xs.length + ys.length))) el)).os = w.os ∧ (w.drew.alloc (.cells (olds.toArray ++ news.toArray ++ Builtin.zeroCells zz.cells (grownCap w (xs.length + ys.length) cap el - (xs.length + ys.length))) el)).tape = w.tape ∧ (w.drew.alloc (.cells (olds.toArray ++ news.toArray ++ Builtin.zeroCells zz.cells (grownCap w (xs.length + ys.length) cap el - (xs.length + ys.length))) el)).output = w.output := ⟨rfl, rfl, rfl⟩
    have hcs : (olds.toArray ++ news.toArray ++ Builtin.zeroCells zz.cells (grownCap w (xs.length + ys.length) cap el - (xs.length + ys.length))).size = grownCap w (xs.length + ys.length) cap el * i.size := by
      simp only [Array.size_append, List.size_toArray, size_zeroCells, hzc, holen, hnl, ← Nat.add_mul]
      congr 1
      omega
    have htk : ((olds.toArray ++ news.toArray ++ Builtin.zeroCells zz.cells (grownCap w (xs.length + ys.length) cap el - (xs.length + ys.length))).toList.drop 0).take ((xs ++ ys).length * E.size) = olds ++ news := by
      rw [List.drop_zero]
      simp only [Array.toList_append]
      rw [List.take_left' (by rw [List.length_append, holen, hnl, List.length_append, hesz, Nat.add_mul])]
    generalize hw' : (w.drew.alloc (.cells (olds.toArray ++ news.toArray ++ Builtin.zeroCells zz.cells (grownCap w (xs.length + ys.length) cap el - (xs.length + ys.length))) el)) = w' at *
    generalize hcu : (olds.toArray ++ news.toArray ++ Builtin.zeroCells zz.cells (grownCap w (xs.length + ys.length) cap el - (xs.length + ys.length))) = cu at *
    have le : Le (· ∈ [J]) (· ∈ ([] : List Nat)) w M w' (fun b2 => if b2 = w.heap.size then some J else M b2) :=
      ⟨by omega, hos.1, hos.2.1, hos.2.2, fun b2 hb2 hm => ⟨by rw [if_neg (by omega)]; exact hm, hold b2 hb2⟩, fun b2 u hm _ => by
        have := wf.lt b2 u hm
        exact ⟨by rw [if_neg (by omega)]; exact hm, fun _ => hold b2 this⟩⟩
    have le0 : Le (· ∈ ([] : List Nat)) (· ∈ ([] : List Nat)) w M w' (fun b2 => if b2 = w.heap.size then some J else M b2) :=
      ⟨by omega, hos.1, hos.2.1, hos.2.2, fun b2 hb2 hm => ⟨by rw [if_neg (by omega)]; exact hm, hold b2 hb2⟩, fun b2 u hm _ => by
        have := wf.lt b2 u hm
        exact ⟨by rw [if_neg (by omega)]; exact hm, fun _ => hold b2 this⟩⟩
    have wf' : Wf w' (fun b2 => if b2 = w.heap.size then some J else M b2) := by
      refine ⟨fun b2 u hm => ?_, fun b2 b3 u ht1 hm hm' => ?_⟩
      · split at hm
        · omega
        · have := wf.lt b2 u hm; omega
      · split at hm
        · injection hm with hm; omega
        · split at hm'
          · injection hm' with hm'; omega
          · exact wf.inj b2 b3 u ht1 hm hm'
    refine ⟨.slice (some ⟨w.heap.size, 0, none⟩) (xs.length + ys.length) (grownCap w (xs.length + ys.length) cap el), w', by simp [execOp, resolve, invoke, builtin, hrun], _, wf', le, .inr ⟨w.heap.size, 0, grownCap w (xs.length + ys.length) cap el, cu, by rw [List.length_append], by simp, hnew, by rw [List.length_append]; exact hge, hcm, by rw [hcs, hesz]; omega, ?_⟩, by simp⟩
    rw [htk, List.flatMap_append]
    exact dens_app (dens_mono le0 (by rw [E.flat_deps]; intro _ h; cases h) (by rw [E.flat_cdeps]; intro _ h; cases h) hdo) (dens_mono le0 (by rw [E.flat_deps]; intro _ h; cases h) (by rw [E.flat_cdeps]; intro _ h; cases h) hn2)
  rcases hrow with ⟨hxe, ex⟩ | ⟨g, off, cap, cur, ex, hg, hh, hxc, hcm, hfit, hdx⟩
  · have hrn := run_append_nil (P := P) w st t el i zz hD hi hiz ⟨b', off', none⟩ ys.length c' news hnl hnews hpos (by omega) (by rw [hby]; have := hlen; rw [Nat.add_mul] at this; omega)
    subst hxe
    refine grown [] 0 trivial (by simpa using hpos) ?_
    rw [ex, ey]
    simpa using hrn
  · by_cases hroom : xs.length + ys.length ≤ cap
    · -- in place
      have hm : (xs.length + ys.length) * E.size ≤ cap * E.size := Nat.mul_le_mul_right _ hroom
      rw [Nat.add_mul] at hm
      have hcf : off + xs.length * i.size + news.length ≤ cur.size := by rw [hnl, ← hesz]; omega
      have hf := run_firstCells_some (P := P) w i.size ys.length ⟨b', off', none⟩ ys.length c' news hnl hnews
      have hst := run_storeCells_at (P := P) g (off + xs.length * i.size) el news 0 cur w hh (by simpa using hcf) hones
      rw [setRow_set _ hh] at hst
      simp only [Nat.add_zero] at hst
      obtain ⟨h1', h2', h3'⟩ := store_le (cs' := (cur.toList.take (off + xs.length * i.size) ++ news ++ cur.toList.drop (off + xs.length * i.size + news.length)).toArray) (Tb := el) wf hg _ rfl
      have hrun : (Builtin.append_ #[st, st] t #[a.eval x, a.eval y]).run P w = .ok (.slice (some ⟨g, off, none⟩) (xs.length + ys.length) cap) { w with heap := w.heap.setIfInBounds g (.cells (cur.toList.take (off + xs.length * i.size) ++ news ++ cur.toList.drop (off + xs.length * i.size + news.length)).toArray el (0, 0)) } := by
        rw [ex, ey]
        simp [Builtin.append_, run_underlying hD, sizeOf, typeInfo, hi, Builtin.lenOf, hroom, hf, Addr.add_lit, hst]
      have le : Le (· ∈ [J]) (· ∈ ([] : List Nat)) w M { w with heap := w.heap.setIfInBounds g (.cells (cur.toList.take (off + xs.length * i.size) ++ news ++ cur.toList.drop (off + xs.length * i.size + news.length)).toArray el (0, 0)) } M :=
        h2'.weaken (fun u hu => by simp only [List.mem_singleton] at hu; subst hu; simp) (fun _ h => by cases h)
      refine ⟨.slice (some ⟨g, off, none⟩) (xs.length + ys.length) cap, _, by simp [execOp, resolve, invoke, builtin, hrun], M, h1', le, .inr ⟨g, off, cap, _, by rw [List.length_append], hg, h3', by rw [List.length_append]; exact hroom, hcm, ?_, ?_⟩, by simp⟩
      · simp only [List.size_toArray, List.length_append, List.length_take, List.length_drop, Array.length_toList]
        omega
      · rw [List.length_append, Nat.add_mul, hesz, ← hnl, List.toList_toArray, put_take _ _ _ _ (by simpa using hcf), List.flatMap_append]
        refine dens_mono h2' (by rw [← List.flatMap_append, E.flat_deps]; intro _ h; cases h) (by rw [← List.flatMap_append, E.flat_cdeps]; intro _ h; cases h) (dens_app ?_ hn2)
        rw [← hesz]; exact hdx
    · have holds : ∀ j u, ((cur.toList.drop off).take (xs.length * E.size))[j]? = some u → w.cell? ((⟨g, off, none⟩ : Addr).add j) = some u := fun j u hj => by
        rw [List.getElem?_take] at hj
        split at hj
        · rw [List.getElem?_drop] at hj
          rw [Addr.add_lit]
          simpa [World.cell?, hh] using hj
        · cases hj
      have hol : ((cur.toList.drop off).take (xs.length * E.size)).length = xs.length * i.size := by rw [dens_len hdx, flat_len, hesz]
      have hrn := run_append_grow (P := P) w st t el i zz hD hi hiz ⟨g, off, none⟩ xs.length cap _ hol holds ⟨b', off', none⟩ ys.length c' news hnl hnews (by omega) (by omega) (growslice_fits (by omega) (by rw [hby]; exact hlen))
      refine grown _ cap hdx (by omega) ?_
      rw [ex, ey]
      exact hrn
end
section
variable {P : Program} {fr : Fr} {A : As} {c : Code} {Q : Exit → Act → World → Prop}
theorem t_toO {α : Type} {E : El α} {T Tc J tg c0 : Nat} {xs : List α} (hc : A.tag c0 = some (.cells Tc [.row E T tg xs])) (h1 : Tag1 tg) (hne : Nat.beq c0 tg = false) (hJ : 4096 ≤ J) (hp : fr.pass.contains tg = false)
    (h : Tri P fr c ⟨killSlots [] [tg] A.slots, (c0, .cells Tc [.rowO E T J xs]) :: killTags [] [tg] A.tags⟩ Q) : Tri P fr c A Q := fun a w ⟨M, ok, hsl, ht⟩ => by
  have le : Le (· ∈ ([] : List Nat)) (· ∈ [tg]) w M w (giveJ M tg J) := giveJ_le
  refine h a w ⟨giveJ M tg J, ⟨giveJ_wf hJ ok.wf, Fr.base_step ok.base (by intro _ h; cases h) (fun t ht => by simp only [List.mem_singleton] at ht; subst ht; exact ⟨h1.1, by simpa using hp⟩) le, ok.size, ok.defers.step (by intro _ h; cases h) (fun t ht => by simp only [List.mem_singleton] at ht; subst ht; exact h1.1) le⟩, fun i hi => ?_, fun x hx => ?_⟩
  · rcases killSlots_spec [] [tg] A.slots i with ⟨e, hdj⟩ | ⟨_, e⟩
    · show (killSlots [] [tg] A.slots i).den _ _ _
      rw [e]; exact (A.slots i).mono le (safe_spec hdj).1 (safe_spec hdj).2 (hsl i hi)
    · show (killSlots [] [tg] A.slots i).den _ _ _
      rw [e]; trivial
  · rcases List.mem_cons.1 hx with rfl | hx
    · obtain ⟨b, cs, hb, hh, hd⟩ := ht _ (tag_mem hc)
      refine ⟨b, cs, ?_, hh, ?_⟩
      · unfold giveJ
        rw [if_neg]
        · exact hb
        · rw [hb]; intro e; injection e with e; have e : c0 = tg := e; rw [e] at hne; simp at hne
      · obtain ⟨cs⟩ := cs
        match cs, hd with
        | [v], ⟨⟨vs, hown, hcs, hM⟩, _⟩ =>
          refine ⟨?_, trivial⟩
          rcases hown.2 with ⟨ez, h0⟩ | ⟨g, cap, cur, ez, _, hh, hnc, hcap, hsz, htk⟩
          · exact .inl ⟨List.length_eq_zero_iff.1 h0, ez⟩
          · have hg : M g = some tg := hM g (by rw [ez]; rfl)
            refine .inr ⟨g, 0, cap, cur, ez, by simp [giveJ, hg], hh, hnc, hcap, by omega, ?_⟩
            rw [List.drop_zero, htk]
            exact dens_mono (giveJ_le (w := w)) (by rw [E.flat_deps]; intro _ h; cases h) (by rw [E.flat_cdeps]; intro _ h; cases h) hcs
    · exact killTags_den le hx fun y hy _ => ht y hy
end
end Go.T

namespace Go.Proofs.YtpnndljmhpepgaaGreat
open Go Go.T
set_option maxHeartbeats 16000000
theorem roundsV_1 {b : Barn} {g : Int} (h : ¬ askE b g = 0) : roundsV b g = [] := if_neg h
theorem roundsE_1 {b : Barn} {g : Int} (h : ¬ askE b g = 0) : roundsE b g = askE b g := if_neg h
theorem roundsV_2 {b : Barn} {g : Int} {f : Found} (h : askE b g = 0) (e : roundsM b g = f) (hf : f.is = true) : chainM f.ways (firstP b) f.last = roundsV b g := by unfold roundsV; rw [if_pos h, e, if_pos hf]
theorem roundsE_2 {b : Barn} {g : Int} {f : Found} (h : askE b g = 0) (e : roundsM b g = f) (hf : f.is = true) : roundsE b g = 0 := by unfold roundsE; rw [if_pos h, e, if_pos hf]
theorem roundsV_3 {b : Barn} {g : Int} {f : Found} (h : askE b g = 0) (e : roundsM b g = f) (hf : f.is = false) : roundsV b g = [] := by unfold roundsV; rw [if_pos h, e, if_neg (by rw [hf]; decide)]
theorem roundsE_3 {b : Barn} {g : Int} {f : Found} (h : askE b g = 0) (e : roundsM b g = f) (hf : f.is = false) : roundsE b g = 7 := by unfold roundsE; rw [if_pos h, e, if_neg (by rw [hf]; decide)]
theorem chain_found {b : Barn} {g : Int} {f : Found} (hr : b.Right) (hg : 0 ≤ g) (e : roundsM b g = f) (hf : f.is = true) : Chain f.ways (firstP b) f.last (chainM f.ways (firstP b) f.last) ∧ (chainM f.ways (firstP b) f.last).length ≤ 40000000 := by
  obtain ⟨h, _⟩ := rounds_spec (g := g) hr hg
  rw [e] at h
  obtain ⟨L, h1, _, _, h2, _⟩ := h.yes hf
  rw [chainM_spec h1]; exact ⟨h1, h2⟩
theorem queue_yes {n : Nat} (h : (decide ((n : Int) > 0) && !false) = true) : 0 < n := by
  simp only [Bool.and_eq_true, decide_eq_true_eq] at h; omega
theorem queue_no {n : Nat} (h : (decide ((n : Int) > 0) && !false) = false) : n = 0 := by
  simp only [Bool.not_false, Bool.and_true, decide_eq_false_iff_not] at h; omega
theorem not_b' {b : Bool} (h : (!b) = false) : b = true := by cases b <;> first | rfl | cases h
theorem not_a' {b : Bool} (h : (!b) = true) : b = false := by cases b <;> first | rfl | cases h
attribute [local irreducible] dInt dBool dSl dPp dPtr dAgg dTup dClo dAny dEx dStr dGd dCells dVec dVs dRow dOp nth Tri Into TOps Ctr bodyPost Exit.then Exit.inBlock Code.wp Code.wpIn dWhen dPa dPe dAo dArr dMp dPm dMap dCJ CtrG CtrI OpY keepPost iterPost bodyPostM roundQ
set_option maxRecDepth 100000 in
theorem c_asked (b : Barn) (hs : b.Small) (g : Int) : Ctr Tryz.prog 44 [barnT b, Ty.int .i64 g] (Ty.tup [Ty.when (decide (askE b g = 0)) (Ty.pe DeskE ⟨b, firstP b⟩ 0), Ty.int .i64 (askE b g)]) := by
  refine fn_intro Tryz.func44 rfl (by decide) Tryz.ntmps44 (by exact Nat.le_of_ble_eq_true rfl) fun w0 M0 => ?_
  refine t_seq ?_
  refine t_region ?_
  refine r_box_agg rfl ?_
  refine asX rfl ?_
  refine asI rfl ?_
  refine r_nil ?_
  refine i_then ?_
  refine t_seq ?_
  refine t_region ?_
  refine r_load_ppN rfl rfl rfl (by exact Nat.le_of_ble_eq_true rfl) ?_
  refine r_call (c_open b hs) rfl rfl rfl rfl rfl ?_
  refine mvT rfl ?_
  refine r_extract rfl rfl ?_
  refine r_extract rfl rfl ?_
  refine asW rfl ?_
  refine asI rfl ?_
  refine r_nil ?_
  refine i_then ?_
  refine t_seq ?_
  refine t_seq ?_
  refine t_region ?_
  refine mvI rfl ?_
  refine r_bin rfl rfl rfl ?_
  refine mvB rfl ?_
  apply r_guard (s := 15) rfl rfl rfl
  · intro hg; apply opT_of; (refine mvI rfl ?_); refine r_nil ?_; exact rfl
  · exact rfl
  · exact rfl
  apply r_guard (s := 15) rfl rfl rfl
  · intro hg; apply opT_strip (s := 16) rfl (by (rw [hg]; rfl)); apply opT_of; (refine r_call (c_in _ _ _) rfl rfl rfl rfl rfl ?_); refine r_nil ?_; exact rfl
  · exact rfl
  · exact rfl
  apply r_guard (s := 15) rfl rfl rfl
  · intro hg; apply opT_strip (s := 17) rfl (by (rw [hg]; rfl)); apply opT_of; (refine r_not rfl ?_); refine r_nil ?_; exact rfl
  · exact rfl
  · exact rfl
  refine r_and rfl rfl ?_
  refine r_nil ?_
  refine i_then ?_
  refine t_cond rfl (fun hc1 => ?_) (fun hc1 => ?_)
  ·
    refine t_seq ?_
    refine t_region ?_
    refine asX rfl ?_
    refine asI rfl ?_
    refine r_nil ?_
    refine i_then ?_
    refine t_ret ?_
    refine i_then_ret ?_
    refine i_rp2 rfl rfl rfl ?_ ?_
    all_goals skip
    all_goals first | exact ret_sub rfl rfl (Ty.sub_when rfl fun h => absurd (of_decide_eq_true h) (by rw [ask_3 hc1]; decide)) | exact ret_eq rfl rfl (congrArg (Ty.int .i64) (ask_3 hc1).symm)
  ·
    refine t_skip ?_
    refine i_then ?_
    refine t_seq ?_
    refine t_region ?_
    refine mvW rfl ?_
    refine mvI rfl ?_
    refine asW rfl ?_
    refine asI rfl ?_
    refine r_nil ?_
    refine i_then ?_
    refine t_ret ?_
    refine i_rp2 rfl rfl rfl ?_ ?_
    all_goals skip
    all_goals first | exact ret_sub rfl rfl (Ty.sub_when rfl fun h => Ty.when_sub (by rw [← ask_ok hc1]; exact h)) | exact ret_eq rfl rfl (congrArg (Ty.int .i64) (ask_ok hc1).symm)
set_option maxRecDepth 100000 in
theorem c_Rounds (b : Barn) (hs : b.Small) (g : Int) : Ctr Tryz.prog 14 [barnT b, Ty.int .i64 g] (Ty.tup [Ty.sl RowT (roundsV b g), Ty.int .i64 (roundsE b g)]) := by
  refine fnM_intro Tryz.func14 rfl (by decide) Tryz.ntmps14 (by exact Nat.le_of_ble_eq_true rfl) fun w0 M0 => ?_
  refine t_seq ?_
  refine t_region ?_
  refine r_box_agg rfl ?_
  refine asX rfl ?_
  refine asI rfl ?_
  refine r_nil ?_
  refine i_then ?_
  refine t_seq ?_
  refine t_region ?_
  refine r_load_ppN rfl rfl rfl (by exact Nat.le_of_ble_eq_true rfl) ?_
  refine mvI rfl ?_
  refine r_call (c_asked b hs g) rfl rfl rfl rfl rfl ?_
  refine mvT rfl ?_
  refine r_extract rfl rfl ?_
  refine r_extract rfl rfl ?_
  refine asW rfl ?_
  refine asI rfl ?_
  refine r_nil ?_
  refine i_then ?_
  refine t_seq ?_
  refine t_seq ?_
  refine t_region ?_
  refine mvI rfl ?_
  refine r_bin rfl rfl rfl ?_
  refine r_nil ?_
  refine i_then ?_
  refine t_cond_ndec rfl (fun hc1 => ?_) (fun hc1 => ?_)
  ·
    refine t_seq ?_
    refine t_region ?_
    refine mvI rfl ?_
    refine asX rfl ?_
    refine asI rfl ?_
    refine r_nil ?_
    refine i_then ?_
    refine t_ret ?_
    refine i_then_ret ?_
    refine m_ret rfl ?_
    refine i_rp2 rfl rfl rfl ?_ ?_
    all_goals skip
    all_goals first | exact ret_nil_eq (roundsV_1 hc1) | exact ret_eq rfl rfl (congrArg (Ty.int .i64) (roundsE_1 hc1).symm)
  ·
    refine t_skip ?_
    refine i_then ?_
    refine t_seq ?_
    have hask := ask_zero hc1
    have hr := check_right hask.1
    have h6 := hr.lots
    have hg : 0 ≤ g := by omega
    have hN := placesN_eq
    refine t_as (s := 6) rfl (Ty.when_sub (decide_eq_true hc1)) ?_
    refine t_region ?_
    refine r_makeMap (encN 6) WayV mapT121 rfl ?_
    refine mvPe rfl ?_
    refine r_nilCheck_pe rfl ?_
    refine r_field_pe rfl rfl rfl rfl rfl (by decide) ?_
    refine r_load_peN rfl rfl rfl rfl rfl ?_
    refine r_build rfl rfl (by exact List.cons_ne_nil _ _) rfl (by repeat (exact (Parts.nil : Parts _ _ [] _))) (by exact rfl) ?_
    refine r_insert (r_mapUpdateS plKey (k := firstP b) (v := way0) rfl rfl (by decide) rfl (key_pl (firstP b)) rfl way0_sub mapT121 ?_)
    refine mvM rfl ?_
    refine r_build rfl rfl (by exact List.cons_ne_nil _ _) rfl (by repeat (first | exact (Parts.nil : Parts _ _ [] _) | (show Parts _ _ ((_, _) :: _) _; apply Parts.one; (· exact (rfl : _ = Ty.mp _)); (· exact rfl)))) (by exact rfl) ?_
    refine r_alloc rfl (by exact List.cons_ne_nil _ _) rfl ?_
    refine r_storeN rfl rfl (by decide) rfl rfl rfl rfl rfl rfl ?_
    refine r_nil ?_
    refine i_then ?_
    refine t_seq ?_
    refine t_forget (B := live [(1, Ty.int .i64 g), (6, Ty.pe DeskE ⟨b, firstP b⟩ 0), (8, Ty.ptr 9 0)] [(9, Cont.cells 98 [Ty.mp 27, Ty.int .i64 0, Ty.int .i64 0, Ty.int .i64 0, Ty.int .i64 0, Ty.int .i64 0, Ty.int .i64 0, Ty.bool false]), (27, Cont.mp (encN 6) WayV (rst0 b).ways)]) ?_ ?_
    · (refine Ent.mk' ?_ ?_ <;> (repeat' (first | exact allSub_zero | exact allTags_nil | refine allSub_succ' ?_ (Ty.sub_any _) | refine allSub_succ' ?_ (Ty.sub_refl _) | refine allTags_cons rfl (Cont.sub_refl _) ?_)))
    refine t_region ?_
    refine mvPe rfl ?_
    refine r_nilCheck_pe rfl ?_
    refine r_field_pe rfl rfl rfl rfl rfl (by decide) ?_
    refine r_load_peN rfl rfl rfl rfl rfl ?_
    refine r_buildRowN (E := PlE) (xs := [firstP b]) rfl rfl rfl rfl rfl (by decide) (by decide) (by repeat (first | exact (Parts.nil : Parts _ _ [] _) | (show Parts _ _ ((_, _) :: _) _; apply Parts.agg; (· exact (rfl : _ = Ty.agg _))))) (by exact rfl) rfl rfl ?_
    refine r_alloc rfl (by exact List.cons_ne_nil _ _) rfl ?_
    refine r_store1 rfl rfl (by decide) rfl rfl (by exact (rfl : _ = Ty.row _ _ _ _)) rfl (by exact Nat.le_of_ble_eq_true rfl) rfl rfl (by exact (rfl : _ = [_])) ?_
    refine r_nil ?_
    refine i_then ?_
    refine t_seq ?_
    refine t_toO (J := 4100) (tg := 39) (c0 := 10) rfl (by decide) rfl (by decide) rfl ?_
    refine t_block ?_
    refine t_loop (fun (x : {x : RSt // RIxs b g x ∧ x.queue.length ≤ x.ways.length + 1}) => live [(1, Ty.int .i64 g), (6, Ty.pe DeskE ⟨b, firstP b⟩ 0), (8, Ty.ptr 9 0), (9, Ty.ptr 10 0)] [(9, Cont.cells 98 [Ty.mp 27, Ty.int .i64 0, Ty.int .i64 0, Ty.int .i64 0, Ty.int .i64 0, Ty.int .i64 0, Ty.int .i64 0, Ty.bool false]), (10, Cont.cells 99 [Ty.rowO PlE 91 4100 x.1.queue]), (27, Cont.mp (encN 6) WayV x.1.ways)]) (fun x => muR x.1) (⟨rst0 b, rixs0 hr, by simp [rst0]⟩) ?_ fun x => ?_
    · (refine Ent.mk' ?_ ?_ <;> (repeat' (first | exact allSub_zero | exact allTags_nil | refine allSub_succ' ?_ (Ty.sub_any _) | refine allSub_succ' ?_ (Ty.sub_refl _) | refine allTags_cons rfl (Cont.sub_refl _) ?_)))
    ·
      refine t_seq ?_
      refine t_seq ?_
      refine t_region ?_
      refine r_load_ptr rfl rfl (by decide) rfl rfl rfl ?_
      refine r_lenO rfl rfl rfl ?_
      refine r_bin rfl rfl rfl ?_
      refine mvB rfl ?_
      apply r_guard (s := 42) rfl rfl rfl
      · intro hg; apply opT_of; (refine r_field_ptr rfl rfl rfl rfl rfl (by decide) ?_); refine r_nil ?_; exact rfl
      · exact rfl
      · exact rfl
      apply r_guard (s := 42) rfl rfl rfl
      · intro hg; apply opT_strip (s := 43) rfl (by (rw [hg]; rfl)); apply opT_of; (refine r_load_ptr rfl rfl (by decide) rfl rfl rfl ?_); refine r_nil ?_; exact rfl
      · exact rfl
      · exact rfl
      apply r_guard (s := 42) rfl rfl rfl
      · intro hg; apply opT_strip (s := 44) rfl (by (rw [hg]; rfl)); apply opT_of; (refine r_not rfl ?_); refine r_nil ?_; exact rfl
      · exact rfl
      · exact rfl
      refine r_and rfl rfl ?_
      refine r_nil ?_
      refine i_then ?_
      refine t_cond rfl (fun hc2 => ?_) (fun hc2 => ?_)
      ·
        refine t_skip ?_
        refine i_then ?_
        refine t_block ?_
        refine t_seq ?_
        have hlen : 0 < x.1.queue.length := queue_yes hc2
        refine t_region ?_
        refine r_load_ptr rfl rfl (by decide) rfl rfl rfl ?_
        refine r_indexO (i := 0) rfl rfl rfl rfl rfl rfl hlen ?_
        refine r_load_opN rfl rfl rfl (by exact Nat.le_of_ble_eq_true rfl) ?_
        refine r_alloc rfl (by exact List.cons_ne_nil _ _) rfl ?_
        refine r_storeN rfl rfl (by decide) rfl rfl rfl rfl rfl rfl ?_
        refine r_nil ?_
        refine i_then ?_
        refine t_seq ?_
        refine t_region ?_
        refine r_load_ptr rfl rfl (by decide) rfl rfl rfl ?_
        refine r_cutO (lo := 1) rfl rfl rfl rfl rfl rfl hlen hlen ?_
        refine r_store1 (ty := Ty.rowO PlE 91 4100 (x.1.queue.drop 1)) rfl rfl (by decide) rfl rfl rfl rfl (by exact Nat.le_of_ble_eq_true rfl) rfl rfl (by exact (rfl : _ = [_])) ?_
        refine r_nil ?_
        refine i_then ?_
        refine t_seq ?_
        refine t_seq ?_
        refine t_forget (B := live [(1, Ty.int .i64 g), (6, Ty.pe DeskE ⟨b, firstP b⟩ 0), (8, Ty.ptr 9 0), (9, Ty.ptr 10 0), (10, Ty.ptr 11 0)] [(9, Cont.cells 98 [Ty.mp 27, Ty.int .i64 0, Ty.int .i64 0, Ty.int .i64 0, Ty.int .i64 0, Ty.int .i64 0, Ty.int .i64 0, Ty.bool false]), (10, Cont.cells 99 [Ty.rowO PlE 91 4100 (restR x.1).queue]), (11, Cont.cells 91 (plT (headR x.1))), (27, Cont.mp (encN 6) WayV x.1.ways)]) ?_ ?_
        · (refine Ent.mk' ?_ ?_ <;> (repeat' (first | exact allSub_zero | exact allTags_nil | refine allSub_succ' ?_ (Ty.sub_any _) | refine allSub_succ' ?_ (Ty.sub_refl _) | refine allTags_cons rfl (Cont.sub_refl _) ?_)))
        refine t_region ?_
        refine mvPe rfl ?_
        refine r_load_ptrN rfl rfl (by decide) rfl rfl (by exact Nat.le_of_ble_eq_true rfl) ?_
        refine r_call (c_made ⟨b, firstP b⟩ h6 (headR x.1)) rfl rfl rfl rfl rfl ?_
        refine r_nil ?_
        refine i_then ?_
        refine t_cond rfl (fun hc3 => ?_) (fun hc3 => ?_)
        ·
          refine t_seq ?_
          refine t_region ?_
          refine r_load_ptrN rfl rfl (by decide) rfl rfl (by exact Nat.le_of_ble_eq_true rfl) ?_
          refine r_field_ptr rfl rfl rfl rfl rfl (by decide) ?_
          refine r_storeO rfl rfl (by decide) rfl rfl rfl (by exact Nat.le_of_ble_eq_true rfl) rfl rfl rfl rfl ?_
          refine r_field_ptr rfl rfl rfl rfl rfl (by decide) ?_
          refine r_store1 rfl rfl (by decide) rfl rfl (by exact (rfl : _ = Ty.bool _)) rfl (by exact Nat.le_of_ble_eq_true rfl) rfl rfl (by exact rfl) ?_
          refine r_nil ?_
          refine i_then ?_
          refine t_exit ?_
          refine i_then_exit ?_
          refine i_block_exit' rfl ?_
          refine i_then_exit ?_
          refine i_block_exit rfl ?_
          refine i_then ?_
          refine t_seq ?_
          refine t_seq ?_
          refine t_region ?_
          refine r_field_ptr rfl rfl rfl rfl rfl (by decide) ?_
          refine r_load_ptr rfl rfl (by decide) rfl rfl rfl ?_
          refine r_not rfl ?_
          refine r_nil ?_
          refine i_then ?_
          refine t_cond_ff rfl (rfl) ?_
          refine t_skip ?_
          refine i_then ?_
          refine t_seq ?_
          have hfm : roundsM b g = ⟨x.1.ways, headR x.1, true⟩ := x.2.1.same.stop (stepR_found (rowR hlen) hc3)
          have hch := chain_found hr hg hfm rfl
          refine t_pubC (tg := 27) [] [(9, Cont.cells 98 [Ty.pm (encN 6) WayV x.1.ways, Ty.int .i64 (nth (headR x.1).1 0), Ty.int .i64 (nth (headR x.1).1 1), Ty.int .i64 (nth (headR x.1).1 2), Ty.int .i64 (nth (headR x.1).1 3), Ty.int .i64 (nth (headR x.1).1 4), Ty.int .i64 (nth (headR x.1).1 5), Ty.bool true])] (by decide) rfl trivial ⟨pubC_cells rfl rfl ⟨pubTy_mp rfl (by decide), pubTy_same rfl, pubTy_same rfl, pubTy_same rfl, pubTy_same rfl, pubTy_same rfl, pubTy_same rfl, pubTy_same rfl, trivial⟩, trivial⟩ ?_
          refine t_forget (B := live [(6, Ty.pe DeskE ⟨b, firstP b⟩ 0), (8, Ty.ptr 9 0)] [(9, Cont.cells 98 (foundTys ⟨x.1.ways, headR x.1, true⟩))]) ?_ ?_
          · (refine Ent.mk' ?_ ?_ <;> (repeat' (first | exact allSub_zero | exact allTags_nil | refine allSub_succ' ?_ (Ty.sub_any _) | refine allSub_succ' ?_ (Ty.sub_refl _) | refine allTags_cons rfl (Cont.sub_refl _) ?_)))
          refine t_draw mixed rfl ?_
          refine r_load_ptrN rfl rfl (by decide) rfl rfl (by exact Nat.le_of_ble_eq_true rfl) ?_
          refine mvPe rfl ?_
          refine r_nilCheck_pe rfl ?_
          refine r_field_pe rfl rfl rfl rfl rfl (by decide) ?_
          refine r_load_peN rfl rfl rfl rfl rfl ?_
          refine r_call (c_plan ⟨x.1.ways, headR x.1, true⟩ (firstP b) _ hch.1 hch.2) rfl rfl rfl rfl rfl ?_
          refine asS rfl ?_
          refine asI rfl ?_
          refine r_nil ?_
          refine ⟨by kernel_rfl, ?_⟩
          refine i_then ?_
          refine t_ret ?_
          refine m_ret rfl ?_
          refine i_rp2 rfl rfl rfl ?_ ?_
          all_goals skip
          all_goals first | exact ret_eq rfl rfl (congrArg (Ty.sl RowT) (roundsV_2 hc1 hfm rfl)) | exact ret_eq rfl rfl (congrArg (Ty.int .i64) (roundsE_2 hc1 hfm rfl).symm)
        ·
          refine t_skip ?_
          refine i_then ?_
          refine t_seq ?_
          refine t_region ?_
          refine mvPe rfl ?_
          refine r_load_ptrN rfl rfl (by decide) rfl rfl (by exact Nat.le_of_ble_eq_true rfl) ?_
          refine mvI rfl ?_
          refine r_call (c_rounds ⟨b, firstP b⟩ (headR x.1) g) rfl rfl rfl rfl rfl ?_
          refine r_nil ?_
          refine i_then ?_
          refine t_block ?_
          refine t_rangeFunc (ps := [62]) (lk [(1, Ty.int .i64 g), (6, Ty.pe DeskE ⟨b, firstP b⟩ 0), (8, Ty.ptr 9 0), (9, Ty.ptr 10 0), (10, Ty.ptr 11 0)]) (fun k => [(9, Cont.cells 98 [Ty.mp 27, Ty.int .i64 0, Ty.int .i64 0, Ty.int .i64 0, Ty.int .i64 0, Ty.int .i64 0, Ty.int .i64 0, Ty.bool false]), (10, Cont.cells 99 [Ty.rowO PlE 91 4100 (foldR b g (headR x.1) (restR x.1) k).queue]), (11, Cont.cells 91 (plT (headR x.1))), (27, Cont.mp (encN 6) WayV (foldR b g (headR x.1) (restR x.1) k).ways)]) false [] [9, 10, 11, 27] rfl rfl (c_rounds1 ⟨b, firstP b⟩ (small_right hr) h6 g (headR x.1)) rfl rfl (by decide) (by intro t ht; obtain ⟨x, _, rfl⟩ := List.mem_map.1 ht; exact ⟨rfl, rfl, rfl⟩) rfl rfl (fun _ => rfl) rfl ?_ ?_ ?_ (by intro h; cases h)
          · (refine Ent.mk' ?_ ?_ <;> (repeat' (first | exact allSub_zero | exact allTags_nil | refine allSub_succ' ?_ (Ty.sub_any _) | refine allSub_succ' ?_ (Ty.sub_refl _) | refine allTags_cons rfl (Cont.sub_refl _) ?_)))
          · intro k tys hk
            obtain ⟨hk1, rfl⟩ := enc_get hk
            have hk1 : k < (allR b (headR x.1) g).length := hk1
            have hok := (mem_allR hg).1 (nth_mem (xs := allR b (headR x.1) g) hk1)
            have hlg := hok.len
            have hfw := foldR_few x.2.1 hr hg hlen hc3 (Nat.le_of_lt hk1)
            have hql := foldR_qlen (x := restR x.1) (b := b) (g := g) (by have := x.2.2; show (x.1.queue.drop 1).length ≤ x.1.ways.length + 1; rw [List.length_drop]; omega) (headR x.1) k
            refine ⟨live [(1, Ty.int .i64 g), (6, Ty.pe DeskE ⟨b, firstP b⟩ 0), (8, Ty.ptr 9 0), (9, Ty.ptr 10 0), (10, Ty.ptr 11 0), (11, Ty.sl TurE (nth (allR b (headR x.1) g) k))] [(9, Cont.cells 98 [Ty.mp 27, Ty.int .i64 0, Ty.int .i64 0, Ty.int .i64 0, Ty.int .i64 0, Ty.int .i64 0, Ty.int .i64 0, Ty.bool false]), (10, Cont.cells 99 [Ty.rowO PlE 91 4100 (foldR b g (headR x.1) (restR x.1) k).queue]), (11, Cont.cells 91 (plT (headR x.1))), (27, Cont.mp (encN 6) WayV (foldR b g (headR x.1) (restR x.1) k).ways)], fun l w M => ?_, fun l w M => ?_⟩
            ·
              refine t_region ?_
              refine asS rfl ?_
              refine r_nil ?_
              refine i_join ?_
              (refine Ent.mk' ?_ ?_ <;> (repeat' (first | exact allSub_zero | exact allTags_nil | refine allSub_succ' ?_ (Ty.sub_any _) | refine allSub_succ' ?_ (Ty.sub_refl _) | refine allTags_cons rfl (Cont.sub_refl _) ?_)))
            ·
              refine t_block ?_
              refine t_seq ?_
              refine t_region ?_
              refine r_load_ptrN rfl rfl (by decide) rfl rfl (by exact Nat.le_of_ble_eq_true rfl) ?_
              refine r_alloc rfl (by exact List.cons_ne_nil _ _) rfl ?_
              refine r_storeN rfl rfl (by decide) rfl rfl rfl rfl rfl rfl ?_
              refine r_nil ?_
              refine i_then ?_
              refine t_seq ?_
              refine t_seq ?_
              refine t_region ?_
              refine mvS rfl ?_
              refine r_len rfl rfl rfl ?_
              refine mvI rfl ?_
              refine r_nil ?_
              refine i_then ?_
              refine t_block ?_
              refine t_loop (fun (j : {j : Nat // j ≤ (nth (allR b (headR x.1) g) k).length}) => live [(1, Ty.int .i64 g), (6, Ty.pe DeskE ⟨b, firstP b⟩ 0), (8, Ty.ptr 9 0), (9, Ty.ptr 10 0), (10, Ty.ptr 11 0), (11, Ty.sl TurE (nth (allR b (headR x.1) g) k)), (12, Ty.ptr 13 0), (64, Ty.sl TurE (nth (allR b (headR x.1) g) k)), (65, Ty.int .i64 (nth (allR b (headR x.1) g) k).length), (66, Ty.int .i64 (j.1 : Nat))] [(9, Cont.cells 98 [Ty.mp 27, Ty.int .i64 0, Ty.int .i64 0, Ty.int .i64 0, Ty.int .i64 0, Ty.int .i64 0, Ty.int .i64 0, Ty.bool false]), (10, Cont.cells 99 [Ty.rowO PlE 91 4100 (foldR b g (headR x.1) (restR x.1) k).queue]), (11, Cont.cells 91 (plT (headR x.1))), (13, Cont.cells 91 (plT (movedAll (headR x.1) ((nth (allR b (headR x.1) g) k).take j.1)))), (27, Cont.mp (encN 6) WayV (foldR b g (headR x.1) (restR x.1) k).ways)]) (fun j => (nth (allR b (headR x.1) g) k).length - j.1) (⟨0, by omega⟩) ?_ fun j => ?_
              · (refine Ent.mk' ?_ ?_ <;> (repeat' (first | exact allSub_zero | exact allTags_nil | refine allSub_succ' ?_ (Ty.sub_any _) | refine allSub_succ' ?_ (Ty.sub_refl _) | refine allTags_cons rfl (Cont.sub_refl _) ?_)))
              ·
                refine t_seq ?_
                refine t_region ?_
                refine r_bin rfl rfl rfl ?_
                refine r_nil ?_
                refine i_then ?_
                refine t_seq ?_
                refine t_cond_dec rfl (fun hc5 => ?_) (fun hc5 => ?_)
                ·
                  refine t_skip ?_
                  refine i_then ?_
                  refine t_seq ?_
                  refine t_block ?_
                  refine t_seq ?_
                  refine t_region ?_
                  refine r_index_slN rfl rfl rfl rfl rfl rfl (by omega) ?_
                  refine r_load_ppN rfl rfl rfl (by exact Nat.le_of_ble_eq_true rfl) ?_
                  refine r_alloc rfl (by exact List.cons_ne_nil _ _) rfl ?_
                  refine r_storeN rfl rfl (by decide) rfl rfl rfl rfl rfl rfl ?_
                  refine r_nil ?_
                  refine i_then ?_
                  have htk := hok.ok _ (nth_mem (xs := nth (allR b (headR x.1) g) k) (k := j.1) (by omega))
                  have htm := take_moved (p := headR x.1) (l := nth (allR b (headR x.1) g) k) (j := j.1) (by omega)
                  have htl : (0 : Int) ≤ (nth (nth (allR b (headR x.1) g) k) j.1).lot ∧ (nth (nth (allR b (headR x.1) g) k) j.1).lot < b.lots.length := htk.1
                  refine t_region ?_
                  refine r_field_ptr rfl rfl rfl rfl rfl (by decide) ?_
                  refine r_load_ptr rfl rfl (by decide) rfl rfl rfl ?_
                  refine r_field_ptr rfl rfl rfl rfl rfl (by decide) ?_
                  refine r_load_ptr rfl rfl (by decide) rfl rfl rfl ?_
                  refine r_index_ptrI (n := 6) rfl rfl rfl rfl rfl htl.1 (by omega) ?_
                  refine r_store1 (l' := plT (moved (movedAll (headR x.1) ((nth (allR b (headR x.1) g) k).take j.1)) (nth (nth (allR b (headR x.1) g) k) j.1))) rfl rfl (by decide) rfl rfl (by exact (rfl : _ = Ty.int _ _)) rfl (by show 0 + _ * 1 < 6; omega) rfl rfl (pl_moved _ _ (by omega)) ?_
                  refine r_nil ?_
                  refine i_block ?_
                  refine i_then ?_
                  refine t_region ?_
                  refine r_add rfl rfl (by omega) (by omega) ?_
                  refine mvI rfl ?_
                  refine r_nil ?_
                  refine i_round (⟨j.1 + 1, by omega⟩) ?_ (by show (nth (allR b (headR x.1) g) k).length - (j.1 + 1) < (nth (allR b (headR x.1) g) k).length - j.1; omega)
                  (refine Ent.mk' ?_ ?_ <;> (repeat' (first | exact allSub_zero | exact allTags_nil | exact subs_nil | refine allSub_succ' ?_ (Ty.sub_any _) | refine allSub_succ' ?_ (Ty.sub_refl _) | refine allTags_cons rfl (Cont.sub_refl _) ?_ | refine allTags_cons rfl (Cont.sub_subs ?_) ?_ | refine subs_cons ?_ ?_)))
                  all_goals skip
                  all_goals first | exact Ty.sub_int (congrArg (fun p : Pl => nth p.1 0) htm) | exact Ty.sub_int (congrArg (fun p : Pl => nth p.1 1) htm) | exact Ty.sub_int (congrArg (fun p : Pl => nth p.1 2) htm) | exact Ty.sub_int (congrArg (fun p : Pl => nth p.1 3) htm) | exact Ty.sub_int (congrArg (fun p : Pl => nth p.1 4) htm) | exact Ty.sub_int (congrArg (fun p : Pl => nth p.1 5) htm)
                ·
                  refine t_exit ?_
                  refine i_then_exit ?_
                  refine i_then_exit ?_
                  refine i_block_exit rfl ?_
                  refine i_then ?_
                  refine t_seq ?_
                  refine t_forget (B := live [(1, Ty.int .i64 g), (6, Ty.pe DeskE ⟨b, firstP b⟩ 0), (8, Ty.ptr 9 0), (9, Ty.ptr 10 0), (10, Ty.ptr 11 0), (11, Ty.sl TurE (nth (allR b (headR x.1) g) k)), (12, Ty.ptr 13 0)] [(9, Cont.cells 98 [Ty.mp 27, Ty.int .i64 0, Ty.int .i64 0, Ty.int .i64 0, Ty.int .i64 0, Ty.int .i64 0, Ty.int .i64 0, Ty.bool false]), (10, Cont.cells 99 [Ty.rowO PlE 91 4100 (foldR b g (headR x.1) (restR x.1) k).queue]), (11, Cont.cells 91 (plT (headR x.1))), (13, Cont.cells 91 (plT (movedAll (headR x.1) ((nth (allR b (headR x.1) g) k).take j.1)))), (27, Cont.mp (encN 6) WayV (foldR b g (headR x.1) (restR x.1) k).ways)]) ?_ ?_
                  · (refine Ent.mk' ?_ ?_ <;> (repeat' (first | exact allSub_zero | exact allTags_nil | refine allSub_succ' ?_ (Ty.sub_any _) | refine allSub_succ' ?_ (Ty.sub_refl _) | refine allTags_cons rfl (Cont.sub_refl _) ?_)))
                  refine t_asC (tg := 13) rfl (Cont.sub_cells (congrArg plT (show movedAll (headR x.1) ((nth (allR b (headR x.1) g) k).take j.1) = movedAll (headR x.1) (nth (allR b (headR x.1) g) k) by rw [List.take_of_length_le (by omega)]))) ?_
                  refine t_region ?_
                  refine r_field_ptr rfl rfl rfl rfl rfl (by decide) ?_
                  refine r_load_ptr rfl rfl (by decide) rfl rfl rfl ?_
                  refine r_load_ptrN rfl rfl (by decide) rfl rfl (by exact Nat.le_of_ble_eq_true rfl) ?_
                  refine r_lookup2 plKey (k := movedAll (headR x.1) (nth (allR b (headR x.1) g) k)) (z0 := way0) rfl rfl (by decide) rfl (key_pl _) mapT121 zero147 way_zero ?_
                  refine mvT rfl ?_
                  refine r_extract rfl rfl ?_
                  refine r_extract rfl rfl ?_
                  refine r_alloc rfl (by exact List.cons_ne_nil _ _) rfl ?_
                  refine r_storeN rfl rfl (by decide) rfl rfl rfl rfl rfl rfl ?_
                  refine asB rfl ?_
                  refine r_nil ?_
                  refine i_then ?_
                  refine t_seq ?_
                  refine t_region ?_
                  refine mvB rfl ?_
                  refine r_not rfl ?_
                  refine r_nil ?_
                  refine i_then ?_
                  refine t_cond rfl (fun hc6 => ?_) (fun hc6 => ?_)
                  ·
                    refine t_seq ?_
                    refine t_region ?_
                    refine r_field_ptr rfl rfl rfl rfl rfl (by decide) ?_
                    refine r_load_ptr rfl rfl (by decide) rfl rfl rfl ?_
                    refine r_load_ptrN rfl rfl (by decide) rfl rfl (by exact Nat.le_of_ble_eq_true rfl) ?_
                    refine r_load_ptrN rfl rfl (by decide) rfl rfl (by exact Nat.le_of_ble_eq_true rfl) ?_
                    refine mvS rfl ?_
                    refine r_build rfl rfl (by exact List.cons_ne_nil _ _) rfl (by repeat (first | exact (Parts.nil : Parts _ _ [] _) | (show Parts _ _ ((_, _) :: _) _; apply Parts.one; (· first | exact (rfl : _ = Ty.int _ _) | exact (rfl : _ = Ty.sl _ _)); (· exact rfl)) | (show Parts _ _ ((_, _) :: _) _; apply Parts.agg; (· exact (rfl : _ = Ty.agg _))))) (by exact rfl) ?_
                    refine r_mapUpdate plKey (k := movedAll (headR x.1) (nth (allR b (headR x.1) g) k)) (v := ⟨headR x.1, nth (allR b (headR x.1) g) k, 0⟩) rfl rfl (by decide) rfl (key_pl _) rfl rfl mapT121 ?_
                    refine r_nil ?_
                    refine i_then ?_
                    refine t_region ?_
                    refine r_load_ptr rfl rfl (by decide) rfl rfl rfl ?_
                    refine r_load_ptrN rfl rfl (by decide) rfl rfl (by exact Nat.le_of_ble_eq_true rfl) ?_
                    refine r_buildSlice (E := PlE) (xs := [movedAll (headR x.1) (nth (allR b (headR x.1) g) k)]) rfl rfl rfl rfl rfl (by decide) (by decide) (by repeat (first | exact (Parts.nil : Parts _ _ [] _) | (show Parts _ _ ((_, _) :: _) _; apply Parts.agg; (· exact (rfl : _ = Ty.agg _))))) (by exact rfl) rfl ?_
                    refine r_appendO rfl rfl (by decide) rfl (by show 0 < 1; decide) rfl rfl rfl rfl rfl (by decide) (by show (_ + 1) * 48 ≤ _; omega) (by show _ + 1 ≤ _; omega) ?_
                    refine r_store1 (ty := Ty.rowO PlE 91 4100 ((foldR b g (headR x.1) (restR x.1) k).queue ++ [movedAll (headR x.1) (nth (allR b (headR x.1) g) k)])) rfl rfl (by decide) rfl rfl rfl rfl (by exact Nat.le_of_ble_eq_true rfl) rfl rfl (by exact (rfl : _ = [_])) ?_
                    refine r_nil ?_
                    refine i_block ?_
                    refine q_normal ?_
                    (refine Ent.mk' ?_ ?_ <;> (repeat' (first | exact allSub_zero | exact allTags_nil | exact subs_nil | refine allSub_succ' ?_ (Ty.sub_any _) | refine allTags_cons rfl (Cont.sub_refl _) ?_ | refine allTags_cons rfl (Cont.sub_subs ?_) ?_ | refine subs_cons ?_ ?_ | refine allTags_cons rfl ?_ ?_)))
                    all_goals first | exact Ty.sub_eq (congrArg (Ty.rowO PlE 91 4100) (frR_no hk1 (not_a' hc6)).2) | exact Cont.sub_mp (frR_no hk1 (not_a' hc6)).1
                  ·
                    refine t_skip ?_
                    refine i_block ?_
                    refine q_normal ?_
                    (refine Ent.mk' ?_ ?_ <;> (repeat' (first | exact allSub_zero | exact allTags_nil | exact subs_nil | refine allSub_succ' ?_ (Ty.sub_any _) | refine allTags_cons rfl (Cont.sub_refl _) ?_ | refine allTags_cons rfl (Cont.sub_subs ?_) ?_ | refine subs_cons ?_ ?_ | refine allTags_cons rfl ?_ ?_)))
                    all_goals first | exact Ty.sub_eq (congrArg (fun z : RSt => Ty.rowO PlE 91 4100 z.queue) (frR_yes hk1 (not_b' hc6))) | exact Cont.sub_mp (congrArg RSt.ways (frR_yes hk1 (not_b' hc6)))
          ·
            refine i_block ?_
            refine i_block ?_
            refine i_round (⟨foldR b g (headR x.1) (restR x.1) (allR b (headR x.1) g).length, (x.2.1.next hr hg hlen hc3).1, foldR_qlen (by have := x.2.2; show (x.1.queue.drop 1).length ≤ x.1.ways.length + 1; rw [List.length_drop]; omega) _ _⟩) ?_ (by exact (x.2.1.next hr hg hlen hc3).2)
            (refine Ent.mk' ?_ ?_ <;> (repeat' (first | exact allSub_zero | exact allTags_nil | exact subs_nil | refine allSub_succ' ?_ (Ty.sub_any _) | refine allSub_succ' ?_ (Ty.sub_refl _) | refine allTags_cons rfl (Cont.sub_refl _) ?_ | refine allTags_cons rfl (Cont.sub_subs ?_) ?_ | refine subs_cons ?_ ?_ | refine allTags_cons rfl ?_ ?_)))
            all_goals skip
            all_goals first | exact Cont.sub_mp (congrArg (fun n => (foldR b g (headR x.1) (restR x.1) n).ways) (List.length_map _)) | exact Ty.sub_eq (congrArg (fun n => Ty.rowO PlE 91 4100 (foldR b g (headR x.1) (restR x.1) n).queue) (List.length_map _))
      ·
        refine t_exit ?_
        refine i_then_exit ?_
        refine i_then_exit ?_
        refine i_block_exit rfl ?_
        refine i_then ?_
        refine t_seq ?_
        refine t_seq ?_
        refine t_region ?_
        refine r_field_ptr rfl rfl rfl rfl rfl (by decide) ?_
        refine r_load_ptr rfl rfl (by decide) rfl rfl rfl ?_
        refine r_not rfl ?_
        refine r_nil ?_
        refine i_then ?_
        refine t_cond_tt rfl (rfl) ?_
        refine t_seq ?_
        refine t_region ?_
        refine asX rfl ?_
        refine asI rfl ?_
        refine r_nil ?_
        refine i_then ?_
        refine t_ret ?_
        refine i_then_ret ?_
        refine m_ret rfl ?_
        refine i_rp2 rfl rfl rfl ?_ ?_
        all_goals skip
        all_goals first | exact ret_nil_eq (roundsV_3 hc1 (x.2.1.same.stop (stepR_end (List.length_eq_zero_iff.1 (queue_no hc2)))) rfl) | exact ret_eq rfl rfl (congrArg (Ty.int .i64) (roundsE_3 hc1 (x.2.1.same.stop (stepR_end (List.length_eq_zero_iff.1 (queue_no hc2)))) rfl).symm)
set_option maxRecDepth 100000 in
theorem c_Least (b : Barn) (hs : b.Small) (g : Int) : Ctr Tryz.prog 15 [barnT b, Ty.int .i64 g] (Ty.tup [Ty.int .i64 (roundsV b g).length, Ty.int .i64 (roundsE b g)]) := by
  refine fn_intro Tryz.func15 rfl (by decide) Tryz.ntmps15 (by exact Nat.le_of_ble_eq_true rfl) fun w0 M0 => ?_
  refine t_seq ?_
  refine t_region ?_
  refine r_box_agg rfl ?_
  refine asI rfl ?_
  refine asI rfl ?_
  refine r_nil ?_
  refine i_then ?_
  refine t_seq ?_
  refine t_region ?_
  refine r_load_ppN rfl rfl rfl (by exact Nat.le_of_ble_eq_true rfl) ?_
  refine mvI rfl ?_
  refine r_call (c_Rounds b hs g) rfl rfl rfl rfl rfl ?_
  refine mvT rfl ?_
  refine r_extract rfl rfl ?_
  refine r_extract rfl rfl ?_
  refine asS rfl ?_
  refine asI rfl ?_
  refine r_nil ?_
  refine i_then ?_
  refine t_seq ?_
  refine t_region ?_
  refine mvS rfl ?_
  refine r_len rfl rfl rfl ?_
  refine mvI rfl ?_
  refine asI rfl ?_
  refine asI rfl ?_
  refine r_nil ?_
  refine i_then ?_
  refine t_ret ?_
  refine i_rp2 rfl rfl rfl ?_ ?_
  all_goals exact ret_refl rfl rfl
end Go.Proofs.YtpnndljmhpepgaaGreat

namespace Go.Proofs.YtpnndljmhpepgaaGreat
open Go Go.T
def three (l : List Int) : Barn := ⟨[50, 50, 50] ++ l, [⟨30, 0, 1⟩, ⟨20, 1, 0⟩, ⟨40, 2, 2⟩]⟩
def okRun (b : Barn) (c : Tur → Int) (all : Bool) (n : Nat) (P : Found → Bool) : Bool := match runN b c all n (st0 b) with
  | some f => P f
  | none => false
theorem run_ok {b : Barn} {c : Tur → Int} {all : Bool} {n : Nat} {P : Found → Bool} (h : okRun b c all n P = true) : P (searchM b c all) = true := by
  unfold okRun at h
  cases e : runN b c all n (st0 b) with
  | none => rw [e] at h; cases h
  | some f => rw [e] at h; rw [searchM_eq ⟨n, e⟩]; exact h
def okRunR (b : Barn) (g : Int) (n : Nat) (P : Found → Bool) : Bool := match runR b g n (rst0 b) with
  | some f => P f
  | none => false
theorem runR_ok {b : Barn} {g : Int} {n : Nat} {P : Found → Bool} (h : okRunR b g n P = true) : P (roundsM b g) = true := by
  unfold okRunR at h
  cases e : runR b g n (rst0 b) with
  | none => rw [e] at h; cases h
  | some f => rw [e] at h; rw [roundsM_eq ⟨n, e⟩]; exact h
theorem three_ok1 : checkB (three [50]) = 0 := by decide
theorem three_ok2 : checkB (three [15]) = 0 := by decide
theorem ex1 : okRun (three [50]) oneC false 100 (fun f => f.is && decide (((mget f.ways f.last).getD way0).all = 3)) = true := by kernel_rfl
theorem ex2 : okRun (three [50]) (sackC (three [50])) false 400 (fun f => f.is && decide (((mget f.ways f.last).getD way0).all = 70)) = true := by kernel_rfl
theorem ex3 : okRun (three [15]) oneC false 100 (fun f => !f.is) = true := by kernel_rfl
theorem ex4 : okRun (three [15]) oneC true 100 (fun f => decide (f.ways.length = 1)) = true := by kernel_rfl
def chainF (ways : List (Pl × Way)) (first : Pl) : Nat → Pl → Option (List (List Tur))
  | 0, p => if p = first then some [] else none
  | n + 1, p => if p = first then some [] else match mget ways p with
    | none => none
    | some w => (chainF ways first n w.frm).map fun A => A ++ [w.byT]
theorem chainF_spec {ways : List (Pl × Way)} {first : Pl} : ∀ {n : Nat} {p : Pl} {A : List (List Tur)}, chainF ways first n p = some A → Chain ways first p A
  | 0, p, A, h => by
    unfold chainF at h
    by_cases e : p = first
    · rw [if_pos e] at h; injection h with h; subst h; subst e; exact .nil
    · rw [if_neg e] at h; cases h
  | n + 1, p, A, h => by
    unfold chainF at h
    by_cases e : p = first
    · rw [if_pos e] at h; injection h with h; subst h; subst e; exact .nil
    · rw [if_neg e] at h
      cases hw : mget ways p with
      | none => rw [hw] at h; cases h
      | some w =>
        rw [hw] at h
        obtain ⟨B, hB, rfl⟩ := Option.map_eq_some_iff.1 h
        exact .snoc e hw (chainF_spec hB)
def lenIs (b : Barn) (f : Found) (n : Nat) : Bool := match chainF f.ways (firstP b) 20 f.last with
  | some A => decide (A.length = n)
  | none => false
theorem lenIs_spec {b : Barn} {f : Found} {n : Nat} (h : lenIs b f n = true) : (chainM f.ways (firstP b) f.last).length = n := by
  unfold lenIs at h
  cases e : chainF f.ways (firstP b) 20 f.last with
  | none => rw [e] at h; cases h
  | some A => rw [e] at h; rw [chainM_spec (chainF_spec e)]; exact of_decide_eq_true h
theorem ex5 : okRunR (three [50, 50]) 2 200 (fun f => f.is && lenIs (three [50, 50]) f 2) = true := by kernel_rfl
theorem two_of {a b : Bool} (h : (a && b) = true) : a = true ∧ b = true := by simpa using h
theorem aw1 : costR (three [50]) oneC = 3 := by
  have h := two_of (run_ok ex1)
  unfold costR costV; rw [if_pos three_ok1, if_pos h.1]; exact of_decide_eq_true h.2
theorem aw2 : planE (three [50]) oneC = 0 := by
  have h := two_of (run_ok ex1)
  unfold planE; rw [if_pos three_ok1, if_pos h.1]
theorem aw3 : costR (three [50]) (sackC (three [50])) = 70 := by
  have h := two_of (run_ok ex2)
  unfold costR costV; rw [if_pos three_ok1, if_pos h.1]; exact of_decide_eq_true h.2
theorem aw4 : planE (three [50]) (sackC (three [50])) = 0 := by
  have h := two_of (run_ok ex2)
  unfold planE; rw [if_pos three_ok1, if_pos h.1]
theorem aw5 : planE (three [15]) oneC = 7 := by
  have h := run_ok ex3
  unfold planE; rw [if_pos three_ok2, if_neg (by simpa using h)]
theorem aw6 : placesV (three [15]) = 1 := by
  have h := run_ok ex4
  unfold placesV; rw [if_pos three_ok2, of_decide_eq_true h]; rfl
theorem aw7 : showV (three [50]) [[1, 0]] = (3, 0) := by kernel_rfl
theorem aw8 : ((roundsV (three [50, 50]) 2).length : Int) = 2 := by
  have h := two_of (runR_ok ex5)
  have ha : askE (three [50, 50]) 2 = 0 := by decide
  unfold roundsV; rw [if_pos ha, if_pos h.1, lenIs_spec h.2]; rfl
theorem aw9 : roundsE (three [50, 50]) 2 = 0 := by
  have h := two_of (runR_ok ex5)
  have ha : askE (three [50, 50]) 2 = 0 := by decide
  unfold roundsE; rw [if_pos ha, if_pos h.1]
def exPlan : List Tur := [⟨1, 3⟩, ⟨0, 1⟩, ⟨1, 0⟩]
theorem aw10 : makesB (three [25]) exPlan = true := by kernel_rfl
theorem aw11 : (doneV (three [25]) exPlan).2.2 = 0 := by kernel_rfl
theorem three_small {l : List Int} (h : l.length ≤ 9) : (three l).Small := ⟨by show ([50, 50, 50] ++ l).length ≤ 12; rw [List.length_append]; simp; omega, by show 3 ≤ 10; decide⟩
end Go.Proofs.YtpnndljmhpepgaaGreat

namespace Go.Proofs.YtpnndljmhpepgaaGreat
open Go Go.T
set_option maxHeartbeats 4000000
attribute [local irreducible] costR planE placesV showV roundsV roundsE makesB doneV planR sackC
attribute [local irreducible] dInt dBool dSl dPp dPtr dAgg dTup dClo dAny dEx dStr dGd dCells dVec dVs dRow dOp nth Tri Into TOps Ctr bodyPost Exit.then Exit.inBlock Code.wp Code.wpIn dWhen dPa dPe dAo dArr dMp dPm dMap dCJ CtrG CtrI OpY keepPost iterPost bodyPostM roundQ
set_option maxRecDepth 100000 in
theorem c_Three (l : List Int) (h : l.length ≤ 9) : Ctr Tryz.prog 19 [Ty.sl I64 l] (barnT (three l)) := by
  refine fn_intro Tryz.func19 rfl (by decide) Tryz.ntmps19 (by exact Nat.le_of_ble_eq_true rfl) fun w0 M0 => ?_
  refine t_seq ?_
  refine t_region ?_
  refine r_alloc rfl (by exact List.cons_ne_nil _ _) rfl ?_
  refine r_nil ?_
  refine i_then ?_
  refine t_seq ?_
  refine t_region ?_
  refine r_buildRowN (E := I64) (xs := [50, 50, 50]) rfl rfl rfl rfl rfl (by decide) (by decide) (by repeat (first | exact (Parts.nil : Parts _ _ [] _) | (show Parts _ _ ((_, _) :: _) _; apply Parts.one; (· exact (rfl : _ = Ty.int _ _)); (· exact rfl)))) (by exact rfl) rfl rfl ?_
  refine mvS rfl ?_
  refine r_append rfl rfl (by decide) rfl rfl rfl rfl rfl rfl (by decide) (by (simp <;> omega)) (by (simp <;> omega)) ?_
  refine r_build rfl rfl (by exact List.cons_ne_nil _ _) rfl (by repeat (first | exact (Parts.nil : Parts _ _ [] _) | (show Parts _ _ ((_, _) :: _) _; apply Parts.one; (· exact (rfl : _ = Ty.int _ _)); (· exact rfl)))) (by exact (rfl : _ = some [_, _, _])) ?_
  refine r_build rfl rfl (by exact List.cons_ne_nil _ _) rfl (by repeat (first | exact (Parts.nil : Parts _ _ [] _) | (show Parts _ _ ((_, _) :: _) _; apply Parts.one; (· exact (rfl : _ = Ty.int _ _)); (· exact rfl)))) (by exact (rfl : _ = some [_, _, _])) ?_
  refine r_build rfl rfl (by exact List.cons_ne_nil _ _) rfl (by repeat (first | exact (Parts.nil : Parts _ _ [] _) | (show Parts _ _ ((_, _) :: _) _; apply Parts.one; (· exact (rfl : _ = Ty.int _ _)); (· exact rfl)))) (by exact (rfl : _ = some [_, _, _])) ?_
  refine r_buildSlice (E := LotE) (xs := [⟨30, 0, 1⟩, ⟨20, 1, 0⟩, ⟨40, 2, 2⟩]) rfl rfl rfl rfl rfl (by decide) (by decide) (by repeat (first | exact (Parts.nil : Parts _ _ [] _) | (show Parts _ _ ((_, _) :: _) _; apply Parts.agg; (· exact (rfl : _ = Ty.agg _))))) (by exact rfl) rfl ?_
  refine r_build rfl rfl (by exact List.cons_ne_nil _ _) rfl (by repeat (first | exact (Parts.nil : Parts _ _ [] _) | (show Parts _ _ ((_, _) :: _) _; apply Parts.one; (· first | exact (rfl : _ = Ty.sl _ _) | exact (rfl : _ = Ty.row _ _ _ _)); (· exact rfl)))) (by exact (rfl : _ = some [_, _])) ?_
  refine r_storeN rfl rfl (by decide) rfl rfl rfl rfl rfl rfl ?_
  refine r_nil ?_
  refine i_then ?_
  refine t_ret ?_
  refine i_rcell rfl rfl rfl rfl (by decide) rfl rfl rfl ?_
  exact ret_agg ⟨ret_row_eq (by decide) rfl, ret_eq rfl rfl rfl, trivial⟩
set_option maxRecDepth 100000 in
theorem c_awake : Ctr Tryz.prog 6 [] (Ty.bool true) := by
  refine fn_intro Tryz.func6 rfl (by decide) Tryz.ntmps6 (by exact Nat.le_of_ble_eq_true rfl) fun w0 M0 => ?_
  refine t_seq ?_
  refine t_region ?_
  refine asB rfl ?_
  refine r_nil ?_
  refine i_then ?_
  refine t_seq ?_
  refine t_region ?_
  refine r_buildSlice (E := I64) (xs := [_]) rfl rfl rfl rfl rfl (by decide) (by decide) (by repeat (first | exact (Parts.nil : Parts _ _ [] _) | (show Parts _ _ ((_, _) :: _) _; apply Parts.one; (· exact (rfl : _ = Ty.int _ _)); (· exact rfl)))) (by exact rfl) rfl ?_
  refine r_call (c_Three [50] (by decide)) rfl rfl rfl rfl rfl ?_
  refine r_call (c_Fewest (three [50]) (three_small (by decide))) rfl rfl rfl rfl rfl ?_
  refine mvT rfl ?_
  refine r_extract rfl rfl ?_
  refine r_extract rfl rfl ?_
  refine asI rfl ?_
  refine asI rfl ?_
  refine r_nil ?_
  refine i_then ?_
  refine t_seq ?_
  refine t_region ?_
  refine r_buildSlice (E := I64) (xs := [_]) rfl rfl rfl rfl rfl (by decide) (by decide) (by repeat (first | exact (Parts.nil : Parts _ _ [] _) | (show Parts _ _ ((_, _) :: _) _; apply Parts.one; (· exact (rfl : _ = Ty.int _ _)); (· exact rfl)))) (by exact rfl) rfl ?_
  refine r_call (c_Three [50] (by decide)) rfl rfl rfl rfl rfl ?_
  refine r_call (c_Lightest (three [50]) (three_small (by decide))) rfl rfl rfl rfl rfl ?_
  refine mvT rfl ?_
  refine r_extract rfl rfl ?_
  refine r_extract rfl rfl ?_
  refine r_extract rfl rfl ?_
  refine asS rfl ?_
  refine asI rfl ?_
  refine asI rfl ?_
  refine r_nil ?_
  refine i_then ?_
  refine t_seq ?_
  refine t_region ?_
  refine r_buildSlice (E := I64) (xs := [_]) rfl rfl rfl rfl rfl (by decide) (by decide) (by repeat (first | exact (Parts.nil : Parts _ _ [] _) | (show Parts _ _ ((_, _) :: _) _; apply Parts.one; (· exact (rfl : _ = Ty.int _ _)); (· exact rfl)))) (by exact rfl) rfl ?_
  refine r_call (c_Three [15] (by decide)) rfl rfl rfl rfl rfl ?_
  refine r_call (c_Fewest (three [15]) (three_small (by decide))) rfl rfl rfl rfl rfl ?_
  refine mvT rfl ?_
  refine r_extract rfl rfl ?_
  refine r_extract rfl rfl ?_
  refine asI rfl ?_
  refine asI rfl ?_
  refine r_nil ?_
  refine i_then ?_
  refine t_seq ?_
  refine t_region ?_
  refine r_buildSlice (E := I64) (xs := [_]) rfl rfl rfl rfl rfl (by decide) (by decide) (by repeat (first | exact (Parts.nil : Parts _ _ [] _) | (show Parts _ _ ((_, _) :: _) _; apply Parts.one; (· exact (rfl : _ = Ty.int _ _)); (· exact rfl)))) (by exact rfl) rfl ?_
  refine r_call (c_Three [15] (by decide)) rfl rfl rfl rfl rfl ?_
  refine r_call (c_Places (three [15]) (three_small (by decide))) rfl rfl rfl rfl rfl ?_
  refine mvT rfl ?_
  refine r_extract rfl rfl ?_
  refine r_extract rfl rfl ?_
  refine asI rfl ?_
  refine asI rfl ?_
  refine r_nil ?_
  refine i_then ?_
  refine t_seq ?_
  refine t_region ?_
  refine r_buildSlice (E := I64) (xs := [_]) rfl rfl rfl rfl rfl (by decide) (by decide) (by repeat (first | exact (Parts.nil : Parts _ _ [] _) | (show Parts _ _ ((_, _) :: _) _; apply Parts.one; (· exact (rfl : _ = Ty.int _ _)); (· exact rfl)))) (by exact rfl) rfl ?_
  refine r_call (c_Three [50] (by decide)) rfl rfl rfl rfl rfl ?_
  refine r_buildSlice (E := I64) (xs := [_, _]) rfl rfl rfl rfl rfl (by decide) (by decide) (by repeat (first | exact (Parts.nil : Parts _ _ [] _) | (show Parts _ _ ((_, _) :: _) _; apply Parts.one; (· exact (rfl : _ = Ty.int _ _)); (· exact rfl)))) (by exact rfl) rfl ?_
  refine r_buildSlice (E := RowE) (xs := [[1, 0]]) rfl rfl rfl rfl rfl (by decide) (by decide) (by repeat (first | exact (Parts.nil : Parts _ _ [] _) | (show Parts _ _ ((_, _) :: _) _; apply Parts.one; (· exact (rfl : _ = Ty.sl _ _)); (· exact rfl)))) (by exact rfl) rfl ?_
  refine r_call (c_Shows (three [50]) (three_small (by decide)) [[1, 0]] (by decide) (by decide)) rfl rfl rfl rfl rfl ?_
  refine mvT rfl ?_
  refine r_extract rfl rfl ?_
  refine r_extract rfl rfl ?_
  refine asI rfl ?_
  refine asI rfl ?_
  refine r_nil ?_
  refine i_then ?_
  refine t_seq ?_
  refine t_region ?_
  refine r_buildSlice (E := I64) (xs := [_, _]) rfl rfl rfl rfl rfl (by decide) (by decide) (by repeat (first | exact (Parts.nil : Parts _ _ [] _) | (show Parts _ _ ((_, _) :: _) _; apply Parts.one; (· exact (rfl : _ = Ty.int _ _)); (· exact rfl)))) (by exact rfl) rfl ?_
  refine r_call (c_Three [50, 50] (by decide)) rfl rfl rfl rfl rfl ?_
  refine r_call (c_Least (three [50, 50]) (three_small (by decide)) 2) rfl rfl rfl rfl rfl ?_
  refine mvT rfl ?_
  refine r_extract rfl rfl ?_
  refine r_extract rfl rfl ?_
  refine asI rfl ?_
  refine asI rfl ?_
  refine r_nil ?_
  refine i_then ?_
  refine t_seq ?_
  refine t_region ?_
  refine r_buildSlice (E := I64) (xs := [_]) rfl rfl rfl rfl rfl (by decide) (by decide) (by repeat (first | exact (Parts.nil : Parts _ _ [] _) | (show Parts _ _ ((_, _) :: _) _; apply Parts.one; (· exact (rfl : _ = Ty.int _ _)); (· exact rfl)))) (by exact rfl) rfl ?_
  refine r_call (c_Three [25] (by decide)) rfl rfl rfl rfl rfl ?_
  refine r_build rfl rfl (by exact List.cons_ne_nil _ _) rfl (by repeat (first | exact (Parts.nil : Parts _ _ [] _) | (show Parts _ _ ((_, _) :: _) _; apply Parts.one; (· exact (rfl : _ = Ty.int _ _)); (· exact rfl)))) (by exact (rfl : _ = some [_, _])) ?_
  refine r_build rfl rfl (by exact List.cons_ne_nil _ _) rfl (by repeat (first | exact (Parts.nil : Parts _ _ [] _) | (show Parts _ _ ((_, _) :: _) _; apply Parts.one; (· exact (rfl : _ = Ty.int _ _)); (· exact rfl)))) (by exact (rfl : _ = some [_, _])) ?_
  refine r_build rfl rfl (by exact List.cons_ne_nil _ _) rfl (by repeat (first | exact (Parts.nil : Parts _ _ [] _) | (show Parts _ _ ((_, _) :: _) _; apply Parts.one; (· exact (rfl : _ = Ty.int _ _)); (· exact rfl)))) (by exact (rfl : _ = some [_, _])) ?_
  refine r_buildSlice (E := TurE) (xs := exPlan) rfl rfl rfl rfl rfl (by decide) (by decide) (by repeat (first | exact (Parts.nil : Parts _ _ [] _) | (show Parts _ _ ((_, _) :: _) _; apply Parts.agg; (· exact (rfl : _ = Ty.agg _))))) (by exact rfl) rfl ?_
  refine r_call (c_Makes (three [25]) (three_small (by decide)) exPlan (by decide)) rfl rfl rfl rfl rfl ?_
  refine mvT rfl ?_
  refine r_extract rfl rfl ?_
  refine r_extract rfl rfl ?_
  refine asB rfl ?_
  refine asI rfl ?_
  refine r_nil ?_
  refine i_then ?_
  refine t_seq ?_
  refine t_as (s := 1) rfl (Ty.sub_int aw1) ?_
  refine t_as (s := 2) rfl (Ty.sub_int aw2) ?_
  refine t_as (s := 4) rfl (Ty.sub_int aw3) ?_
  refine t_as (s := 5) rfl (Ty.sub_int aw4) ?_
  refine t_as (s := 7) rfl (Ty.sub_int aw5) ?_
  refine t_as (s := 8) rfl (Ty.sub_int aw6) ?_
  refine t_as (s := 9) rfl (Ty.sub_int three_ok2) ?_
  refine t_as (s := 10) rfl (Ty.sub_int (congrArg Prod.fst aw7)) ?_
  refine t_as (s := 11) rfl (Ty.sub_int (congrArg Prod.snd aw7)) ?_
  refine t_as (s := 12) rfl (Ty.sub_int aw8) ?_
  refine t_as (s := 13) rfl (Ty.sub_int aw9) ?_
  refine t_as (s := 14) rfl (Ty.sub_bool aw10) ?_
  refine t_as (s := 15) rfl (Ty.sub_int aw11) ?_
  refine t_forget (B := live [(1, Ty.int .i64 3), (2, Ty.int .i64 0), (4, Ty.int .i64 70), (5, Ty.int .i64 0), (7, Ty.int .i64 7), (8, Ty.int .i64 1), (9, Ty.int .i64 0), (10, Ty.int .i64 3), (11, Ty.int .i64 0), (12, Ty.int .i64 2), (13, Ty.int .i64 0), (14, Ty.bool true), (15, Ty.int .i64 0)] []) ?_ ?_
  · (refine Ent.mk' ?_ ?_ <;> (repeat' (first | exact allSub_zero | exact allTags_nil | refine allSub_succ' ?_ (Ty.sub_any _) | refine allSub_succ' ?_ (Ty.sub_refl _))))
  refine t_region ?_
  refine mvI rfl ?_
  refine r_bin rfl rfl rfl ?_
  refine mvB rfl ?_
  apply r_guard (s := 67) rfl rfl rfl
  · intro hg; apply opT_of; (refine mvI rfl ?_); refine r_nil ?_; exact rfl
  · exact rfl
  · exact rfl
  apply r_guard (s := 67) rfl rfl rfl
  · intro hg; apply opT_strip (s := 68) rfl (by exact hg); apply opT_of; (refine r_bin rfl rfl rfl ?_); refine r_nil ?_; exact rfl
  · exact rfl
  · exact rfl
  refine r_and rfl rfl ?_
  refine mvB rfl ?_
  apply r_guard (s := 71) rfl rfl rfl
  · intro hg; apply opT_of; (refine mvI rfl ?_); refine r_nil ?_; exact rfl
  · exact rfl
  · exact rfl
  apply r_guard (s := 71) rfl rfl rfl
  · intro hg; apply opT_strip (s := 72) rfl (by exact hg); apply opT_of; (refine r_bin rfl rfl rfl ?_); refine r_nil ?_; exact rfl
  · exact rfl
  · exact rfl
  refine r_and rfl rfl ?_
  refine mvB rfl ?_
  apply r_guard (s := 75) rfl rfl rfl
  · intro hg; apply opT_of; (refine mvI rfl ?_); refine r_nil ?_; exact rfl
  · exact rfl
  · exact rfl
  apply r_guard (s := 75) rfl rfl rfl
  · intro hg; apply opT_strip (s := 76) rfl (by exact hg); apply opT_of; (refine r_bin rfl rfl rfl ?_); refine r_nil ?_; exact rfl
  · exact rfl
  · exact rfl
  refine r_and rfl rfl ?_
  refine mvB rfl ?_
  apply r_guard (s := 79) rfl rfl rfl
  · intro hg; apply opT_of; (refine mvI rfl ?_); refine r_nil ?_; exact rfl
  · exact rfl
  · exact rfl
  apply r_guard (s := 79) rfl rfl rfl
  · intro hg; apply opT_strip (s := 80) rfl (by exact hg); apply opT_of; (refine r_bin rfl rfl rfl ?_); refine r_nil ?_; exact rfl
  · exact rfl
  · exact rfl
  refine r_and rfl rfl ?_
  refine mvB rfl ?_
  apply r_guard (s := 83) rfl rfl rfl
  · intro hg; apply opT_of; (refine mvI rfl ?_); refine r_nil ?_; exact rfl
  · exact rfl
  · exact rfl
  apply r_guard (s := 83) rfl rfl rfl
  · intro hg; apply opT_strip (s := 84) rfl (by exact hg); apply opT_of; (refine r_bin rfl rfl rfl ?_); refine r_nil ?_; exact rfl
  · exact rfl
  · exact rfl
  refine r_and rfl rfl ?_
  refine mvB rfl ?_
  apply r_guard (s := 87) rfl rfl rfl
  · intro hg; apply opT_of; (refine mvI rfl ?_); refine r_nil ?_; exact rfl
  · exact rfl
  · exact rfl
  apply r_guard (s := 87) rfl rfl rfl
  · intro hg; apply opT_strip (s := 88) rfl (by exact hg); apply opT_of; (refine r_bin rfl rfl rfl ?_); refine r_nil ?_; exact rfl
  · exact rfl
  · exact rfl
  refine r_and rfl rfl ?_
  refine mvB rfl ?_
  apply r_guard (s := 91) rfl rfl rfl
  · intro hg; apply opT_of; (refine mvI rfl ?_); refine r_nil ?_; exact rfl
  · exact rfl
  · exact rfl
  apply r_guard (s := 91) rfl rfl rfl
  · intro hg; apply opT_strip (s := 92) rfl (by exact hg); apply opT_of; (refine r_bin rfl rfl rfl ?_); refine r_nil ?_; exact rfl
  · exact rfl
  · exact rfl
  refine r_and rfl rfl ?_
  refine mvB rfl ?_
  apply r_guard (s := 95) rfl rfl rfl
  · intro hg; apply opT_of; (refine mvI rfl ?_); refine r_nil ?_; exact rfl
  · exact rfl
  · exact rfl
  apply r_guard (s := 95) rfl rfl rfl
  · intro hg; apply opT_strip (s := 96) rfl (by exact hg); apply opT_of; (refine r_bin rfl rfl rfl ?_); refine r_nil ?_; exact rfl
  · exact rfl
  · exact rfl
  refine r_and rfl rfl ?_
  refine mvB rfl ?_
  apply r_guard (s := 99) rfl rfl rfl
  · intro hg; apply opT_of; (refine mvI rfl ?_); refine r_nil ?_; exact rfl
  · exact rfl
  · exact rfl
  apply r_guard (s := 99) rfl rfl rfl
  · intro hg; apply opT_strip (s := 100) rfl (by exact hg); apply opT_of; (refine r_bin rfl rfl rfl ?_); refine r_nil ?_; exact rfl
  · exact rfl
  · exact rfl
  refine r_and rfl rfl ?_
  refine mvB rfl ?_
  apply r_guard (s := 103) rfl rfl rfl
  · intro hg; apply opT_of; (refine mvI rfl ?_); refine r_nil ?_; exact rfl
  · exact rfl
  · exact rfl
  apply r_guard (s := 103) rfl rfl rfl
  · intro hg; apply opT_strip (s := 104) rfl (by exact hg); apply opT_of; (refine r_bin rfl rfl rfl ?_); refine r_nil ?_; exact rfl
  · exact rfl
  · exact rfl
  refine r_and rfl rfl ?_
  refine mvB rfl ?_
  apply r_guard (s := 107) rfl rfl rfl
  · intro hg; apply opT_of; (refine mvI rfl ?_); refine r_nil ?_; exact rfl
  · exact rfl
  · exact rfl
  apply r_guard (s := 107) rfl rfl rfl
  · intro hg; apply opT_strip (s := 108) rfl (by exact hg); apply opT_of; (refine r_bin rfl rfl rfl ?_); refine r_nil ?_; exact rfl
  · exact rfl
  · exact rfl
  refine r_and rfl rfl ?_
  refine mvB rfl ?_
  apply r_guard (s := 111) rfl rfl rfl
  · intro hg; apply opT_of; (refine mvB rfl ?_); refine r_nil ?_; exact rfl
  · exact rfl
  · exact rfl
  refine r_and rfl rfl ?_
  refine asB rfl ?_
  refine r_nil ?_
  refine i_then ?_
  refine t_ret ?_
  refine i_rp1 rfl rfl ?_
  all_goals exact ret_refl rfl rfl
  skip
end Go.Proofs.YtpnndljmhpepgaaGreat

namespace Go.Proofs.YtpnndljmhpepgaaGreat
open Go Go.T
structure Sk where
  grain : List Int
  taken : Int
  mixed : Int
def U8 : El Int := El.mk' 1 (fun n => [Ty.int .u8 n]) (fun _ => rfl) (fun _ => ⟨rfl, rfl, rfl⟩)
def skTys (s : Sk) : List Ty := [Ty.sl U8 s.grain, Ty.int .i64 s.taken, Ty.int .u32 s.mixed]
def mixB (s : Sk) : Int := IntKind.u32.wrap (bits .xor .u32 s.mixed (IntKind.u32.wrap (nth s.grain (s.taken.tmod s.grain.length).toNat)) * 16777619)
def skMix1 (s : Sk) : Sk := if (s.grain.length : Int) > 0 then { s with mixed := mixB s } else s
def skTake (s : Sk) : Sk := { s with taken := s.taken + 1 }
def mixC (s : Sk) : Int := IntKind.u32.wrap (IntKind.u32.wrap (s.mixed * 1664525) + 1013904223)
def skMix2 (s : Sk) : Sk := if s.taken > (s.grain.length : Int) then { s with mixed := mixC s } else s
def skNext (s : Sk) : Sk := skMix2 (skTake (skMix1 s))
def skVal (s : Sk) : Int := IntKind.i64.wrap (bits .and .u32 (bits .xor .u32 s.mixed (s.mixed / 2 ^ (15 : Int).toNat) / 2 ^ (8 : Int).toNat) 65535)
def Sk.Ok (s : Sk) (n : Int) : Prop := 0 ≤ s.taken ∧ s.taken + n ≤ 4611686018427387904
theorem skMix1_taken (s : Sk) : (skMix1 s).taken = s.taken := by unfold skMix1; split <;> rfl
theorem skMix2_taken (s : Sk) : (skMix2 s).taken = s.taken := by unfold skMix2; split <;> rfl
theorem skNext_taken (s : Sk) : (skNext s).taken = s.taken + 1 := by unfold skNext; rw [skMix2_taken, skTake, skMix1_taken]
theorem bits_and_ffff (a : Int) : 0 ≤ bits .and .u32 a 65535 ∧ bits .and .u32 a 65535 ≤ 65535 := by
  have e : bits .and .u32 a 65535 = IntKind.u32.wrap (((BitVec.ofInt 32 a &&& BitVec.ofInt 32 65535).toNat : Nat) : Int) := rfl
  have h1 : (BitVec.ofInt 32 a &&& BitVec.ofInt 32 65535).toNat ≤ 65535 := by
    rw [BitVec.toNat_and]
    exact Nat.and_le_right
  rw [e]
  generalize (BitVec.ofInt 32 a &&& BitVec.ofInt 32 65535).toNat = n at h1
  have : IntKind.u32.wrap (n : Int) = (n : Int) % 4294967296 := rfl
  rw [this]; omega
theorem skVal_bound (s : Sk) : 0 ≤ skVal s ∧ skVal s ≤ 65535 := by
  have h := bits_and_ffff (bits .xor .u32 s.mixed (s.mixed / 2 ^ (15 : Int).toNat) / 2 ^ (8 : Int).toNat)
  unfold skVal
  rw [IntWalk.i64_in _ (by omega)]; exact h
def skBelow (s : Sk) (n : Int) : Int := (skVal (skNext s)).tmod (max 1 n)
theorem skBelow_bound (s : Sk) (n : Int) : 0 ≤ skBelow s n ∧ skBelow s n < max 1 n ∧ skBelow s n ≤ 65535 := by
  have h := skVal_bound (skNext s)
  unfold skBelow
  have h1 : (skVal (skNext s)).tmod (max 1 n) = skVal (skNext s) % max 1 n := Int.tmod_eq_emod_of_nonneg h.1
  have h2 := Int.emod_lt_of_pos (skVal (skNext s)) (show 0 < max 1 n by omega)
  have h3 := Int.emod_nonneg (skVal (skNext s)) (show max 1 n ≠ 0 by omega)
  have h4 : skVal (skNext s) % max 1 n ≤ skVal (skNext s) := by
    have := Int.mul_ediv_add_emod (skVal (skNext s)) (max 1 n)
    have hq : 0 ≤ skVal (skNext s) / max 1 n := Int.ediv_nonneg h.1 (by omega)
    have : 0 ≤ max 1 n * (skVal (skNext s) / max 1 n) := Int.mul_nonneg (by omega) hq
    omega
  omega
def skAmong (s : Sk) (lo hi : Int) : Int := lo + skBelow s (hi - lo + 1)
def skRare (s : Sk) (n : Int) : Bool := decide (skBelow s n = 0)
def skFill (grain : List Int) : Sk := ⟨grain, 0, bits .xor .u32 2166136261 (IntKind.u32.wrap grain.length)⟩
def modM (v n : Int) : Int := if n < 1 then 0 else (v.tmod n + n).tmod n
def insL (xs : List Int) (i : Nat) (k : Int) : List Int := xs.take i ++ k :: xs.drop i
theorem insL_len {xs : List Int} {i : Nat} (h : i ≤ xs.length) (k : Int) : (insL xs i k).length = xs.length + 1 := by simp [insL]; omega
theorem insL_mem {xs : List Int} {i : Nat} {k x : Int} : x ∈ insL xs i k ↔ x = k ∨ x ∈ xs := by
  unfold insL
  rw [List.mem_append, List.mem_cons]
  constructor
  · rintro (h | rfl | h)
    · exact .inr (List.mem_of_mem_take h)
    · exact .inl rfl
    · exact .inr (List.mem_of_mem_drop h)
  · rintro (rfl | h)
    · exact .inr (.inl rfl)
    · rw [← List.take_append_drop i xs, List.mem_append] at h
      exact h.imp id .inr
theorem insL_nodup {xs : List Int} {i : Nat} {k : Int} (h : xs.Nodup) (hk : k ∉ xs) : (insL xs i k).Nodup := by
  unfold insL
  have h2 : (xs.take i ++ xs.drop i).Nodup := by rw [List.take_append_drop]; exact h
  rw [List.nodup_append] at h2 ⊢
  obtain ⟨a, b, c⟩ := h2
  refine ⟨a, List.nodup_cons.2 ⟨fun h => hk (List.mem_of_mem_drop h), b⟩, fun x hx y hy => ?_⟩
  rcases List.mem_cons.1 hy with rfl | hy
  · rintro rfl; exact hk (List.mem_of_mem_take hx)
  · exact c x hx y hy
def shufUp (s : Sk) : Nat → List Int × Sk
  | 0 => ([], s)
  | k + 1 => (insL (shufUp s k).1 (skBelow (shufUp s k).2 ((k : Int) + 1)).toNat k, skNext (shufUp s k).2)
theorem shuf_spec (s : Sk) : ∀ k, (shufUp s k).1.length = k ∧ (shufUp s k).1.Nodup ∧ (∀ x, x ∈ (shufUp s k).1 ↔ 0 ≤ x ∧ x < (k : Int)) ∧ (shufUp s k).2.taken = s.taken + k
  | 0 => ⟨rfl, List.nodup_nil, fun x => ⟨fun h => (by cases h), fun h => by omega⟩, by simp [shufUp]⟩
  | k + 1 => by
    obtain ⟨h1, h2, h3, h4⟩ := shuf_spec s k
    have hb := skBelow_bound (shufUp s k).2 ((k : Int) + 1)
    refine ⟨?_, insL_nodup h2 (fun h => by have := (h3 _).1 h; omega), fun x => ?_, ?_⟩
    · show (insL _ _ _).length = _
      rw [insL_len (by omega), h1]
    · show x ∈ insL _ _ _ ↔ _
      rw [insL_mem, h3]; omega
    · show (skNext _).taken = _
      rw [skNext_taken, h4]; omega
end Go.Proofs.YtpnndljmhpepgaaGreat

namespace Go.Proofs.YtpnndljmhpepgaaGreat
open Go Go.T
set_option maxHeartbeats 2000000
attribute [local irreducible] dInt dBool dSl dPp dPtr dAgg dTup dClo dAny dEx dStr dGd dCells dVec dVs dRow dOp nth Tri Into TOps Ctr bodyPost Exit.then Exit.inBlock Code.wp Code.wpIn dWhen dPa dPe dAo dArr dMp dPm dMap dCJ CtrG CtrI OpY keepPost iterPost bodyPostM roundQ
end Go.Proofs.YtpnndljmhpepgaaGreat

namespace Go.Proofs.YtpnndljmhpepgaaGreat
open Go Go.T
theorem skAmong_in (s : Sk) {lo hi : Int} (h : lo ≤ hi) : lo ≤ skAmong s lo hi ∧ skAmong s lo hi ≤ hi := by
  have := skBelow_bound s (hi - lo + 1)
  unfold skAmong; omega
theorem right_check {b : Barn} (h : b.Right) : checkB b = 0 := by
  have hb := h.bins
  have h1 : manyB b = false := by
    unfold manyB
    rw [Bool.or_eq_false_iff, Bool.not_eq_false', inB_true, decide_eq_false_iff_not]
    have := h.lots; omega
  have h2 : rangeB b = false := by
    unfold rangeB
    rw [Bool.or_eq_false_iff, Bool.not_eq_false', Bool.not_eq_false', List.all_eq_true, List.all_eq_true]
    exact ⟨fun n hn => inB_true.2 (h.size n hn), fun l hl => inB_true.2 (h.sacks l hl)⟩
  have h3 : notB b = false := by
    unfold notB
    rw [Bool.not_eq_false', List.all_eq_true]
    intro l hl
    have e1 := h.inn l hl
    have e2 := h.aim l hl
    simp only [Bool.and_eq_true, Bool.or_eq_true, decide_eq_true_eq, Barn.bin, inB_true]
    omega
  have h4 : twiceB b = false := by
    unfold twiceB
    rw [any_range_false]
    intro i hi
    unfold twiceI
    rw [List.any_eq_false]
    intro x hx
    rw [List.mem_take_iff_getElem] at hx
    obtain ⟨k, hk, rfl⟩ := hx
    rw [← nth_lt]
    obtain ⟨e1, e2⟩ := h.apart i k (by omega) hi
    simp only [clashL, Bool.or_eq_true, Bool.and_eq_true, decide_eq_true_eq, Bool.not_eq_true', decide_eq_false_iff_not, not_or, not_and]
    exact ⟨e1, fun e => by have := e2 e; omega⟩
  have h5 : fullB b = false := by
    unfold fullB
    rw [any_range_false]
    intro i hi
    obtain ⟨e1, e2⟩ := h.holds i hi
    simp only [fullI, Barn.hold, Bool.or_eq_false_iff, Bool.not_eq_false', decide_eq_true_eq, Bool.and_eq_false_iff, Int.toNat_natCast]
    refine ⟨e1, ?_⟩
    by_cases e : (nth b.lots i).aim = -1
    · exact .inl e
    · exact .inr (e2 e)
  unfold checkB
  rw [if_neg (by rw [h1]; decide), if_neg (by rw [h2]; decide), if_neg (by rw [h3]; decide), if_neg (by rw [h4]; decide), if_neg (by rw [h5]; decide)]
def sizeUp (s : Sk) : Nat → List Int × Sk
  | 0 => ([], s)
  | k + 1 => ((sizeUp s k).1 ++ [skAmong (sizeUp s k).2 20 60], skNext (sizeUp s k).2)
theorem sizeUp_ok (s : Sk) : ∀ k, (sizeUp s k).1.length = k ∧ (∀ x ∈ (sizeUp s k).1, 20 ≤ x ∧ x ≤ 60) ∧ (sizeUp s k).2.taken = s.taken + k
  | 0 => ⟨rfl, fun x h => (by cases h), by simp [sizeUp]⟩
  | k + 1 => by
    obtain ⟨h1, h2, h3⟩ := sizeUp_ok s k
    refine ⟨by show ((sizeUp s k).1 ++ [_]).length = _; rw [List.length_append, h1]; rfl, fun x hx => ?_, by show (skNext _).taken = _; rw [skNext_taken, h3]; omega⟩
    rcases List.mem_append.1 (show x ∈ (sizeUp s k).1 ++ [skAmong (sizeUp s k).2 20 60] from hx) with hx | hx
    · exact h2 x hx
    · rw [List.mem_singleton.1 hx]; exact skAmong_in _ (by omega)
structure Md where
  s : Sk
  bins : Int
  lots : Int
def Md.n (d : Md) : Nat := (skAmong d.s 2 d.bins).toNat
def Md.up (d : Md) (k : Nat) : List Int × Sk := sizeUp (skNext d.s) k
def Md.sizes (d : Md) : List Int := (d.up d.n).1
def Md.many (d : Md) : Nat := (skBelow (d.up d.n).2 (min d.lots (d.n : Nat) + 1)).toNat
def Md.to (d : Md) : List Int × Sk := shufUp (skNext (d.up d.n).2) d.n
def Md.ks (d : Md) : List Int × Sk := shufUp d.to.2 d.n
def Md.aimV (d : Md) (s : Sk) (k : Nat) : Int := if skRare (skNext s) 4 = true then -1 else nth d.to.1 k
def Md.sackV (d : Md) (s : Sk) (k : Nat) : Int := skAmong s 1 (nth d.sizes (nth d.ks.1 k).toNat)
def Md.lotV (d : Md) (s : Sk) (k : Nat) : Lot := ⟨if d.aimV s k ≠ -1 ∧ nth d.sizes (d.aimV s k).toNat < d.sackV s k then nth d.sizes (d.aimV s k).toNat else d.sackV s k, nth d.ks.1 k, d.aimV s k⟩
def Md.lt (d : Md) : Nat → List Lot × Sk
  | 0 => ([], d.ks.2)
  | k + 1 => ((d.lt k).1 ++ [d.lotV (d.lt k).2 k], skNext (skNext (d.lt k).2))
def Md.barn (d : Md) : Barn := ⟨d.sizes, (d.lt d.many).1⟩
def Md.sk (d : Md) : Sk := (d.lt d.many).2
structure Md.Ok (d : Md) : Prop where
  bins : 2 ≤ d.bins ∧ d.bins ≤ 7
  lots : 0 ≤ d.lots ∧ d.lots ≤ 6
variable {d : Md}
theorem Md.n_in (h : d.Ok) : 2 ≤ d.n ∧ d.n ≤ 7 ∧ (d.n : Int) ≤ d.bins ∧ (d.n : Int) = skAmong d.s 2 d.bins := by
  have h1 := skAmong_in d.s h.bins.1
  have h2 := h.bins
  unfold Md.n; omega
theorem Md.sizes_ok (d : Md) : d.sizes.length = d.n ∧ (∀ x ∈ d.sizes, 20 ≤ x ∧ x ≤ 60) := ⟨(sizeUp_ok _ _).1, (sizeUp_ok _ _).2.1⟩
theorem Md.up_taken (d : Md) (k : Nat) : (d.up k).2.taken = d.s.taken + 1 + k := by
  have := (sizeUp_ok (skNext d.s) k).2.2
  rw [skNext_taken] at this; exact this
theorem Md.many_in (h : d.Ok) : d.many ≤ d.n ∧ (d.many : Int) ≤ d.lots ∧ (d.many : Int) = skBelow (d.up d.n).2 (min d.lots (d.n : Nat) + 1) := by
  have h1 := skBelow_bound (d.up d.n).2 (min d.lots (d.n : Nat) + 1)
  have h2 := h.lots
  unfold Md.many; omega
theorem Md.to_ok (d : Md) : d.to.1.length = d.n ∧ d.to.1.Nodup ∧ (∀ x ∈ d.to.1, 0 ≤ x ∧ x < (d.n : Int)) ∧ d.to.2.taken = d.s.taken + 2 + 2 * d.n := by
  obtain ⟨h1, h2, h3, h4⟩ := shuf_spec (skNext (d.up d.n).2) d.n
  refine ⟨h1, h2, fun x hx => (h3 x).1 hx, ?_⟩
  show (shufUp _ _).2.taken = _
  rw [h4, skNext_taken, d.up_taken]; omega
theorem Md.ks_ok (d : Md) : d.ks.1.length = d.n ∧ d.ks.1.Nodup ∧ (∀ x ∈ d.ks.1, 0 ≤ x ∧ x < (d.n : Int)) ∧ d.ks.2.taken = d.s.taken + 2 + 3 * d.n := by
  obtain ⟨h1, h2, h3, h4⟩ := shuf_spec d.to.2 d.n
  refine ⟨h1, h2, fun x hx => (h3 x).1 hx, ?_⟩
  show (shufUp _ _).2.taken = _
  rw [h4, d.to_ok.2.2.2]; omega
theorem Md.lt_len (d : Md) : ∀ k, (d.lt k).1.length = k ∧ (d.lt k).2.taken = d.s.taken + 2 + 3 * d.n + 2 * k
  | 0 => ⟨rfl, by show d.ks.2.taken = _; rw [d.ks_ok.2.2.2]; simp⟩
  | k + 1 => by
    obtain ⟨h1, h2⟩ := d.lt_len k
    refine ⟨by show ((d.lt k).1 ++ [_]).length = _; rw [List.length_append, h1]; rfl, ?_⟩
    show (skNext (skNext _)).taken = _
    rw [skNext_taken, skNext_taken, h2]; omega
theorem Md.lt_nth (d : Md) : ∀ k i, i < k → nth (d.lt k).1 i = d.lotV (d.lt i).2 i
  | 0, i, h => by omega
  | k + 1, i, h => by
    have hl := (d.lt_len k).1
    show nth ((d.lt k).1 ++ [d.lotV (d.lt k).2 k]) i = _
    unfold nth
    by_cases e : i < k
    · rw [List.getD_eq_getElem?_getD, List.getElem?_append_left (by omega), ← List.getD_eq_getElem?_getD]
      exact d.lt_nth k i e
    · have e : i = k := by omega
      subst e
      rw [List.getD_eq_getElem?_getD, List.getElem?_append_right (by omega), hl]; simp
theorem Md.size_at (d : Md) {x : Int} (h : 0 ≤ x ∧ x < (d.n : Int)) : 20 ≤ nth d.sizes x.toNat ∧ nth d.sizes x.toNat ≤ 60 := d.sizes_ok.2 _ (nth_mem (by rw [d.sizes_ok.1]; omega))
theorem nodup_nth {l : List Int} (h : l.Nodup) {i k : Nat} (hi : i < l.length) (hk : k < l.length) (e : nth l i = nth l k) : i = k := by
  rw [nth_lt hi, nth_lt hk] at e
  rw [List.nodup_iff_pairwise_ne, List.pairwise_iff_getElem] at h
  rcases Nat.lt_trichotomy i k with c | c | c
  · exact absurd e (h i k hi hk c)
  · exact c
  · exact absurd e.symm (h k i hk hi c)
theorem Md.lot_ok (d : Md) (s : Sk) {k : Nat} (hk : k < d.n) : (0 ≤ nth d.ks.1 k ∧ nth d.ks.1 k < (d.n : Int)) ∧ (d.aimV s k = -1 ∨ (d.aimV s k = nth d.to.1 k ∧ 0 ≤ nth d.to.1 k ∧ nth d.to.1 k < (d.n : Int))) ∧ 1 ≤ d.sackV s k ∧ d.sackV s k ≤ nth d.sizes (nth d.ks.1 k).toNat := by
  have h1 := d.ks_ok.2.2.1 _ (nth_mem (xs := d.ks.1) (k := k) (by rw [d.ks_ok.1]; exact hk))
  have h2 := d.to_ok.2.2.1 _ (nth_mem (xs := d.to.1) (k := k) (by rw [d.to_ok.1]; exact hk))
  have h3 := d.size_at h1
  refine ⟨h1, ?_, ?_⟩
  · unfold Md.aimV
    by_cases e : skRare (skNext s) 4 = true
    · exact .inl (if_pos e)
    · exact .inr ⟨if_neg e, h2⟩
  · exact skAmong_in s (by omega)
theorem Md.right (h : d.Ok) : d.barn.Right := by
  have hn := d.n_in h
  have hm := d.many_in h
  have hs := d.sizes_ok
  have hl := (d.lt_len d.many).1
  have hlots : d.barn.lots.length = d.many := hl
  have hsz : d.barn.sizes.length = d.n := hs.1
  have key : ∀ l ∈ d.barn.lots, ∃ i, i < d.many ∧ l = d.lotV (d.lt i).2 i := fun l hl' => by
    obtain ⟨i, hi, rfl⟩ := mem_nth hl'
    rw [hlots] at hi
    exact ⟨i, hi, d.lt_nth _ i hi⟩
  have hlo := h.lots
  have hsack : ∀ i, i < d.many → 1 ≤ (d.lotV (d.lt i).2 i).sacks ∧ (d.lotV (d.lt i).2 i).sacks ≤ nth d.sizes (nth d.ks.1 i).toNat ∧ ((d.lotV (d.lt i).2 i).aim ≠ -1 → (d.lotV (d.lt i).2 i).sacks ≤ nth d.sizes (d.lotV (d.lt i).2 i).aim.toNat) := fun i hi => by
    obtain ⟨e1, e2, e3, e4⟩ := d.lot_ok (d.lt i).2 (k := i) (by omega)
    unfold Md.lotV
    show 1 ≤ ite _ _ _ ∧ ite _ _ _ ≤ _ ∧ (d.aimV _ _ ≠ -1 → ite _ _ _ ≤ _)
    by_cases c : d.aimV (d.lt i).2 i ≠ -1 ∧ nth d.sizes (d.aimV (d.lt i).2 i).toNat < d.sackV (d.lt i).2 i
    · rw [if_pos c]
      rcases e2 with e2 | ⟨e2, e5⟩
      · exact absurd e2 c.1
      · have := d.size_at (x := d.aimV (d.lt i).2 i) (by omega)
        exact ⟨by omega, by omega, fun _ => Int.le_refl _⟩
    · rw [if_neg c]
      refine ⟨e3, e4, fun hne => ?_⟩
      show d.sackV (d.lt i).2 i ≤ nth d.sizes (d.aimV (d.lt i).2 i).toNat
      · by_cases c2 : nth d.sizes (d.aimV (d.lt i).2 i).toNat < d.sackV (d.lt i).2 i
        · exact absurd ⟨hne, c2⟩ c
        · omega
  refine ⟨by omega, by omega, fun x hx => by have := hs.2 x hx; omega, fun l hl' => ?_, fun l hl' => ?_, fun l hl' => ?_, fun i k hk hi => ?_, fun i hi => ?_⟩
  · obtain ⟨i, hi, rfl⟩ := key l hl'
    have h1 := hsack i hi
    have h2 := d.size_at (d.lot_ok (d.lt i).2 (k := i) (by omega)).1
    omega
  · obtain ⟨i, hi, rfl⟩ := key l hl'
    have h2 := (d.lot_ok (d.lt i).2 (k := i) (by omega)).1
    show 0 ≤ nth d.ks.1 i ∧ nth d.ks.1 i < _
    rw [hsz]; exact h2
  · obtain ⟨i, hi, rfl⟩ := key l hl'
    have h2 := (d.lot_ok (d.lt i).2 (k := i) (by omega)).2.1
    show -1 ≤ d.aimV _ _ ∧ d.aimV _ _ < _
    rw [hsz]; omega
  · rw [hlots] at hi
    have e1 : nth d.barn.lots i = d.lotV (d.lt i).2 i := d.lt_nth _ i hi
    have e2 : nth d.barn.lots k = d.lotV (d.lt k).2 k := d.lt_nth _ k (by omega)
    rw [e1, e2]
    refine ⟨fun e => ?_, fun e => ?_⟩
    · have := nodup_nth d.ks_ok.2.1 (i := i) (k := k) (by rw [d.ks_ok.1]; omega) (by rw [d.ks_ok.1]; omega) e
      omega
    · have e : d.aimV (d.lt i).2 i = d.aimV (d.lt k).2 k := e
      show d.aimV (d.lt i).2 i = -1
      rcases (d.lot_ok (d.lt i).2 (k := i) (by omega)).2.1 with h1 | ⟨h1, h1'⟩
      · exact h1
      · rcases (d.lot_ok (d.lt k).2 (k := k) (by omega)).2.1 with h2 | ⟨h2, h2'⟩
        · omega
        · have := nodup_nth d.to_ok.2.1 (i := i) (k := k) (by rw [d.to_ok.1]; omega) (by rw [d.to_ok.1]; omega) (by omega)
          omega
  · rw [hlots] at hi
    have e1 : nth d.barn.lots i = d.lotV (d.lt i).2 i := d.lt_nth _ i hi
    rw [e1]
    exact ⟨(hsack i hi).2.1, (hsack i hi).2.2⟩
end Go.Proofs.YtpnndljmhpepgaaGreat

namespace Go.Proofs.YtpnndljmhpepgaaGreat
open Go Go.T
set_option maxHeartbeats 4000000
attribute [local irreducible] dInt dBool dSl dPp dPtr dAgg dTup dClo dAny dEx dStr dGd dCells dVec dVs dRow dOp nth Tri Into TOps Ctr bodyPost Exit.then Exit.inBlock Code.wp Code.wpIn dWhen dPa dPe dAo dArr dMp dPm dMap dCJ CtrG CtrI OpY keepPost iterPost bodyPostM roundQ
attribute [local irreducible] Md.up Md.to Md.ks Md.lt Md.aimV Md.sackV shufUp Md.n Md.many Md.sizes
end Go.Proofs.YtpnndljmhpepgaaGreat

namespace Go.T
open Go Go.RowKit
section
variable {P : Program} {fr : Fr} {ops : Array Oper} {A : As} {rest : List Oper} {K : As → List (As × Fx) → Prop} {d : Nat} {t : TypeId} {p : String} {e : Array Edge}
end
end Go.T

namespace Go.Proofs.YtpnndljmhpepgaaGreat
open Go Go.T
def innL (b : Barn) : List Int := b.lots.map fun l => l.inn
def noT (b : Barn) (p : List Int) (t : Tur) : Bool := decide (t.lot < 0) || decide (t.lot ≥ p.length) || decide (t.aim < 0) || decide (t.aim ≥ b.sizes.length) || decide (t.aim ∈ p) || decide (nth b.sizes t.aim.toNat < (nth b.lots t.lot.toNat).sacks)
theorem noT_false {b : Barn} {p : List Int} {t : Tur} : noT b p t = false ↔ (0 ≤ t.lot ∧ t.lot < p.length) ∧ (0 ≤ t.aim ∧ t.aim < b.sizes.length) ∧ t.aim ∉ p ∧ (nth b.lots t.lot.toNat).sacks ≤ nth b.sizes t.aim.toNat := by
  unfold noT
  simp only [Bool.or_eq_false_iff, decide_eq_false_iff_not]
  constructor
  · rintro ⟨⟨⟨⟨⟨h1, h2⟩, h3⟩, h4⟩, h5⟩, h6⟩; exact ⟨by omega, by omega, h5, by omega⟩
  · rintro ⟨h1, h2, h3, h4⟩; exact ⟨⟨⟨⟨⟨by omega, by omega⟩, by omega⟩, by omega⟩, h3⟩, by omega⟩
def lawGo (b : Barn) : List Int → List Tur → Option (List Int)
  | p, [] => some p
  | p, t :: l => if noT b p t = true then none else lawGo b (p.set t.lot.toNat t.aim) l
def lawV (b : Barn) (plan : List Tur) : List Int × Bool := match lawGo b (innL b) plan with
  | some p => (p, true)
  | none => ([], false)
structure LIx (b : Barn) (plan : List Tur) (k : Nat) (p : List Int) : Prop where
  same : lawGo b (innL b) plan = lawGo b p (plan.drop k)
  len : p.length = b.lots.length
  le : k ≤ plan.length
section
variable {b : Barn} {plan : List Tur} {k : Nat} {p : List Int}
theorem LIx.stop (h : LIx b plan k p) (hk : k < plan.length) (hn : noT b p (nth plan k) = true) : lawV b plan = ([], false) := by
  have e : lawGo b (innL b) plan = none := by rw [h.same, drop_nth hk]; exact if_pos hn
  unfold lawV; rw [e]
theorem LIx.next (h : LIx b plan k p) (hk : k < plan.length) (hn : noT b p (nth plan k) = false) : LIx b plan (k + 1) (p.set (nth plan k).lot.toNat (nth plan k).aim) := by
  refine ⟨?_, by rw [List.length_set]; exact h.len, hk⟩
  rw [h.same, drop_nth hk]
  exact if_neg (by rw [hn]; decide)
theorem LIx.end (h : LIx b plan k p) (hk : plan.length ≤ k) : lawV b plan = (p, true) := by
  unfold lawV
  rw [h.same, List.drop_of_length_le hk]; rfl
end
theorem takenP_not {b : Barn} {P : Pl} {x : Int} : takenP b P x = false ↔ x ∉ P.1.take b.lots.length := by
  unfold takenP; rw [List.any_eq_false]; simp only [decide_eq_true_eq]
  exact ⟨fun h hm => h _ hm rfl, fun h y hy e => h (e ▸ hy)⟩
theorem noT_turns {b : Barn} {P : Pl} (h6 : b.lots.length ≤ 6) {t : Tur} : noT b (P.1.take b.lots.length) t = false ↔ t ∈ turnsL b P := by
  rw [noT_false, mem_turnsL]
  have hl : (P.1.take b.lots.length).length = b.lots.length := by rw [List.length_take, P.2]; omega
  rw [hl, takenP_not]; unfold Barn.hold; rw [decide_eq_true_eq]
  constructor
  · rintro ⟨⟨h1, h2⟩, ⟨h3, h4⟩, h5, h6⟩; exact ⟨h1, h2, h3, h4, h5, h6⟩
  · rintro ⟨h1, h2, h3, h4, h5, h6⟩; exact ⟨⟨h1, h2⟩, ⟨h3, h4⟩, h5, h6⟩
theorem set_take {P : Pl} {t : Tur} {n : Nat} : (P.1.take n).set t.lot.toNat t.aim = (moved P t).1.take n := by
  unfold moved; rw [List.take_set]
theorem go_law {b : Barn} (h6 : b.lots.length ≤ 6) : ∀ (l : List Tur) (P : Pl), lawGo b (P.1.take b.lots.length) l = (goP b P l).map fun q => q.1.take b.lots.length
  | [], P => rfl
  | t :: l, P => by
    show (if noT b (P.1.take b.lots.length) t = true then none else lawGo b ((P.1.take b.lots.length).set t.lot.toNat t.aim) l) = Option.map _ (if t ∈ turnsL b P then goP b (moved P t) l else none)
    by_cases h : t ∈ turnsL b P
    · rw [if_pos h, if_neg (by rw [(noT_turns h6).2 h]; decide), set_take, go_law h6 l]
    · rw [if_neg h, if_pos (by
        cases e : noT b (P.1.take b.lots.length) t with
        | true => rfl
        | false => exact absurd ((noT_turns h6).1 e) h)]; rfl
theorem first_inn {b : Barn} (h6 : b.lots.length ≤ 6) : (firstP b).1.take b.lots.length = innL b := by
  unfold firstP innL
  show List.take _ (List.take 6 _) = _
  rw [List.take_take, Nat.min_eq_left h6, List.take_append_of_le_length (by simp)]
  exact List.take_of_length_le (by simp)
theorem law_go {b : Barn} (h6 : b.lots.length ≤ 6) (l : List Tur) : lawGo b (innL b) l = (goP b (firstP b) l).map fun q => q.1.take b.lots.length := by rw [← first_inn h6, go_law h6]
theorem lawV_some {b : Barn} (h6 : b.lots.length ≤ 6) {l : List Tur} {q : Pl} (h : goP b (firstP b) l = some q) : lawV b l = (q.1.take b.lots.length, true) := by
  unfold lawV; rw [law_go h6, h]; rfl
theorem lawV_none {b : Barn} (h6 : b.lots.length ≤ 6) {l : List Tur} (h : goP b (firstP b) l = none) : lawV b l = ([], false) := by
  unfold lawV; rw [law_go h6, h]; rfl
def okI (b : Barn) (p : List Int) (i : Nat) : Bool := decide ((nth b.lots i).aim = -1) || decide ((nth b.lots i).aim = nth p i)
def isUp (b : Barn) (plan : List Tur) (k : Nat) : Bool := (lawV b plan).2 && (List.range k).all (okI b (lawV b plan).1)
def rightV (b : Barn) (plan : List Tur) : Bool := isUp b plan (lawV b plan).1.length
theorem nth_take {l : List Int} {n i : Nat} (h : i < n) : nth (l.take n) i = nth l i := by
  unfold nth; rw [List.getD_eq_getElem?_getD, List.getD_eq_getElem?_getD, List.getElem?_take_of_lt h]
theorem right_iff {b : Barn} (h6 : b.lots.length ≤ 6) {l : List Tur} : rightV b l = true ↔ ∃ q, goP b (firstP b) l = some q ∧ madeP b q = true := by
  unfold rightV isUp
  cases h : goP b (firstP b) l with
  | none => rw [lawV_none h6 h]; exact ⟨(fun h => by cases h), fun ⟨_, h, _⟩ => by cases h⟩
  | some q =>
    rw [lawV_some h6 h]
    have hl : (q.1.take b.lots.length).length = b.lots.length := by rw [List.length_take, q.2]; omega
    have e : (true && (List.range (q.1.take b.lots.length).length).all (okI b (q.1.take b.lots.length))) = madeP b q := by
      rw [hl, Bool.true_and]
      unfold madeP
      rw [Bool.eq_iff_iff, List.all_eq_true, List.all_eq_true]
      have key : ∀ i, i ∈ List.range b.lots.length → okI b (q.1.take b.lots.length) i = (decide ((nth b.lots i).aim = -1) || decide ((nth b.lots i).aim = nth q.1 i)) := fun i hi => by
        unfold okI; rw [nth_take (List.mem_range.1 hi)]
      exact ⟨fun H i hi => by rw [← key i hi]; exact H i hi, fun H i hi => by rw [key i hi]; exact H i hi⟩
    show (true && _) = true ↔ _
    rw [e]
    exact ⟨fun h => ⟨q, rfl, h⟩, fun ⟨q', h1, h2⟩ => by injection h1 with h1; rw [h1]; exact h2⟩
def tryT (b : Barn) (s : Sk) : Tur := ⟨skBelow s b.lots.length, skBelow (skNext s) b.sizes.length⟩
def walkS (b : Barn) (s : Sk) : Nat → List Tur × Sk
  | 0 => ([], s)
  | k + 1 => (if (lawV b ((walkS b s k).1 ++ [tryT b (walkS b s k).2])).2 = true then (walkS b s k).1 ++ [tryT b (walkS b s k).2] else (walkS b s k).1, skNext (skNext (walkS b s k).2))
def walkN (s : Sk) (most : Int) : Nat := (skBelow s (most + 1)).toNat
def walkP (b : Barn) (s : Sk) (most : Int) : List Tur := (walkS b (skNext s) (walkN s most)).1
def walkE (b : Barn) (s : Sk) (most : Int) : Sk := (walkS b (skNext s) (walkN s most)).2
structure WalkOk (b : Barn) (s : Sk) (most : Int) (l : List Tur) (e : Sk) : Prop where
  len : (l.length : Int) ≤ most
  taken : s.taken ≤ e.taken ∧ e.taken ≤ s.taken + 1 + 2 * most
  ok : (lawV b l).2 = true
end Go.Proofs.YtpnndljmhpepgaaGreat

namespace Go.Proofs.YtpnndljmhpepgaaGreat
open Go Go.T
set_option maxHeartbeats 4000000
def innU (b : Barn) (k : Nat) : List Int := (b.lots.take k).map fun l => l.inn
attribute [local irreducible] dInt dBool dSl dPp dPtr dAgg dTup dClo dAny dEx dStr dGd dCells dVec dVs dRow dOp nth Tri Into TOps Ctr bodyPost Exit.then Exit.inBlock Code.wp Code.wpIn dWhen dPa dPe dAo dArr dMp dPm dMap dCJ CtrG CtrI OpY keepPost iterPost bodyPostM roundQ
end Go.Proofs.YtpnndljmhpepgaaGreat

namespace Go.Proofs.YtpnndljmhpepgaaGreat
open Go Go.T
def apartP (b : Barn) (p : Pl) : Prop := ∀ i k, i < b.lots.length → k < b.lots.length → nth p.1 i = nth p.1 k → i = k
theorem goP_cons {b : Barn} {p q : Pl} {t : Tur} {l : List Tur} (h : goP b p (t :: l) = some q) : t ∈ turnsL b p ∧ goP b (moved p t) l = some q := by
  have h : (if t ∈ turnsL b p then goP b (moved p t) l else none) = some q := h
  by_cases hu : t ∈ turnsL b p
  · rw [if_pos hu] at h; exact ⟨hu, h⟩
  · rw [if_neg hu] at h; cases h
theorem goP_cons' {b : Barn} {p : Pl} {t : Tur} {l : List Tur} (h : t ∈ turnsL b p) : goP b p (t :: l) = goP b (moved p t) l := if_pos h
theorem first_nth {b : Barn} (h6 : b.lots.length ≤ 6) {i : Nat} (hi : i < b.lots.length) : nth (firstP b).1 i = (nth b.lots i).inn := by
  rw [← nth_take (n := b.lots.length) hi, first_inn h6]
  unfold innL
  rw [nth_lt (by rw [List.length_map]; exact hi), nth_lt hi, List.getElem_map]
theorem made_at {b : Barn} {q : Pl} (h : madeP b q = true) {i : Nat} (hi : i < b.lots.length) : (nth b.lots i).aim = -1 ∨ (nth b.lots i).aim = nth q.1 i := by
  unfold madeP at h
  have := List.all_eq_true.1 h i (List.mem_range.2 hi)
  simpa using this
theorem sum_nonneg' : ∀ (l : List Int), (∀ x ∈ l, 0 ≤ x) → 0 ≤ l.sum
  | [], _ => Int.le_refl _
  | x :: l, h => by
    rw [List.sum_cons]
    have h1 := h x List.mem_cons_self
    have h2 := sum_nonneg' l fun y hy => h y (List.mem_cons_of_mem _ hy)
    omega
theorem filtUp_nodup (p : Nat → Bool) (n : Nat) : (filtUp p n).Nodup := by
  unfold filtUp
  rw [List.nodup_iff_pairwise_ne, List.pairwise_map]
  have h : ((List.range n).filter p).Pairwise fun a c => a ≠ c := List.Pairwise.filter _ (List.nodup_iff_pairwise_ne.1 List.nodup_range)
  exact h.imp fun hne e => hne (by omega)
structure Cheap (b : Barn) (c : Tur → Int) (e : Int) (l : List Tur) (n : Int) : Prop where
  err : e = 0 ∨ e = 7
  yes : e = 0 → rightV b l = true ∧ costL c l = n ∧ ∀ x, rightV b x = true → n ≤ costL c x
  no : e = 7 → l = [] ∧ n = 0 ∧ ∀ x, rightV b x = false
theorem cheap {b : Barn} {c : Tur → Int} (hr : b.Right) (hc : CostOk b c) : Cheap b c (planE b c) (planR b c) (costR b c) := by
  have h0 := right_check hr
  have hp := plan_spec hr hc
  have h6 := hr.lots
  unfold planE planR costR
  rw [if_pos h0, if_pos h0, if_pos h0]
  cases hi : (searchM b c false).is with
  | true =>
    rw [if_pos rfl]
    refine ⟨.inl rfl, fun _ => ?_, fun e => by cases e⟩
    obtain ⟨q, h1, h2, h3, h4⟩ := hp.yes hi
    refine ⟨(right_iff h6).2 ⟨q, h1, h2⟩, h3, fun x hx => ?_⟩
    obtain ⟨q', g1, g2⟩ := (right_iff h6).1 hx
    exact h4 x q' g1 g2
  | false =>
    rw [if_neg (by decide)]
    refine ⟨.inr rfl, (fun e => by cases e), fun _ => ⟨if_neg (by rw [hi]; decide), if_neg (by rw [hi]; decide), fun x => ?_⟩⟩
    rw [Bool.eq_false_iff]; intro hx
    obtain ⟨q', g1, g2⟩ := (right_iff h6).1 hx
    have := hp.no hi x q' g1
    rw [g2] at this; cases this
theorem cheap_same {b : Barn} {c c' : Tur → Int} {e e' : Int} {l l' : List Tur} {n n' : Int} (h : Cheap b c e l n) (h' : Cheap b c' e' l' n') : e = e' := by
  rcases h.err with rfl | rfl
  · rcases h'.err with rfl | rfl
    · rfl
    · have := (h.yes rfl).1; rw [(h'.no rfl).2.2] at this; cases this
  · rcases h'.err with rfl | rfl
    · have := (h'.yes rfl).1; rw [(h.no rfl).2.2] at this; cases this
    · rfl
theorem cost_one (l : List Tur) : costL oneC l = l.length := by
  unfold costL oneC
  induction l with
  | nil => rfl
  | cons t l ih => rw [List.map_cons, List.sum_cons, ih, List.length_cons]; omega
theorem rightV_ok {b : Barn} {l : List Tur} (h : rightV b l = true) : (lawV b l).2 = true := by
  unfold rightV isUp at h
  rw [Bool.and_eq_true] at h; exact h.1
def leastUp (b : Barn) (l : List Int) (k : Nat) : Int := ((l.take k).map fun (i : Int) => (nth b.lots i.toNat).sacks).sum
theorem sack_bound {b : Barn} (hr : b.Right) {i : Int} (hi : 0 ≤ i ∧ i < b.lots.length) : 1 ≤ (nth b.lots i.toNat).sacks ∧ (nth b.lots i.toNat).sacks ≤ 300 := hr.sacks _ (nth_mem (by omega))
end Go.Proofs.YtpnndljmhpepgaaGreat

namespace Go.Proofs.YtpnndljmhpepgaaGreat
open Go Go.T
set_option maxHeartbeats 4000000
def walksE (b : Barn) (s : Sk) (most : Int) : Nat → Sk
  | 0 => s
  | k + 1 => walkE b (walksE b s most k) most
attribute [local irreducible] planR planE costR walkP walkE sumUp leastUp rightV mustL checkB
attribute [local irreducible] dInt dBool dSl dPp dPtr dAgg dTup dClo dAny dEx dStr dGd dCells dVec dVs dRow dOp nth Tri Into TOps Ctr bodyPost Exit.then Exit.inBlock Code.wp Code.wpIn dWhen dPa dPe dAo dArr dMp dPm dMap dCJ CtrG CtrI OpY keepPost iterPost bodyPostM roundQ
end Go.Proofs.YtpnndljmhpepgaaGreat
