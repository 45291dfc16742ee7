/- Lemmas: the program and the reference walked, plain laws. -/
import Derived.Test.YtifgbnbkimcchaaGreatDb
namespace Go.Proofs.YtifgbnbkimcchaaGreat
open Go Go.T
attribute [local irreducible] dInt dBool dSl dPp dPtr dAgg dTup dClo dAny dEx dStr dGd dCells dVec dVs dRow dOp nth Tri Into TOps Ctr bodyPost Exit.then Exit.inBlock Code.wp Code.wpIn
theorem ite_flag {p : Prop} [Decidable p] : (!decide ((if p then (1 : Int) else 0) = 0)) = decide p := by by_cases h : p <;> simp [h]
theorem turn0_ok {f : Flr} {b t : Nat} {n : Int} (h : -600000 ≤ addM f t b ∧ addM f t b ≤ 600000) : (0 ≤ (turn0 f b t n).1 ∧ (turn0 f b t n).1 ≤ 600000) ∧ (0 ≤ (turn0 f b t n).2.1 ∧ (turn0 f b t n).2.1 ≤ 600000) ∧ (turn0 f b t n).2.2 = (turn0 f b t n).1 + n := by
  simp only [turn0]
  refine ⟨by omega, by omega, ?_⟩
  split <;> omega
set_option maxRecDepth 100000 in
theorem c_rBounds (f : Flr) (hs : f.Small) (hr : f.Ranged) (hn : f.Named) (b : Nat) (hb : b < f.bears.length) (pays : List Pay) (hp : pays.length ≤ 1000) : Ctr Tryz.prog 28 [flrT f, Ty.int .i64 (b : Nat), Ty.sl PayE pays] (Ty.tup [Ty.int .i64 (boundsR f b pays).1, Ty.int .i64 (boundsR f b pays).2]) := by
  refine fn_intro Tryz.func28 rfl (by decide) Tryz.ntmps28 (by exact Nat.le_of_ble_eq_true rfl) fun w0 M0 => ?_
  have hs1 := hs.bears; have hs2 := hs.bins; have hs3 := hs.turnings; have hs4 := hs.rules
  have hr8 := hr.turnings
  have hnil : ∀ x ∈ ([] : List Int), 0 ≤ x ∧ x < (f.turnings.length : Int) := by intro x hx; cases hx
  have h0 := load_bound hr hnil (by simp) (k := 0) (by simp) b
  have hl0 := loadsM_len f []
  have hl1 := row_len (f := f) (order := []) (k := 0) (by simp)
  refine t_seq ?_
  refine t_region ?_
  refine r_box_agg rfl ?_
  refine asI rfl ?_
  refine asI rfl ?_
  refine r_nil ?_
  refine i_then ?_
  refine t_seq ?_
  refine t_seq ?_
  refine t_region ?_
  refine asI rfl ?_
  refine r_nil ?_
  refine i_then ?_
  refine t_block ?_
  refine t_loop (fun (k1 : {k : Nat // ∀ p ∈ pays.take k, (decide (p.src < 0 ∨ p.src ≥ f.turnings.length) || decide (p.dst < 0 ∨ p.dst ≥ f.turnings.length)) = false}) => live [(1, Ty.int .i64 (b : Nat)), (2, Ty.sl PayE pays), (3, Ty.pp (flrTys f)), (8, Ty.int .i64 (k1.1 : Nat))] []) (fun k1 => pays.length - k1.1) (⟨0, by simp⟩) ?_ fun k1 => ?_
  · (refine Ent.mk' ?_ ?_ <;> (repeat' (first | exact allSub_zero | exact allTags_nil | refine allSub_succ' ?_ (Ty.sub_any _) | refine allSub_succ' ?_ (Ty.sub_refl _))))
  ·
    refine t_seq ?_
    refine t_seq ?_
    refine t_region ?_
    refine mvI rfl ?_
    refine mvS rfl ?_
    refine r_len rfl rfl rfl ?_
    refine r_bin rfl rfl rfl ?_
    refine r_nil ?_
    refine i_then ?_
    refine t_cond_dec rfl (fun hc1 => ?_) (fun hc1 => ?_)
    ·
      refine t_skip ?_
      refine i_then ?_
      refine t_seq ?_
      refine t_block ?_
      refine t_seq ?_
      refine t_draw mixed rfl ?_
      refine r_load_ppN rfl rfl rfl (by exact Nat.le_of_ble_eq_true rfl) ?_
      refine mvS rfl ?_
      refine mvI rfl ?_
      refine r_index_slN rfl rfl rfl rfl rfl rfl (by omega) ?_
      refine r_field_pp rfl rfl rfl rfl rfl (by decide) ?_
      refine r_load_pp rfl rfl rfl rfl ?_
      refine r_call (c_There f hs _) rfl rfl rfl rfl rfl ?_
      refine r_bin rfl rfl rfl ?_
      refine mvB rfl ?_
      apply r_guard (s := 31) rfl rfl rfl
      · intro hg; apply opT_of; (refine r_load_ppN rfl rfl rfl (by exact Nat.le_of_ble_eq_true rfl) ?_); refine r_nil ?_; exact rfl
      · exact rfl
      · exact rfl
      apply r_guard (s := 31) rfl rfl rfl
      · intro hg; apply opT_of; (refine mvS rfl ?_); refine r_nil ?_; exact rfl
      · exact rfl
      · exact rfl
      apply r_guard (s := 31) rfl rfl rfl
      · intro hg; apply opT_of; (refine mvI rfl ?_); refine r_nil ?_; exact rfl
      · exact rfl
      · exact rfl
      apply r_guard (s := 31) rfl rfl rfl
      · intro hg; apply opT_strip (s := 33) rfl (by (rw [hg]; rfl)); apply opT_strip (s := 34) rfl (by (rw [hg]; rfl)); apply opT_of; (refine r_index_slN rfl rfl rfl rfl rfl rfl (by omega) ?_); refine r_nil ?_; exact rfl
      · exact rfl
      · exact rfl
      apply r_guard (s := 31) rfl rfl rfl
      · intro hg; apply opT_strip (s := 35) rfl (by (rw [hg]; rfl)); apply opT_of; (refine r_field_pp rfl rfl rfl rfl rfl (by decide) ?_); refine r_nil ?_; exact rfl
      · exact rfl
      · exact rfl
      apply r_guard (s := 31) rfl rfl rfl
      · intro hg; apply opT_strip (s := 36) rfl (by (rw [hg]; rfl)); apply opT_of; (refine r_load_pp rfl rfl rfl rfl ?_); refine r_nil ?_; exact rfl
      · exact rfl
      · exact rfl
      apply r_guard (s := 31) rfl rfl rfl
      · intro hg; apply opT_strip (s := 32) rfl (by (rw [hg]; rfl)); apply opT_strip (s := 37) rfl (by (rw [hg]; rfl)); apply opT_of; (refine r_call (c_There f hs _) rfl rfl rfl rfl rfl ?_); refine r_nil ?_; exact rfl
      · exact rfl
      · exact rfl
      apply r_guard (s := 31) rfl rfl rfl
      · intro hg; apply opT_strip (s := 38) rfl (by (rw [hg]; rfl)); apply opT_of; (refine r_bin rfl rfl rfl ?_); refine r_nil ?_; exact rfl
      · exact rfl
      · exact rfl
      refine r_or rfl rfl ?_
      refine r_nil ?_
      refine ⟨by kernel_rfl, ?_⟩
      refine i_then ?_
      refine t_cond rfl (fun hc2 => ?_) (fun hc2 => ?_)
      ·
        refine t_seq ?_
        refine t_region ?_
        refine asI rfl ?_
        refine asI rfl ?_
        refine r_nil ?_
        refine i_then ?_
        refine t_ret ?_
        refine i_block_ret ?_
        refine i_then_ret ?_
        refine i_then_ret ?_
        refine i_block_ret ?_
        refine i_then_ret ?_
        refine i_rp2 rfl rfl rfl ?_ ?_
        all_goals skip
        all_goals (have e : boundsR f b pays = (0, 1) := (by rw [boundsR, if_pos (any_at (q := fun p : Pay => decide (p.src < 0 ∨ p.src ≥ (f.turnings.length : Int)) || decide (p.dst < 0 ∨ p.dst ≥ (f.turnings.length : Int))) (k := k1.1) (by omega) (by have h := hc2; rw [ite_flag, ite_flag] at h; exact h))]); exact ret_eq rfl rfl (congrArg (Ty.int .i64) (by rw [e])))
      ·
        refine t_skip ?_
        refine i_block ?_
        refine i_then ?_
        refine t_region ?_
        refine mvI rfl ?_
        refine r_add rfl rfl (by omega) (by omega) ?_
        refine asI rfl ?_
        refine r_nil ?_
        refine i_round (⟨k1.1 + 1, ext_false k1.2 (by omega) (by have h := hc2; rw [ite_flag, ite_flag] at h; exact h)⟩) ?_ (by show pays.length - (k1.1 + 1) < pays.length - k1.1; omega)
        (refine Ent.mk' ?_ ?_ <;> (repeat' (first | exact allSub_zero | exact allTags_nil | refine allSub_succ' ?_ (Ty.sub_any _) | refine allSub_succ' ?_ (Ty.sub_refl _))))
        all_goals skip
    ·
      refine t_exit ?_
      refine i_then_exit ?_
      refine i_then_exit ?_
      refine i_block_exit rfl ?_
      refine i_then ?_
      refine t_seq ?_
      refine t_seq ?_
      refine t_region ?_
      refine asI rfl ?_
      refine r_nil ?_
      refine i_then ?_
      refine t_block ?_
      refine t_loop (fun (k2 : {k : Nat // ∀ p ∈ pays.take k, decide (p.much < 1) = false}) => live [(1, Ty.int .i64 (b : Nat)), (2, Ty.sl PayE pays), (3, Ty.pp (flrTys f)), (9, Ty.int .i64 (k2.1 : Nat))] []) (fun k2 => pays.length - k2.1) (⟨0, by simp⟩) ?_ fun k2 => ?_
      · (refine Ent.mk' ?_ ?_ <;> (repeat' (first | exact allSub_zero | exact allTags_nil | refine allSub_succ' ?_ (Ty.sub_any _) | refine allSub_succ' ?_ (Ty.sub_refl _))))
      ·
        refine t_seq ?_
        refine t_seq ?_
        refine t_region ?_
        refine mvI rfl ?_
        refine mvS rfl ?_
        refine r_len rfl rfl rfl ?_
        refine r_bin rfl rfl rfl ?_
        refine r_nil ?_
        refine i_then ?_
        refine t_cond_dec rfl (fun hc3 => ?_) (fun hc3 => ?_)
        ·
          refine t_skip ?_
          refine i_then ?_
          refine t_seq ?_
          refine t_block ?_
          refine t_seq ?_
          refine t_region ?_
          refine mvS rfl ?_
          refine mvI rfl ?_
          refine r_index_slN rfl rfl rfl rfl rfl rfl (by omega) ?_
          refine r_field_pp rfl rfl rfl rfl rfl (by decide) ?_
          refine r_load_pp rfl rfl rfl rfl ?_
          refine r_bin rfl rfl rfl ?_
          refine r_nil ?_
          refine i_then ?_
          refine t_cond_dec rfl (fun hc4 => ?_) (fun hc4 => ?_)
          ·
            refine t_seq ?_
            refine t_region ?_
            refine asI rfl ?_
            refine asI rfl ?_
            refine r_nil ?_
            refine i_then ?_
            refine t_ret ?_
            refine i_block_ret ?_
            refine i_then_ret ?_
            refine i_then_ret ?_
            refine i_block_ret ?_
            refine i_then_ret ?_
            refine i_rp2 rfl rfl rfl ?_ ?_
            all_goals skip
            all_goals (have e : boundsR f b pays = (0, 3) := (by rw [boundsR, if_neg (ng (any_neg k1.2 (by omega))), if_pos (any_at (q := fun p : Pay => decide (p.much < 1)) (k := k2.1) (by omega) (decide_eq_true hc4))]); exact ret_eq rfl rfl (congrArg (Ty.int .i64) (by rw [e])))
          ·
            refine t_skip ?_
            refine i_block ?_
            refine i_then ?_
            refine t_region ?_
            refine mvI rfl ?_
            refine r_add rfl rfl (by omega) (by omega) ?_
            refine asI rfl ?_
            refine r_nil ?_
            refine i_round (⟨k2.1 + 1, ext_false k2.2 (by omega) (decide_eq_false hc4)⟩) ?_ (by show pays.length - (k2.1 + 1) < pays.length - k2.1; omega)
            (refine Ent.mk' ?_ ?_ <;> (repeat' (first | exact allSub_zero | exact allTags_nil | refine allSub_succ' ?_ (Ty.sub_any _) | refine allSub_succ' ?_ (Ty.sub_refl _))))
            all_goals skip
        ·
          refine t_exit ?_
          refine i_then_exit ?_
          refine i_then_exit ?_
          refine i_block_exit rfl ?_
          refine i_then ?_
          refine t_seq ?_
          refine t_seq ?_
          refine t_region ?_
          refine asI rfl ?_
          refine r_nil ?_
          refine i_then ?_
          refine t_block ?_
          refine t_loop (fun (k3 : {k : Nat // ∀ p ∈ pays.take k, (!decide (p.dst ∈ aheadM f p.src)) = false}) => live [(1, Ty.int .i64 (b : Nat)), (2, Ty.sl PayE pays), (3, Ty.pp (flrTys f)), (10, Ty.int .i64 (k3.1 : Nat))] []) (fun k3 => pays.length - k3.1) (⟨0, by simp⟩) ?_ fun k3 => ?_
          · (refine Ent.mk' ?_ ?_ <;> (repeat' (first | exact allSub_zero | exact allTags_nil | refine allSub_succ' ?_ (Ty.sub_any _) | refine allSub_succ' ?_ (Ty.sub_refl _))))
          ·
            refine t_seq ?_
            refine t_seq ?_
            refine t_region ?_
            refine mvI rfl ?_
            refine mvS rfl ?_
            refine r_len rfl rfl rfl ?_
            refine r_bin rfl rfl rfl ?_
            refine r_nil ?_
            refine i_then ?_
            refine t_cond_dec rfl (fun hc5 => ?_) (fun hc5 => ?_)
            ·
              refine t_skip ?_
              refine i_then ?_
              refine t_seq ?_
              refine t_block ?_
              refine t_seq ?_
              refine t_draw mixed rfl ?_
              refine r_load_ppN rfl rfl rfl (by exact Nat.le_of_ble_eq_true rfl) ?_
              refine mvS rfl ?_
              refine mvI rfl ?_
              refine r_index_slN rfl rfl rfl rfl rfl rfl (by omega) ?_
              refine r_field_pp rfl rfl rfl rfl rfl (by decide) ?_
              refine r_load_pp rfl rfl rfl rfl ?_
              refine r_call (c_Ahead f hs _) rfl rfl rfl rfl rfl ?_
              refine mvS rfl ?_
              refine mvI rfl ?_
              refine r_index_slN rfl rfl rfl rfl rfl rfl (by omega) ?_
              refine r_field_pp rfl rfl rfl rfl rfl (by decide) ?_
              refine r_load_pp rfl rfl rfl rfl ?_
              refine r_call (c_has _ _) rfl rfl rfl rfl rfl ?_
              refine r_not rfl ?_
              refine r_nil ?_
              refine ⟨by kernel_rfl, ?_⟩
              refine i_then ?_
              refine t_cond_ndec rfl (fun hc6 => ?_) (fun hc6 => ?_)
              ·
                refine t_seq ?_
                refine t_region ?_
                refine asI rfl ?_
                refine asI rfl ?_
                refine r_nil ?_
                refine i_then ?_
                refine t_ret ?_
                refine i_block_ret ?_
                refine i_then_ret ?_
                refine i_then_ret ?_
                refine i_block_ret ?_
                refine i_then_ret ?_
                refine i_rp2 rfl rfl rfl ?_ ?_
                all_goals skip
                all_goals (have e : boundsR f b pays = (0, 4) := (by rw [boundsR, if_neg (ng (any_neg k1.2 (by omega))), if_neg (ng (any_neg k2.2 (by omega))), if_pos (any_at (q := fun p : Pay => !decide (p.dst ∈ aheadM f p.src)) (k := k3.1) (by omega) (by rw [decide_eq_false hc6]; rfl))]); exact ret_eq rfl rfl (congrArg (Ty.int .i64) (by rw [e])))
              ·
                refine t_skip ?_
                refine i_block ?_
                refine i_then ?_
                refine t_region ?_
                refine mvI rfl ?_
                refine r_add rfl rfl (by omega) (by omega) ?_
                refine asI rfl ?_
                refine r_nil ?_
                refine i_round (⟨k3.1 + 1, ext_false k3.2 (by omega) (by rw [decide_eq_true hc6]; rfl)⟩) ?_ (by show pays.length - (k3.1 + 1) < pays.length - k3.1; omega)
                (refine Ent.mk' ?_ ?_ <;> (repeat' (first | exact allSub_zero | exact allTags_nil | refine allSub_succ' ?_ (Ty.sub_any _) | refine allSub_succ' ?_ (Ty.sub_refl _))))
                all_goals skip
            ·
              refine t_exit ?_
              refine i_then_exit ?_
              refine i_then_exit ?_
              refine i_block_exit rfl ?_
              refine i_then ?_
              refine t_seq ?_
              refine t_region ?_
              refine r_load_ppN rfl rfl rfl (by exact Nat.le_of_ble_eq_true rfl) ?_
              refine r_callP [] (c_rLoads f hs hr hn [] hnil (by simp)) rfl (by repeat (first | exact lends_nil | refine lends_cons (lend_pub rfl rfl) ?_ | refine lends_cons lend_nil ?_)) rfl rfl (by intro u hu; cases hu) ?_
              refine r_index_slN (i := 0) rfl rfl rfl rfl rfl rfl (by omega) ?_
              refine r_load_pp rfl rfl rfl rfl ?_
              refine mvI rfl ?_
              refine r_index_slN rfl rfl rfl rfl rfl rfl (by omega) ?_
              refine r_load_pp rfl rfl rfl rfl ?_
              refine asI rfl ?_
              refine r_nil ?_
              refine i_then ?_
              refine t_seq ?_
              refine t_seq ?_
              refine t_region ?_
              refine asI rfl ?_
              refine r_nil ?_
              refine i_then ?_
              refine t_block ?_
              refine t_loop (fun (x : {x : Nat × Int // x.1 ≤ f.turnings.length ∧ boundUp f b pays x.1 = some x.2 ∧ -300000 ≤ x.2 ∧ x.2 ≤ 300000 + 600000 * x.1}) => live [(1, Ty.int .i64 (b : Nat)), (2, Ty.sl PayE pays), (3, Ty.pp (flrTys f)), (11, Ty.int .i64 x.1.2), (12, Ty.int .i64 (x.1.1 : Nat))] []) (fun x => f.turnings.length - x.1.1) (⟨(0, nth (nth (loadsM f []) 0) b), by omega, rfl, by omega, by omega⟩) ?_ fun x => ?_
              · (refine Ent.mk' ?_ ?_ <;> (repeat' (first | exact allSub_zero | exact allTags_nil | refine allSub_succ' ?_ (Ty.sub_any _) | refine allSub_succ' ?_ (Ty.sub_refl _))))
              ·
                obtain ⟨hx1, hx2, hx3, hx4⟩ := x.2
                refine t_seq ?_
                refine t_seq ?_
                refine t_region ?_
                refine mvI rfl ?_
                refine r_field_pp rfl rfl rfl rfl rfl (by decide) ?_
                refine r_load_pp rfl rfl rfl rfl ?_
                refine r_len rfl rfl rfl ?_
                refine r_bin rfl rfl rfl ?_
                refine r_nil ?_
                refine i_then ?_
                refine t_cond_dec rfl (fun hc7 => ?_) (fun hc7 => ?_)
                ·
                  refine t_skip ?_
                  refine i_then ?_
                  refine t_seq ?_
                  refine t_block ?_
                  refine t_seq ?_
                  have hab := add_bound hr (t := x.1.1) (by omega) b
                  refine t_region ?_
                  refine r_load_ppN rfl rfl rfl (by exact Nat.le_of_ble_eq_true rfl) ?_
                  refine mvI rfl ?_
                  refine mvI rfl ?_
                  refine r_call (c_Adds f hs hr hn x.1.1 b (by omega) hb) rfl rfl rfl rfl rfl ?_
                  refine asI rfl ?_
                  refine r_nil ?_
                  refine i_then ?_
                  refine t_join (J := live [(1, Ty.int .i64 (b : Nat)), (2, Ty.sl PayE pays), (3, Ty.pp (flrTys f)), (11, Ty.int .i64 (if addM f x.1.1 b > 0 then x.1.2 + addM f x.1.1 b else x.1.2)), (12, Ty.int .i64 (x.1.1 : Nat)), (13, Ty.int .i64 (addM f x.1.1 b))] []) ?_ ?_
                  ·
                    refine t_seq ?_
                    refine t_region ?_
                    refine mvI rfl ?_
                    refine r_bin rfl rfl rfl ?_
                    refine r_nil ?_
                    refine i_then ?_
                    refine t_cond_dec rfl (fun hc8 => ?_) (fun hc8 => ?_)
                    ·
                      refine t_region ?_
                      refine mvI rfl ?_
                      refine mvI rfl ?_
                      refine r_add rfl rfl (by omega) (by omega) ?_
                      refine asI rfl ?_
                      refine r_nil ?_
                      refine i_join ?_
                      (refine Ent.mk' ?_ ?_ <;> (repeat' (first | exact allSub_zero | exact allTags_nil | refine allSub_succ' ?_ (Ty.sub_any _) | refine allSub_succ' ?_ (Ty.sub_refl _) | refine allSub_succ' ?_ ?_)))
                      exact Ty.sub_int (by rw [if_pos hc8])
                    ·
                      refine t_skip ?_
                      refine i_join ?_
                      (refine Ent.mk' ?_ ?_ <;> (repeat' (first | exact allSub_zero | exact allTags_nil | refine allSub_succ' ?_ (Ty.sub_any _) | refine allSub_succ' ?_ (Ty.sub_refl _) | refine allSub_succ' ?_ ?_)))
                      exact Ty.sub_int (by rw [if_neg hc8])
                  ·
                    refine t_seq ?_
                    refine t_region ?_
                    refine mvI rfl ?_
                    refine r_max rfl rfl ?_
                    refine mvI rfl ?_
                    refine r_neg rfl ?_
                    refine r_max rfl rfl ?_
                    refine asI rfl ?_
                    refine asI rfl ?_
                    refine r_nil ?_
                    refine i_then ?_
                    refine t_seq ?_
                    refine t_region ?_
                    refine asI rfl ?_
                    refine r_nil ?_
                    refine i_then ?_
                    refine t_block ?_
                    refine t_loop (fun (y : {y : Nat × Int × Int × Int // paysS x.1.1 (pays.take y.1) (turn0 f b x.1.1 x.1.2) = some y.2 ∧ (0 ≤ y.2.1 ∧ y.2.1 ≤ 600000) ∧ (0 ≤ y.2.2.1 ∧ y.2.2.1 ≤ 600000) ∧ y.2.2.2 = y.2.1 + x.1.2}) => live [(1, Ty.int .i64 (b : Nat)), (2, Ty.sl PayE pays), (3, Ty.pp (flrTys f)), (11, Ty.int .i64 y.1.2.2.2), (12, Ty.int .i64 (x.1.1 : Nat)), (14, Ty.int .i64 y.1.2.1), (15, Ty.int .i64 y.1.2.2.1), (16, Ty.int .i64 (y.1.1 : Nat))] []) (fun y => pays.length - y.1.1) (⟨(0, turn0 f b x.1.1 x.1.2), by simp [paysS], turn0_ok hab⟩) ?_ fun y => ?_
                    · (refine Ent.mk' ?_ ?_ <;> (repeat' (first | exact allSub_zero | exact allTags_nil | refine allSub_succ' ?_ (Ty.sub_any _) | refine allSub_succ' ?_ (Ty.sub_refl _) | refine allSub_succ' ?_ ?_)))
                      exact Ty.sub_int (by rw [IntWalk.i64_in _ (by omega), Int.zero_sub]; rfl)
                    ·
                      obtain ⟨hy1, hy2, hy3, hy4⟩ := y.2
                      refine t_seq ?_
                      refine t_seq ?_
                      refine t_region ?_
                      refine mvI rfl ?_
                      refine mvS rfl ?_
                      refine r_len rfl rfl rfl ?_
                      refine r_bin rfl rfl rfl ?_
                      refine r_nil ?_
                      refine i_then ?_
                      refine t_cond_dec rfl (fun hc9 => ?_) (fun hc9 => ?_)
                      ·
                        refine t_skip ?_
                        refine i_then ?_
                        refine t_seq ?_
                        refine t_block ?_
                        refine t_seq ?_
                        refine t_seq ?_
                        have hmu : ¬ (nth pays y.1.1).much < 1 := of_decide_eq_false (any_none (any_neg k2.2 (by omega)) (nth_mem (xs := pays) (k := y.1.1) (by omega)))
                        refine t_region ?_
                        refine mvS rfl ?_
                        refine mvI rfl ?_
                        refine r_index_slN rfl rfl rfl rfl rfl rfl (by omega) ?_
                        refine r_field_pp rfl rfl rfl rfl rfl (by decide) ?_
                        refine r_load_pp rfl rfl rfl rfl ?_
                        refine mvI rfl ?_
                        refine r_bin rfl rfl rfl ?_
                        refine r_nil ?_
                        refine i_then ?_
                        refine t_cond_dec rfl (fun hc10 => ?_) (fun hc10 => ?_)
                        ·
                          refine t_seq ?_
                          refine t_seq ?_
                          refine t_region ?_
                          refine mvS rfl ?_
                          refine mvI rfl ?_
                          refine r_index_slN rfl rfl rfl rfl rfl rfl (by omega) ?_
                          refine r_field_pp rfl rfl rfl rfl rfl (by decide) ?_
                          refine r_load_pp rfl rfl rfl rfl ?_
                          refine mvI rfl ?_
                          refine r_bin rfl rfl rfl ?_
                          refine r_nil ?_
                          refine i_then ?_
                          refine t_cond_dec rfl (fun hc11 => ?_) (fun hc11 => ?_)
                          ·
                            refine t_seq ?_
                            refine t_region ?_
                            refine asI rfl ?_
                            refine asI rfl ?_
                            refine r_nil ?_
                            refine i_then ?_
                            refine t_ret ?_
                            refine i_then_ret ?_
                            refine i_then_ret ?_
                            refine i_block_ret ?_
                            refine i_then_ret ?_
                            refine i_then_ret ?_
                            refine i_block_ret ?_
                            refine i_block_ret ?_
                            refine i_then_ret ?_
                            refine i_then_ret ?_
                            refine i_block_ret ?_
                            refine i_then_ret ?_
                            refine i_rp2 rfl rfl rfl ?_ ?_
                            all_goals skip
                            all_goals (have e : boundsR f b pays = (0, 8) := (by rw [boundsR, if_neg (ng (any_neg k1.2 (by omega))), if_neg (ng (any_neg k2.2 (by omega))), if_neg (ng (any_neg k3.2 (by omega))), boundUp_stop (k := x.1.1 + 1) (by omega) (by rw [boundUp_succ hx2, paysS_stop (by omega) hy1 (payS_none1 hc10 hc11)]; rfl)]); exact ret_eq rfl rfl (congrArg (Ty.int .i64) (by rw [e])))
                          ·
                            refine t_skip ?_
                            refine i_then ?_
                            refine t_seq ?_
                            refine t_region ?_
                            refine mvI rfl ?_
                            refine mvS rfl ?_
                            refine mvI rfl ?_
                            refine r_index_slN rfl rfl rfl rfl rfl rfl (by omega) ?_
                            refine r_field_pp rfl rfl rfl rfl rfl (by decide) ?_
                            refine r_load_pp rfl rfl rfl rfl ?_
                            refine r_sub rfl rfl (by omega) (by omega) ?_
                            refine asI rfl ?_
                            refine r_nil ?_
                            refine i_then ?_
                            refine t_region ?_
                            refine mvI rfl ?_
                            refine mvS rfl ?_
                            refine mvI rfl ?_
                            refine r_index_slN rfl rfl rfl rfl rfl rfl (by omega) ?_
                            refine r_field_pp rfl rfl rfl rfl rfl (by decide) ?_
                            refine r_load_pp rfl rfl rfl rfl ?_
                            refine r_sub rfl rfl (by omega) (by omega) ?_
                            refine asI rfl ?_
                            refine r_nil ?_
                            refine i_then ?_
                            refine t_seq ?_
                            refine t_region ?_
                            refine mvS rfl ?_
                            refine mvI rfl ?_
                            refine r_index_slN rfl rfl rfl rfl rfl rfl (by omega) ?_
                            refine r_field_pp rfl rfl rfl rfl rfl (by decide) ?_
                            refine r_load_pp rfl rfl rfl rfl ?_
                            refine mvI rfl ?_
                            refine r_bin rfl rfl rfl ?_
                            refine r_nil ?_
                            refine i_then ?_
                            refine t_cond_dec rfl (fun hc12 => ?_) (fun hc12 => ?_)
                            ·
                              refine t_seq ?_
                              refine t_seq ?_
                              refine t_region ?_
                              refine mvS rfl ?_
                              refine mvI rfl ?_
                              refine r_index_slN rfl rfl rfl rfl rfl rfl (by omega) ?_
                              refine r_field_pp rfl rfl rfl rfl rfl (by decide) ?_
                              refine r_load_pp rfl rfl rfl rfl ?_
                              refine mvI rfl ?_
                              refine r_bin rfl rfl rfl ?_
                              refine r_nil ?_
                              refine i_then ?_
                              refine t_cond_dec rfl (fun hc13 => ?_) (fun hc13 => ?_)
                              ·
                                refine t_seq ?_
                                refine t_region ?_
                                refine asI rfl ?_
                                refine asI rfl ?_
                                refine r_nil ?_
                                refine i_then ?_
                                refine t_ret ?_
                                refine i_then_ret ?_
                                refine i_block_ret ?_
                                refine i_then_ret ?_
                                refine i_then_ret ?_
                                refine i_block_ret ?_
                                refine i_block_ret ?_
                                refine i_then_ret ?_
                                refine i_then_ret ?_
                                refine i_block_ret ?_
                                refine i_then_ret ?_
                                refine i_rp2 rfl rfl rfl ?_ ?_
                                all_goals skip
                                all_goals (have e : boundsR f b pays = (0, 8) := (by rw [boundsR, if_neg (ng (any_neg k1.2 (by omega))), if_neg (ng (any_neg k2.2 (by omega))), if_neg (ng (any_neg k3.2 (by omega))), boundUp_stop (k := x.1.1 + 1) (by omega) (by rw [boundUp_succ hx2, paysS_stop (by omega) hy1 (payS_none2 hc12 hc13)]; rfl)]); exact ret_eq rfl rfl (congrArg (Ty.int .i64) (by rw [e])))
                              ·
                                refine t_skip ?_
                                refine i_then ?_
                                refine t_region ?_
                                refine mvI rfl ?_
                                refine mvS rfl ?_
                                refine mvI rfl ?_
                                refine r_index_slN rfl rfl rfl rfl rfl rfl (by omega) ?_
                                refine r_field_pp rfl rfl rfl rfl rfl (by decide) ?_
                                refine r_load_pp rfl rfl rfl rfl ?_
                                refine r_sub rfl rfl (by omega) (by omega) ?_
                                refine asI rfl ?_
                                refine r_nil ?_
                                refine i_block ?_
                                refine i_then ?_
                                refine t_region ?_
                                refine mvI rfl ?_
                                refine r_add rfl rfl (by omega) (by omega) ?_
                                refine asI rfl ?_
                                refine r_nil ?_
                                refine i_round (⟨(y.1.1 + 1, if (nth pays y.1.1).src = (x.1.1 : Nat) then y.1.2.1 - (nth pays y.1.1).much else y.1.2.1, if (nth pays y.1.1).dst = (x.1.1 : Nat) then y.1.2.2.1 - (nth pays y.1.1).much else y.1.2.2.1, if (nth pays y.1.1).src = (x.1.1 : Nat) then y.1.2.2.2 - (nth pays y.1.1).much else y.1.2.2.2), (by rw [paysS_succ (by omega) hy1]; exact payS_some (by intro h; exact hc11) (by intro h; exact hc13)), (by simp only; split <;> omega), (by simp only; split <;> omega), (by simp only; split <;> omega)⟩) ?_ (by show pays.length - (y.1.1 + 1) < pays.length - y.1.1; omega)
                                (refine Ent.mk' ?_ ?_ <;> (repeat' (first | exact allSub_zero | exact allTags_nil | refine allSub_succ' ?_ (Ty.sub_any _) | refine allSub_succ' ?_ (Ty.sub_refl _) | refine allSub_succ' ?_ ?_)))
                                all_goals skip
                                all_goals (refine Ty.sub_int ?_; dsimp only; first | (rw [if_pos hc10]; done) | (rw [if_pos hc12]; done))
                            ·
                              refine t_skip ?_
                              refine i_block ?_
                              refine i_then ?_
                              refine t_region ?_
                              refine mvI rfl ?_
                              refine r_add rfl rfl (by omega) (by omega) ?_
                              refine asI rfl ?_
                              refine r_nil ?_
                              refine i_round (⟨(y.1.1 + 1, if (nth pays y.1.1).src = (x.1.1 : Nat) then y.1.2.1 - (nth pays y.1.1).much else y.1.2.1, if (nth pays y.1.1).dst = (x.1.1 : Nat) then y.1.2.2.1 - (nth pays y.1.1).much else y.1.2.2.1, if (nth pays y.1.1).src = (x.1.1 : Nat) then y.1.2.2.2 - (nth pays y.1.1).much else y.1.2.2.2), (by rw [paysS_succ (by omega) hy1]; exact payS_some (by intro h; exact hc11) (by intro h; exact absurd h hc12)), (by simp only; split <;> omega), (by simp only; split <;> omega), (by simp only; split <;> omega)⟩) ?_ (by show pays.length - (y.1.1 + 1) < pays.length - y.1.1; omega)
                              (refine Ent.mk' ?_ ?_ <;> (repeat' (first | exact allSub_zero | exact allTags_nil | refine allSub_succ' ?_ (Ty.sub_any _) | refine allSub_succ' ?_ (Ty.sub_refl _) | refine allSub_succ' ?_ ?_)))
                              all_goals skip
                              all_goals (refine Ty.sub_int ?_; dsimp only; first | (rw [if_pos hc10]; done) | (rw [if_neg hc12]; done))
                        ·
                          refine t_skip ?_
                          refine i_then ?_
                          refine t_seq ?_
                          refine t_region ?_
                          refine mvS rfl ?_
                          refine mvI rfl ?_
                          refine r_index_slN rfl rfl rfl rfl rfl rfl (by omega) ?_
                          refine r_field_pp rfl rfl rfl rfl rfl (by decide) ?_
                          refine r_load_pp rfl rfl rfl rfl ?_
                          refine mvI rfl ?_
                          refine r_bin rfl rfl rfl ?_
                          refine r_nil ?_
                          refine i_then ?_
                          refine t_cond_dec rfl (fun hc14 => ?_) (fun hc14 => ?_)
                          ·
                            refine t_seq ?_
                            refine t_seq ?_
                            refine t_region ?_
                            refine mvS rfl ?_
                            refine mvI rfl ?_
                            refine r_index_slN rfl rfl rfl rfl rfl rfl (by omega) ?_
                            refine r_field_pp rfl rfl rfl rfl rfl (by decide) ?_
                            refine r_load_pp rfl rfl rfl rfl ?_
                            refine mvI rfl ?_
                            refine r_bin rfl rfl rfl ?_
                            refine r_nil ?_
                            refine i_then ?_
                            refine t_cond_dec rfl (fun hc15 => ?_) (fun hc15 => ?_)
                            ·
                              refine t_seq ?_
                              refine t_region ?_
                              refine asI rfl ?_
                              refine asI rfl ?_
                              refine r_nil ?_
                              refine i_then ?_
                              refine t_ret ?_
                              refine i_then_ret ?_
                              refine i_block_ret ?_
                              refine i_then_ret ?_
                              refine i_then_ret ?_
                              refine i_block_ret ?_
                              refine i_block_ret ?_
                              refine i_then_ret ?_
                              refine i_then_ret ?_
                              refine i_block_ret ?_
                              refine i_then_ret ?_
                              refine i_rp2 rfl rfl rfl ?_ ?_
                              all_goals skip
                              all_goals (have e : boundsR f b pays = (0, 8) := (by rw [boundsR, if_neg (ng (any_neg k1.2 (by omega))), if_neg (ng (any_neg k2.2 (by omega))), if_neg (ng (any_neg k3.2 (by omega))), boundUp_stop (k := x.1.1 + 1) (by omega) (by rw [boundUp_succ hx2, paysS_stop (by omega) hy1 (payS_none2 hc14 hc15)]; rfl)]); exact ret_eq rfl rfl (congrArg (Ty.int .i64) (by rw [e])))
                            ·
                              refine t_skip ?_
                              refine i_then ?_
                              refine t_region ?_
                              refine mvI rfl ?_
                              refine mvS rfl ?_
                              refine mvI rfl ?_
                              refine r_index_slN rfl rfl rfl rfl rfl rfl (by omega) ?_
                              refine r_field_pp rfl rfl rfl rfl rfl (by decide) ?_
                              refine r_load_pp rfl rfl rfl rfl ?_
                              refine r_sub rfl rfl (by omega) (by omega) ?_
                              refine asI rfl ?_
                              refine r_nil ?_
                              refine i_block ?_
                              refine i_then ?_
                              refine t_region ?_
                              refine mvI rfl ?_
                              refine r_add rfl rfl (by omega) (by omega) ?_
                              refine asI rfl ?_
                              refine r_nil ?_
                              refine i_round (⟨(y.1.1 + 1, if (nth pays y.1.1).src = (x.1.1 : Nat) then y.1.2.1 - (nth pays y.1.1).much else y.1.2.1, if (nth pays y.1.1).dst = (x.1.1 : Nat) then y.1.2.2.1 - (nth pays y.1.1).much else y.1.2.2.1, if (nth pays y.1.1).src = (x.1.1 : Nat) then y.1.2.2.2 - (nth pays y.1.1).much else y.1.2.2.2), (by rw [paysS_succ (by omega) hy1]; exact payS_some (by intro h; exact absurd h hc10) (by intro h; exact hc15)), (by simp only; split <;> omega), (by simp only; split <;> omega), (by simp only; split <;> omega)⟩) ?_ (by show pays.length - (y.1.1 + 1) < pays.length - y.1.1; omega)
                              (refine Ent.mk' ?_ ?_ <;> (repeat' (first | exact allSub_zero | exact allTags_nil | refine allSub_succ' ?_ (Ty.sub_any _) | refine allSub_succ' ?_ (Ty.sub_refl _) | refine allSub_succ' ?_ ?_)))
                              all_goals skip
                              all_goals (refine Ty.sub_int ?_; dsimp only; first | (rw [if_neg hc10]; done) | (rw [if_pos hc14]; done))
                          ·
                            refine t_skip ?_
                            refine i_block ?_
                            refine i_then ?_
                            refine t_region ?_
                            refine mvI rfl ?_
                            refine r_add rfl rfl (by omega) (by omega) ?_
                            refine asI rfl ?_
                            refine r_nil ?_
                            refine i_round (⟨(y.1.1 + 1, if (nth pays y.1.1).src = (x.1.1 : Nat) then y.1.2.1 - (nth pays y.1.1).much else y.1.2.1, if (nth pays y.1.1).dst = (x.1.1 : Nat) then y.1.2.2.1 - (nth pays y.1.1).much else y.1.2.2.1, if (nth pays y.1.1).src = (x.1.1 : Nat) then y.1.2.2.2 - (nth pays y.1.1).much else y.1.2.2.2), (by rw [paysS_succ (by omega) hy1]; exact payS_some (by intro h; exact absurd h hc10) (by intro h; exact absurd h hc14)), (by simp only; split <;> omega), (by simp only; split <;> omega), (by simp only; split <;> omega)⟩) ?_ (by show pays.length - (y.1.1 + 1) < pays.length - y.1.1; omega)
                            (refine Ent.mk' ?_ ?_ <;> (repeat' (first | exact allSub_zero | exact allTags_nil | refine allSub_succ' ?_ (Ty.sub_any _) | refine allSub_succ' ?_ (Ty.sub_refl _) | refine allSub_succ' ?_ ?_)))
                            all_goals skip
                            all_goals (refine Ty.sub_int ?_; dsimp only; first | (rw [if_neg hc10]; done) | (rw [if_neg hc14]; done))
                      ·
                        refine t_exit ?_
                        refine i_then_exit ?_
                        refine i_then_exit ?_
                        refine i_block_exit rfl ?_
                        refine i_block ?_
                        refine i_then ?_
                        refine t_region ?_
                        refine mvI rfl ?_
                        refine r_add rfl rfl (by omega) (by omega) ?_
                        refine asI rfl ?_
                        refine r_nil ?_
                        refine i_round (⟨(x.1.1 + 1, y.1.2.2.2), by have := hx1; omega, by have h := hy1; rw [List.take_of_length_le (by omega)] at h; rw [boundUp_succ hx2, h]; rfl, by omega, by omega⟩) ?_ (by show f.turnings.length - (x.1.1 + 1) < f.turnings.length - x.1.1; omega)
                        (refine Ent.mk' ?_ ?_ <;> (repeat' (first | exact allSub_zero | exact allTags_nil | refine allSub_succ' ?_ (Ty.sub_any _) | refine allSub_succ' ?_ (Ty.sub_refl _))))
                        all_goals skip
                ·
                  refine t_exit ?_
                  refine i_then_exit ?_
                  refine i_then_exit ?_
                  refine i_block_exit rfl ?_
                  refine i_then ?_
                  refine t_seq ?_
                  refine t_region ?_
                  refine mvI rfl ?_
                  refine asI rfl ?_
                  refine asI rfl ?_
                  refine r_nil ?_
                  refine i_then ?_
                  refine t_ret ?_
                  refine i_rp2 rfl rfl rfl ?_ ?_
                  all_goals skip
                  all_goals (have h := hx2; rw [show x.1.1 = f.turnings.length by omega] at h; have e : boundsR f b pays = (x.1.2, 0) := (by rw [boundsR, if_neg (ng (any_neg k1.2 (by omega))), if_neg (ng (any_neg k2.2 (by omega))), if_neg (ng (any_neg k3.2 (by omega))), h]); exact ret_eq rfl rfl (congrArg (Ty.int .i64) (by rw [e])))
end Go.Proofs.YtifgbnbkimcchaaGreat

namespace Go.T
open Go Go.RowKit
def andNotN (a b : Nat) : Nat := (BitVec.ofNat 64 a &&& ~~~BitVec.ofNat 64 b).toNat
theorem wrap_nat {n : Nat} (h : n < 9223372036854775808) : IntKind.i64.wrap (n : Int) = n := IntWalk.i64_in _ (by omega)
theorem bits_and {a b : Nat} (ha : a < 9223372036854775808) (hb : b < 9223372036854775808) : bits .and .i64 a b = ((a &&& b : Nat) : Int) := by
  have h : (BitVec.ofInt 64 (a : Int) &&& BitVec.ofInt 64 (b : Int)).toNat = a &&& b := by
    rw [BitVec.ofInt_natCast, BitVec.ofInt_natCast, BitVec.toNat_and, BitVec.toNat_ofNat, BitVec.toNat_ofNat, Nat.mod_eq_of_lt (by omega), Nat.mod_eq_of_lt (by omega)]
  show IntKind.i64.wrap (((BitVec.ofInt 64 (a : Int) &&& BitVec.ofInt 64 (b : Int)).toNat : Nat) : Int) = _
  rw [h, wrap_nat (Nat.lt_of_le_of_lt Nat.and_le_left ha)]
theorem bits_or {a b : Nat} (ha : a < 9223372036854775808) (hb : b < 9223372036854775808) : bits .or .i64 a b = ((a ||| b : Nat) : Int) := by
  have h : (BitVec.ofInt 64 (a : Int) ||| BitVec.ofInt 64 (b : Int)).toNat = a ||| b := by
    rw [BitVec.ofInt_natCast, BitVec.ofInt_natCast, BitVec.toNat_or, BitVec.toNat_ofNat, BitVec.toNat_ofNat, Nat.mod_eq_of_lt (by omega), Nat.mod_eq_of_lt (by omega)]
  show IntKind.i64.wrap (((BitVec.ofInt 64 (a : Int) ||| BitVec.ofInt 64 (b : Int)).toNat : Nat) : Int) = _
  rw [h, wrap_nat (show a ||| b < 2 ^ 63 from Nat.or_lt_two_pow (by omega) (by omega))]
theorem andNot_le (a b : Nat) (ha : a < 9223372036854775808) : andNotN a b ≤ a := by
  unfold andNotN
  rw [BitVec.toNat_and, BitVec.toNat_ofNat, Nat.mod_eq_of_lt (by omega)]
  exact Nat.and_le_left
theorem bits_andNot {a b : Nat} (ha : a < 9223372036854775808) : bits .andNot .i64 a b = ((andNotN a b : Nat) : Int) := by
  show IntKind.i64.wrap (((BitVec.ofInt 64 (a : Int) &&& ~~~BitVec.ofInt 64 (b : Int)).toNat : Nat) : Int) = _
  rw [BitVec.ofInt_natCast, BitVec.ofInt_natCast]
  exact wrap_nat (Nat.lt_of_le_of_lt (andNot_le a b ha) ha)
theorem andNot_zero {a b : Nat} (ha : a < 9223372036854775808) (hb : b < 9223372036854775808) : andNotN a b = 0 ↔ ∀ i, a.testBit i = true → b.testBit i = true := by
  have key : ∀ i, (andNotN a b).testBit i = (a.testBit i && !b.testBit i) := fun i => by
    unfold andNotN
    rw [← BitVec.getLsbD, BitVec.getLsbD_and, BitVec.getLsbD_not, BitVec.getLsbD_ofNat, BitVec.getLsbD_ofNat]
    by_cases hi : i < 64
    · simp [hi]
    · have : a.testBit i = false := Nat.testBit_lt_two_pow (Nat.lt_of_lt_of_le ha (Nat.le_trans (by decide : 9223372036854775808 ≤ 2 ^ 64) (Nat.pow_le_pow_right (by omega) (by omega))))
      simp [hi, this]
  constructor
  · intro h i hi
    have := key i
    rw [h, hi] at this
    simp at this; exact this
  · intro h
    refine Nat.eq_of_testBit_eq fun i => ?_
    rw [key]
    cases hi : a.testBit i with
    | false => simp
    | true => simp [h i hi]
theorem one_shl {i : Nat} (h : i ≤ 62) : 1 <<< i < 9223372036854775808 := by
  rw [Nat.shiftLeft_eq, Nat.one_mul]
  exact Nat.pow_lt_pow_right (by omega) (show i < 63 by omega)
section
variable {P : Program} {fr : Fr} {ops : Array Oper} {A : As} {rest : List Oper} {K : As → List (As × Fx) → Prop} {d : Nat} {t ty' ty2 : TypeId} {p : String} {e : Array Edge} {x y : Operand}
theorem r_andN {a b : Nat} (hx : A.op fr x = .int .i64 (a : Nat)) (hy : A.op fr y = .int .i64 (b : Nat)) (h1 : a < 9223372036854775808) (h2 : b < 9223372036854775808)
    (h : TOps P fr ops rest (A.set d (.int .i64 ((a &&& b : Nat) : Int))) fun A' l' => K A' ((A, { d := some d, ty := .int .i64 ((a &&& b : Nat) : Int), rs := opR x ++ opR y }) :: l')) : TOps P fr ops (⟨some d, .binOp .and ty' x y ty2, t, p, e, none⟩ :: rest) A K :=
  r_bin (op := .and) hx hy (ty := .int .i64 ((a &&& b : Nat) : Int)) (by show some _ = some _; rw [bits_and h1 h2]) h
theorem r_orN {a b : Nat} (hx : A.op fr x = .int .i64 (a : Nat)) (hy : A.op fr y = .int .i64 (b : Nat)) (h1 : a < 9223372036854775808) (h2 : b < 9223372036854775808)
    (h : TOps P fr ops rest (A.set d (.int .i64 ((a ||| b : Nat) : Int))) fun A' l' => K A' ((A, { d := some d, ty := .int .i64 ((a ||| b : Nat) : Int), rs := opR x ++ opR y }) :: l')) : TOps P fr ops (⟨some d, .binOp .or ty' x y ty2, t, p, e, none⟩ :: rest) A K :=
  r_bin (op := .or) hx hy (ty := .int .i64 ((a ||| b : Nat) : Int)) (by show some _ = some _; rw [bits_or h1 h2]) h
theorem r_andNotN {a b : Nat} (hx : A.op fr x = .int .i64 (a : Nat)) (hy : A.op fr y = .int .i64 (b : Nat)) (h1 : a < 9223372036854775808)
    (h : TOps P fr ops rest (A.set d (.int .i64 ((andNotN a b : Nat) : Int))) fun A' l' => K A' ((A, { d := some d, ty := .int .i64 ((andNotN a b : Nat) : Int), rs := opR x ++ opR y }) :: l')) : TOps P fr ops (⟨some d, .binOp .andNot ty' x y ty2, t, p, e, none⟩ :: rest) A K :=
  r_bin (op := .andNot) hx hy (ty := .int .i64 ((andNotN a b : Nat) : Int)) (by show some _ = some _; rw [bits_andNot h1]) h
theorem r_shrN {a b : Nat} (hx : A.op fr x = .int .i64 (a : Nat)) (hy : A.op fr y = .int .i64 (b : Nat)) (h1 : b ≤ 63)
    (h : TOps P fr ops rest (A.set d (.int .i64 ((a >>> b : Nat) : Int))) fun A' l' => K A' ((A, { d := some d, ty := .int .i64 ((a >>> b : Nat) : Int), rs := opR x ++ opR y }) :: l')) : TOps P fr ops (⟨some d, .binOp .shr ty' x y ty2, t, p, e, none⟩ :: rest) A K := by
  have e : ((a : Int) / 2 ^ (b : Int).toNat) = ((a >>> b : Nat) : Int) := by rw [Nat.shiftRight_eq_div_pow]; simp
  refine r_shr hx hy (Int.natCast_nonneg _) (by show (b : Int) ≤ ((64 : Nat) : Int); omega) ?_
  rw [e]; exact h
theorem r_shlN {a b : Nat} (hx : A.op fr x = .int .i64 (a : Nat)) (hy : A.op fr y = .int .i64 (b : Nat)) (h1 : b ≤ 63) (h2 : a <<< b < 9223372036854775808)
    (h : TOps P fr ops rest (A.set d (.int .i64 ((a <<< b : Nat) : Int))) fun A' l' => K A' ((A, { d := some d, ty := .int .i64 ((a <<< b : Nat) : Int), rs := opR x ++ opR y }) :: l')) : TOps P fr ops (⟨some d, .binOp .shl ty' x y ty2, t, p, e, none⟩ :: rest) A K := by
  have e : IntKind.i64.wrap ((a : Int) * 2 ^ (b : Int).toNat) = ((a <<< b : Nat) : Int) := by
    have : ((a : Int) * 2 ^ (b : Int).toNat) = ((a <<< b : Nat) : Int) := by rw [Nat.shiftLeft_eq]; simp
    rw [this, wrap_nat h2]
  refine r_shl hx hy (Int.natCast_nonneg _) (by show (b : Int) ≤ ((64 : Nat) : Int); omega) ?_
  rw [e]; exact h
end
end Go.T

namespace Go.Proofs.YtifgbnbkimcchaaGreat
open Go.T
def bitsUp (s k : Nat) : List Int := ((List.range k).filter fun i => s.testBit i).map fun (i : Nat) => (i : Int)
def membersM (s : Nat) : List Int := bitsUp s 8
theorem bitsUp_succ (s k : Nat) : bitsUp s (k + 1) = bitsUp s k ++ if s.testBit k = true then [(k : Int)] else [] := by
  unfold bitsUp
  rw [List.range_succ, List.filter_append, List.map_append]
  congr 1
  by_cases h : s.testBit k = true
  · simp [h]
  · simp [h]
theorem shift_bit (s i : Nat) : ((s >>> i) &&& 1 = 1) ↔ s.testBit i = true := by
  rw [Nat.testBit, Nat.and_comm]
  have : (1 &&& s >>> i) = s >>> i % 2 := by rw [Nat.and_comm]; exact Nat.and_one_is_mod _
  rw [this]
  have := Nat.mod_two_eq_zero_or_one (s >>> i)
  constructor
  · intro h; rw [h]; rfl
  · intro h
    rcases this with h0 | h1
    · rw [h0] at h; cases h
    · exact h1
theorem bits_end {s i : Nat} (h : s >>> i = 0) : ∀ j, i ≤ j → s.testBit j = false := by
  intro j hj
  have : s.testBit j = (s >>> i).testBit (j - i) := by rw [Nat.testBit_shiftRight]; congr 1; omega
  rw [this, h, Nat.zero_testBit]
theorem bitsUp_end {s i : Nat} (h : s >>> i = 0) : ∀ k, i ≤ k → bitsUp s k = bitsUp s i := by
  intro k hk
  induction k with
  | zero => rw [show i = 0 by omega]
  | succ k ih =>
    rcases Nat.lt_or_ge k i with h1 | h1
    · rw [show k + 1 = i by omega]
    · rw [bitsUp_succ, ih h1, if_neg (by rw [bits_end h k h1]; decide), List.append_nil]
theorem shift8 {s i : Nat} (hs : s < 256) (h : s >>> i > 0) : i < 8 := by
  rcases Nat.lt_or_ge i 8 with h1 | h1
  · exact h1
  · exfalso
    have : s >>> i = 0 := by
      rw [Nat.shiftRight_eq_div_pow]
      exact Nat.div_eq_of_lt (Nat.lt_of_lt_of_le hs (Nat.le_trans (by decide : 256 ≤ 2 ^ 8) (Nat.pow_le_pow_right (by omega) h1)))
    omega
theorem bitsUp_len (s k : Nat) : (bitsUp s k).length ≤ k := by
  have := List.length_filter_le (fun i => s.testBit i) (List.range k)
  simpa [bitsUp] using this
def leastM (n : Int) (l : List Int) : Int := l.foldl min n
def inB (n lo hi : Int) : Bool := decide (n ≥ lo) && decide (n ≤ hi)
end Go.Proofs.YtifgbnbkimcchaaGreat

namespace Go.Proofs.YtifgbnbkimcchaaGreat
open Go Go.T
attribute [local irreducible] dInt dBool dSl dPp dPtr dAgg dTup dClo dAny dEx dStr dGd dCells dVec dVs dRow dOp nth Tri Into TOps Ctr bodyPost Exit.then Exit.inBlock Code.wp Code.wpIn
set_option maxRecDepth 100000 in
theorem c_in (n lo hi : Int) : Ctr Tryz.prog 101 [Ty.int .i64 n, Ty.int .i64 lo, Ty.int .i64 hi] (Ty.bool (inB n lo hi)) := by
  refine fn_intro Tryz.func101 rfl (by decide) Tryz.ntmps101 (by exact Nat.le_of_ble_eq_true rfl) fun w0 M0 => ?_
  refine t_seq ?_
  refine t_region ?_
  refine asB rfl ?_
  refine r_nil ?_
  refine i_then ?_
  refine t_seq ?_
  refine t_region ?_
  refine mvI rfl ?_
  refine mvI rfl ?_
  refine r_bin rfl rfl rfl ?_
  refine mvB rfl ?_
  apply r_guard (s := 10) rfl rfl rfl
  · intro hg; apply opT_of; (refine mvI rfl ?_); refine r_nil ?_; exact rfl
  · exact rfl
  · exact rfl
  apply r_guard (s := 10) rfl rfl rfl
  · intro hg; apply opT_of; (refine mvI rfl ?_); refine r_nil ?_; exact rfl
  · exact rfl
  · exact rfl
  apply r_guard (s := 10) rfl rfl rfl
  · intro hg; apply opT_strip (s := 11) rfl (by (rw [hg]; rfl)); apply opT_strip (s := 12) rfl (by (rw [hg]; rfl)); apply opT_of; (refine r_bin rfl rfl rfl ?_); refine r_nil ?_; exact rfl
  · exact rfl
  · exact rfl
  refine r_and rfl rfl ?_
  refine asB rfl ?_
  refine r_nil ?_
  refine i_then ?_
  refine t_ret ?_
  refine i_rp1 rfl rfl ?_
  all_goals exact ret_refl rfl rfl
set_option maxRecDepth 100000 in
theorem c_sum (l : List Int) (hl : l.length ≤ 100) (hb : ∀ n ∈ l, 0 ≤ n ∧ n ≤ 4000) : Ctr Tryz.prog 137 [Ty.sl I64 l] (Ty.int .i64 l.sum) := by
  refine fn_intro Tryz.func137 rfl (by decide) Tryz.ntmps137 (by exact Nat.le_of_ble_eq_true rfl) fun w0 M0 => ?_
  refine t_seq ?_
  refine t_region ?_
  refine asI rfl ?_
  refine r_nil ?_
  refine i_then ?_
  refine t_seq ?_
  refine t_region ?_
  refine asI rfl ?_
  refine r_nil ?_
  refine i_then ?_
  refine t_seq ?_
  refine t_seq ?_
  refine t_region ?_
  refine mvS rfl ?_
  refine r_len rfl rfl rfl ?_
  refine mvI rfl ?_
  refine r_nil ?_
  refine i_then ?_
  refine t_block ?_
  refine t_loop (fun (k : Nat) => live [(3, Ty.int .i64 (l.take k).sum), (6, Ty.sl I64 l), (7, Ty.int .i64 l.length), (8, Ty.int .i64 k)] []) (fun k => l.length - k) (0) ?_ fun k => ?_
  · (refine Ent.mk' ?_ ?_ <;> (repeat' (first | exact allSub_zero | exact allTags_nil | refine allSub_succ' ?_ (Ty.sub_any _) | refine allSub_succ' ?_ (Ty.sub_refl _))))
  ·
    have hsb := take_bound hb k
    rw [List.length_take] at hsb
    refine t_seq ?_
    refine t_region ?_
    refine r_bin rfl rfl rfl ?_
    refine r_nil ?_
    refine i_then ?_
    refine t_seq ?_
    refine t_cond_dec rfl (fun hc1 => ?_) (fun hc1 => ?_)
    ·
      refine t_skip ?_
      refine i_then ?_
      refine t_seq ?_
      refine t_block ?_
      refine t_seq ?_
      have hx := hb _ (nth_mem (xs := l) (k := k) (by omega))
      refine t_region ?_
      refine r_index_slN rfl rfl rfl rfl rfl rfl (by omega) ?_
      refine r_load_pp rfl rfl rfl rfl ?_
      refine asI rfl ?_
      refine r_nil ?_
      refine i_then ?_
      refine t_region ?_
      refine mvI rfl ?_
      refine mvI rfl ?_
      refine r_add rfl rfl (by omega) (by omega) ?_
      refine asI rfl ?_
      refine r_nil ?_
      refine i_block ?_
      refine i_then ?_
      refine t_region ?_
      refine r_add rfl rfl (by omega) (by omega) ?_
      refine mvI rfl ?_
      refine r_nil ?_
      refine i_round (k + 1) ?_ (by omega)
      (refine Ent.mk' ?_ ?_ <;> (repeat' (first | exact allSub_zero | exact allTags_nil | refine allSub_succ' ?_ (Ty.sub_any _) | refine allSub_succ' ?_ (Ty.sub_refl _) | refine allSub_succ' ?_ ?_)))
      all_goals skip
      exact Ty.sub_int (by rw [take_nth (by omega), List.sum_append]; simp)
    ·
      refine t_exit ?_
      refine i_then_exit ?_
      refine i_then_exit ?_
      refine i_block_exit rfl ?_
      refine i_then ?_
      refine t_seq ?_
      refine t_region ?_
      refine mvI rfl ?_
      refine asI rfl ?_
      refine r_nil ?_
      refine i_then ?_
      refine t_ret ?_
      refine i_rp1 rfl rfl ?_
      all_goals skip
      exact ret_eq rfl rfl (congrArg (Ty.int .i64) (by rw [List.take_of_length_le (by omega)]))
set_option maxRecDepth 100000 in
theorem c_least (n : Int) (l : List Int) : Ctr Tryz.prog 79 [Ty.int .i64 n, Ty.sl I64 l] (Ty.int .i64 (leastM n l)) := by
  refine fn_intro Tryz.func79 rfl (by decide) Tryz.ntmps79 (by exact Nat.le_of_ble_eq_true rfl) fun w0 M0 => ?_
  refine t_fact (s := 1) rfl rfl sl_len fun hl => ?_
  refine t_seq ?_
  refine t_region ?_
  refine asI rfl ?_
  refine r_nil ?_
  refine i_then ?_
  refine t_seq ?_
  refine t_seq ?_
  refine t_region ?_
  refine mvS rfl ?_
  refine r_len rfl rfl rfl ?_
  refine mvI rfl ?_
  refine r_nil ?_
  refine i_then ?_
  refine t_block ?_
  refine t_loop (fun (k : Nat) => live [(0, Ty.int .i64 (leastM n (l.take k))), (7, Ty.sl I64 l), (8, Ty.int .i64 l.length), (9, Ty.int .i64 k)] []) (fun k => l.length - k) (0) ?_ fun k => ?_
  · (refine Ent.mk' ?_ ?_ <;> (repeat' (first | exact allSub_zero | exact allTags_nil | refine allSub_succ' ?_ (Ty.sub_any _) | refine allSub_succ' ?_ (Ty.sub_refl _))))
  ·
    refine t_seq ?_
    refine t_region ?_
    refine r_bin rfl rfl rfl ?_
    refine r_nil ?_
    refine i_then ?_
    refine t_seq ?_
    refine t_cond_dec rfl (fun hc1 => ?_) (fun hc1 => ?_)
    ·
      refine t_skip ?_
      refine i_then ?_
      refine t_seq ?_
      refine t_block ?_
      refine t_seq ?_
      refine t_region ?_
      refine r_index_slN rfl rfl rfl rfl rfl rfl (by omega) ?_
      refine r_load_pp rfl rfl rfl rfl ?_
      refine asI rfl ?_
      refine r_nil ?_
      refine i_then ?_
      refine t_region ?_
      refine mvI rfl ?_
      refine mvI rfl ?_
      refine r_min rfl rfl ?_
      refine asI rfl ?_
      refine r_nil ?_
      refine i_block ?_
      refine i_then ?_
      refine t_region ?_
      refine r_add rfl rfl (by omega) (by omega) ?_
      refine mvI rfl ?_
      refine r_nil ?_
      refine i_round (k + 1) ?_ (by omega)
      (refine Ent.mk' ?_ ?_ <;> (repeat' (first | exact allSub_zero | exact allTags_nil | refine allSub_succ' ?_ (Ty.sub_any _) | refine allSub_succ' ?_ (Ty.sub_refl _) | refine allSub_succ' ?_ ?_)))
      all_goals skip
      exact Ty.sub_int (by simp only [leastM]; rw [take_nth (by omega), List.foldl_append]; rfl)
    ·
      refine t_exit ?_
      refine i_then_exit ?_
      refine i_then_exit ?_
      refine i_block_exit rfl ?_
      refine i_then ?_
      refine t_seq ?_
      refine t_region ?_
      refine mvI rfl ?_
      refine asI rfl ?_
      refine r_nil ?_
      refine i_then ?_
      refine t_ret ?_
      refine i_rp1 rfl rfl ?_
      all_goals skip
      exact ret_eq rfl rfl (congrArg (Ty.int .i64) (by rw [List.take_of_length_le (by omega)]))
set_option maxRecDepth 100000 in
theorem c_members (s : Nat) (hs : s < 256) : Ctr Tryz.prog 61 [Ty.int .i64 (s : Nat)] (Ty.sl I64 (membersM s)) := by
  refine fn_intro Tryz.func61 rfl (by decide) Tryz.ntmps61 (by exact Nat.le_of_ble_eq_true rfl) fun w0 M0 => ?_
  refine t_seq ?_
  refine t_region ?_
  refine asX rfl ?_
  refine r_nil ?_
  refine i_then ?_
  refine t_seq ?_
  refine t_region ?_
  refine asX rfl ?_
  refine r_nil ?_
  refine i_then ?_
  refine t_seq ?_
  refine t_seq ?_
  refine t_region ?_
  refine asI rfl ?_
  refine r_nil ?_
  refine i_then ?_
  refine t_block ?_
  refine t_loop (fun (i : {i : Nat // i ≤ 8}) => live [(0, Ty.int .i64 (s : Nat)), (3, Ty.row I64 3 20 (bitsUp s i.1)), (4, Ty.int .i64 (i.1 : Nat))] []) (fun i => 8 - i.1) (⟨0, by omega⟩) ?_ fun i => ?_
  · (refine Ent.mk' ?_ ?_ <;> (repeat' (first | exact allSub_zero | exact allTags_nil | refine allSub_succ' ?_ (Ty.sub_any _) | refine allSub_succ' ?_ (Ty.sub_refl _) | refine allSub_succ' ?_ Ty.nil_row)))
  ·
    have hbl := bitsUp_len s i.1
    have hsi : s >>> i.1 ≤ s := Nat.shiftRight_le s i.1
    refine t_seq ?_
    refine t_seq ?_
    refine t_region ?_
    refine mvI rfl ?_
    refine mvI rfl ?_
    refine r_shrN rfl rfl (by omega) ?_
    refine r_bin rfl rfl rfl ?_
    refine r_nil ?_
    refine i_then ?_
    refine t_cond_dec rfl (fun hc1 => ?_) (fun hc1 => ?_)
    ·
      refine t_skip ?_
      refine i_then ?_
      refine t_seq ?_
      refine t_block ?_
      refine t_seq ?_
      refine t_region ?_
      refine mvI rfl ?_
      refine mvI rfl ?_
      refine r_shrN rfl rfl (by omega) ?_
      refine r_andN (b := 1) rfl rfl (by omega) (by omega) ?_
      refine r_bin rfl rfl rfl ?_
      refine r_nil ?_
      refine i_then ?_
      refine t_cond_dec rfl (fun hc2 => ?_) (fun hc2 => ?_)
      ·
        refine t_region ?_
        refine mvR rfl ?_
        refine mvI rfl ?_
        refine r_buildSlice (E := I64) (xs := [_]) rfl rfl rfl rfl rfl (by decide) (by decide) (by repeat (first | exact (Parts.nil : Parts _ _ [] _) | (show Parts _ _ ((_, _) :: _) _; apply Parts.one; (· exact (rfl : _ = Ty.int _ _)); (· exact rfl)))) (by exact rfl) rfl ?_
        refine r_append rfl rfl (by decide) rfl rfl rfl rfl rfl rfl (by decide) (by (simp <;> omega)) (by (simp <;> omega)) ?_
        refine asR rfl ?_
        refine r_nil ?_
        refine i_block ?_
        refine i_then ?_
        refine t_region ?_
        refine mvI rfl ?_
        refine r_add rfl rfl (by omega) (by omega) ?_
        refine asI rfl ?_
        refine r_nil ?_
        refine i_round (⟨i.1 + 1, by have := shift8 (i := i.1) hs (Int.natCast_pos.1 hc1); omega⟩) ?_ (by show 8 - (i.1 + 1) < 8 - i.1; have := shift8 (i := i.1) hs (Int.natCast_pos.1 hc1); omega)
        (refine Ent.mk' ?_ ?_ <;> (repeat' (first | exact allSub_zero | exact allTags_nil | refine allSub_succ' ?_ (Ty.sub_any _) | refine allSub_succ' ?_ (Ty.sub_refl _) | refine allSub_succ' ?_ ?_)))
        all_goals skip
        refine Ty.sub_row ?_; rw [bitsUp_succ]; (rw [if_pos ((shift_bit s i.1).1 (by exact_mod_cast hc2))]; done)
      ·
        refine t_skip ?_
        refine i_block ?_
        refine i_then ?_
        refine t_region ?_
        refine mvI rfl ?_
        refine r_add rfl rfl (by omega) (by omega) ?_
        refine asI rfl ?_
        refine r_nil ?_
        refine i_round (⟨i.1 + 1, by have := shift8 (i := i.1) hs (Int.natCast_pos.1 hc1); omega⟩) ?_ (by show 8 - (i.1 + 1) < 8 - i.1; have := shift8 (i := i.1) hs (Int.natCast_pos.1 hc1); omega)
        (refine Ent.mk' ?_ ?_ <;> (repeat' (first | exact allSub_zero | exact allTags_nil | refine allSub_succ' ?_ (Ty.sub_any _) | refine allSub_succ' ?_ (Ty.sub_refl _) | refine allSub_succ' ?_ ?_)))
        all_goals skip
        refine Ty.sub_row ?_; rw [bitsUp_succ]; (rw [if_neg (fun h => hc2 (by exact_mod_cast (shift_bit s i.1).2 h)), List.append_nil]; done)
    ·
      refine t_exit ?_
      refine i_then_exit ?_
      refine i_then_exit ?_
      refine i_block_exit rfl ?_
      refine i_then ?_
      refine t_seq ?_
      refine t_region ?_
      refine mvR rfl ?_
      refine asR rfl ?_
      refine r_nil ?_
      refine i_then ?_
      refine t_ret ?_
      refine i_rp1 rfl rfl ?_
      all_goals skip
      exact ret_row_eq (by decide) (bitsUp_end (Nat.eq_zero_of_not_pos fun h => hc1 (Int.natCast_pos.2 h)) 8 i.2).symm
set_option maxRecDepth 100000 in
theorem c_turning (f : Flr) (hs : f.Small) (t : Int) : Ctr Tryz.prog 91 [flrT f, Ty.int .i64 t] (Ty.bool (inB t 0 (f.turnings.length - 1))) := by
  refine fn_intro Tryz.func91 rfl (by decide) Tryz.ntmps91 (by exact Nat.le_of_ble_eq_true rfl) fun w0 M0 => ?_
  have hs1 := hs.bears; have hs2 := hs.bins; have hs3 := hs.turnings; have hs4 := hs.rules
  refine t_seq ?_
  refine t_region ?_
  refine r_box_agg rfl ?_
  refine asB rfl ?_
  refine r_nil ?_
  refine i_then ?_
  refine t_seq ?_
  refine t_region ?_
  refine mvI rfl ?_
  refine r_field_pp rfl rfl rfl rfl rfl (by decide) ?_
  refine r_load_pp rfl rfl rfl rfl ?_
  refine r_len rfl rfl rfl ?_
  refine r_sub rfl rfl (by omega) (by omega) ?_
  refine r_call (c_in _ _ _) rfl rfl rfl rfl rfl ?_
  refine asB rfl ?_
  refine r_nil ?_
  refine i_then ?_
  refine t_ret ?_
  refine i_rp1 rfl rfl ?_
  all_goals exact ret_refl rfl rfl
set_option maxRecDepth 100000 in
theorem c_bay (f : Flr) (hs : f.Small) (t : Int) : Ctr Tryz.prog 59 [flrT f, Ty.int .i64 t] (Ty.bool (inB t 0 (f.bears.length - 1))) := by
  refine fn_intro Tryz.func59 rfl (by decide) Tryz.ntmps59 (by exact Nat.le_of_ble_eq_true rfl) fun w0 M0 => ?_
  have hs1 := hs.bears; have hs2 := hs.bins; have hs3 := hs.turnings; have hs4 := hs.rules
  refine t_seq ?_
  refine t_region ?_
  refine r_box_agg rfl ?_
  refine asB rfl ?_
  refine r_nil ?_
  refine i_then ?_
  refine t_seq ?_
  refine t_region ?_
  refine mvI rfl ?_
  refine r_field_pp rfl rfl rfl rfl rfl (by decide) ?_
  refine r_load_pp rfl rfl rfl rfl ?_
  refine r_len rfl rfl rfl ?_
  refine r_sub rfl rfl (by omega) (by omega) ?_
  refine r_call (c_in _ _ _) rfl rfl rfl rfl rfl ?_
  refine asB rfl ?_
  refine r_nil ?_
  refine i_then ?_
  refine t_ret ?_
  refine i_rp1 rfl rfl ?_
  all_goals exact ret_refl rfl rfl
set_option maxRecDepth 100000 in
theorem c_named (f : Flr) (hs : f.Small) (t : Int) : Ctr Tryz.prog 132 [flrT f, Ty.int .i64 t] (Ty.bool (inB t (-1) (f.bins.length - 1))) := by
  refine fn_intro Tryz.func132 rfl (by decide) Tryz.ntmps132 (by exact Nat.le_of_ble_eq_true rfl) fun w0 M0 => ?_
  have hs1 := hs.bears; have hs2 := hs.bins; have hs3 := hs.turnings; have hs4 := hs.rules
  refine t_seq ?_
  refine t_region ?_
  refine r_box_agg rfl ?_
  refine asB rfl ?_
  refine r_nil ?_
  refine i_then ?_
  refine t_seq ?_
  refine t_region ?_
  refine mvI rfl ?_
  refine r_field_pp rfl rfl rfl rfl rfl (by decide) ?_
  refine r_load_pp rfl rfl rfl rfl ?_
  refine r_len rfl rfl rfl ?_
  refine r_sub rfl rfl (by omega) (by omega) ?_
  refine r_call (c_in _ _ _) rfl rfl rfl rfl rfl ?_
  refine asB rfl ?_
  refine r_nil ?_
  refine i_then ?_
  refine t_ret ?_
  refine i_rp1 rfl rfl ?_
  all_goals exact ret_refl rfl rfl
set_option maxRecDepth 100000 in
theorem c_taken (f : Flr) (hs : f.Small) (hr : f.Ranged) (i : Int) : Ctr Tryz.prog 138 [flrT f, Ty.int .i64 i] (Ty.int .i64 (takenM f f.turnings i)) := by
  refine fn_intro Tryz.func138 rfl (by decide) Tryz.ntmps138 (by exact Nat.le_of_ble_eq_true rfl) fun w0 M0 => ?_
  have hs1 := hs.bears; have hs2 := hs.bins; have hs3 := hs.turnings; have hs4 := hs.rules
  refine t_seq ?_
  refine t_region ?_
  refine r_box_agg rfl ?_
  refine asI rfl ?_
  refine r_nil ?_
  refine i_then ?_
  refine t_seq ?_
  refine t_region ?_
  refine asI rfl ?_
  refine r_nil ?_
  refine i_then ?_
  refine t_seq ?_
  refine t_seq ?_
  refine t_region ?_
  refine r_field_pp rfl rfl rfl rfl rfl (by decide) ?_
  refine r_load_pp rfl rfl rfl rfl ?_
  refine r_len rfl rfl rfl ?_
  refine mvI rfl ?_
  refine r_nil ?_
  refine i_then ?_
  refine t_block ?_
  refine t_loop (fun (n : Nat) => live [(1, Ty.int .i64 i), (5, Ty.int .i64 (takenM f (f.turnings.take n) i)), (9, Ty.sl TrnE f.turnings), (10, Ty.int .i64 f.turnings.length), (11, Ty.int .i64 (n : Nat))] []) (fun n => f.turnings.length - n) (0) ?_ fun n => ?_
  · (refine Ent.mk' ?_ ?_ <;> (repeat' (first | exact allSub_zero | exact allTags_nil | refine allSub_succ' ?_ (Ty.sub_any _) | refine allSub_succ' ?_ (Ty.sub_refl _))))
  ·
    have htb := taken_bound hr n i
    refine t_seq ?_
    refine t_region ?_
    refine r_bin rfl rfl rfl ?_
    refine r_nil ?_
    refine i_then ?_
    refine t_seq ?_
    refine t_cond_dec rfl (fun hc1 => ?_) (fun hc1 => ?_)
    ·
      refine t_skip ?_
      refine i_then ?_
      refine t_seq ?_
      refine t_block ?_
      refine t_seq ?_
      refine t_region ?_
      refine r_index_slN rfl rfl rfl rfl rfl rfl (by omega) ?_
      refine r_load_ppN rfl rfl rfl (by exact Nat.le_of_ble_eq_true rfl) ?_
      refine r_alloc rfl (by exact List.cons_ne_nil _ _) rfl ?_
      refine r_storeN rfl rfl (by decide) rfl rfl rfl rfl rfl rfl ?_
      refine r_nil ?_
      refine i_then ?_
      refine t_seq ?_
      refine t_region ?_
      refine r_field_ptr rfl rfl rfl rfl rfl (by decide) ?_
      refine r_load_ptr rfl rfl (by decide) rfl rfl rfl ?_
      refine mvI rfl ?_
      refine r_bin rfl rfl rfl ?_
      refine r_nil ?_
      refine i_then ?_
      refine t_cond_dec rfl (fun hc2 => ?_) (fun hc2 => ?_)
      ·
        have htx := hr.sacksR (nth f.turnings n) (nth_mem (by omega))
        refine t_region ?_
        refine mvI rfl ?_
        refine r_field_ptr rfl rfl rfl rfl rfl (by decide) ?_
        refine r_load_ptr rfl rfl (by decide) rfl rfl rfl ?_
        refine r_add rfl rfl (by omega) (by omega) ?_
        refine asI rfl ?_
        refine r_nil ?_
        refine i_block ?_
        refine i_then ?_
        refine t_region ?_
        refine r_add rfl rfl (by omega) (by omega) ?_
        refine mvI rfl ?_
        refine r_nil ?_
        refine i_round (n + 1) ?_ (by omega)
        (refine Ent.mk' ?_ ?_ <;> (repeat' (first | exact allSub_zero | exact allTags_nil | refine allSub_succ' ?_ (Ty.sub_any _) | refine allSub_succ' ?_ (Ty.sub_refl _) | refine allSub_succ' ?_ ?_)))
        all_goals skip
        exact Ty.sub_int (by simp only [takenM]; rw [take_nth (by omega), List.map_append, List.sum_append]; simp [hc2])
      ·
        refine t_skip ?_
        refine i_block ?_
        refine i_then ?_
        refine t_region ?_
        refine r_add rfl rfl (by omega) (by omega) ?_
        refine mvI rfl ?_
        refine r_nil ?_
        refine i_round (n + 1) ?_ (by omega)
        (refine Ent.mk' ?_ ?_ <;> (repeat' (first | exact allSub_zero | exact allTags_nil | refine allSub_succ' ?_ (Ty.sub_any _) | refine allSub_succ' ?_ (Ty.sub_refl _) | refine allSub_succ' ?_ ?_)))
        all_goals skip
        exact Ty.sub_int (by simp only [takenM]; rw [take_nth (by omega), List.map_append, List.sum_append]; simp [hc2])
    ·
      refine t_exit ?_
      refine i_then_exit ?_
      refine i_then_exit ?_
      refine i_block_exit rfl ?_
      refine i_then ?_
      refine t_seq ?_
      refine t_region ?_
      refine mvI rfl ?_
      refine asI rfl ?_
      refine r_nil ?_
      refine i_then ?_
      refine t_ret ?_
      refine i_rp1 rfl rfl ?_
      all_goals skip
      exact ret_eq rfl rfl (congrArg (Ty.int .i64) (by rw [List.take_of_length_le (by omega)]))
set_option maxRecDepth 100000 in
theorem c_share (f : Flr) (hs : f.Small) (hr : f.Ranged) (i : Int) (b : Nat) (hi : -1 ≤ i ∧ i < f.bins.length) (hb : b < f.bears.length) : Ctr Tryz.prog 100 [flrT f, Ty.int .i64 i, Ty.int .i64 (b : Nat)] (Ty.int .i64 (if i = -1 then 0 else nth (nth f.bins i.toNat).shares b)) := by
  refine fn_intro Tryz.func100 rfl (by decide) Tryz.ntmps100 (by exact Nat.le_of_ble_eq_true rfl) fun w0 M0 => ?_
  have hs1 := hs.bears; have hs2 := hs.bins; have hs3 := hs.turnings; have hs4 := hs.rules
  refine t_seq ?_
  refine t_region ?_
  refine r_box_agg rfl ?_
  refine asI rfl ?_
  refine r_nil ?_
  refine i_then ?_
  refine t_seq ?_
  refine t_seq ?_
  refine t_region ?_
  refine mvI rfl ?_
  refine r_bin rfl rfl rfl ?_
  refine r_nil ?_
  refine i_then ?_
  refine t_cond_dec rfl (fun hc1 => ?_) (fun hc1 => ?_)
  ·
    refine t_seq ?_
    refine t_region ?_
    refine asI rfl ?_
    refine r_nil ?_
    refine i_then ?_
    refine t_ret ?_
    refine i_then_ret ?_
    refine i_rp1 rfl rfl ?_
    all_goals skip
    exact ret_eq rfl rfl (congrArg (Ty.int .i64) (by rw [if_pos hc1]))
  ·
    refine t_skip ?_
    refine i_then ?_
    refine t_seq ?_
    have hsl := hr.shares _ (nth_mem (xs := f.bins) (k := i.toNat) (by omega))
    refine t_region ?_
    refine r_field_pp rfl rfl rfl rfl rfl (by decide) ?_
    refine r_load_pp rfl rfl rfl rfl ?_
    refine mvI rfl ?_
    refine r_index_sl rfl rfl rfl rfl rfl rfl (by omega) (by omega) ?_
    refine r_field_pp rfl rfl rfl rfl rfl (by decide) ?_
    refine r_load_pp rfl rfl rfl rfl ?_
    refine mvI rfl ?_
    refine r_index_slN rfl rfl rfl rfl rfl rfl (by omega) ?_
    refine r_load_pp rfl rfl rfl rfl ?_
    refine asI rfl ?_
    refine r_nil ?_
    refine i_then ?_
    refine t_ret ?_
    refine i_rp1 rfl rfl ?_
    all_goals skip
    exact ret_eq rfl rfl (congrArg (Ty.int .i64) (by rw [if_neg hc1]))
set_option maxRecDepth 100000 in
theorem c_right1 (f : Flr) (b : Bin) : Ctr Tryz.prog 125 [Ty.agg (BinE.tys b), Ty.pp (flrTys f)] (Ty.bool (decide ((b.shares.length : Int) = f.bears.length))) := by
  refine fn_intro Tryz.func125 rfl (by decide) Tryz.ntmps125 (by exact Nat.le_of_ble_eq_true rfl) fun w0 M0 => ?_
  refine t_seq ?_
  refine t_region ?_
  refine r_box_agg rfl ?_
  refine asB rfl ?_
  refine r_nil ?_
  refine i_then ?_
  refine t_seq ?_
  refine t_region ?_
  refine r_field_pp rfl rfl rfl rfl rfl (by decide) ?_
  refine r_load_pp rfl rfl rfl rfl ?_
  refine r_len rfl rfl rfl ?_
  refine r_field_pp rfl rfl rfl rfl rfl (by decide) ?_
  refine r_load_pp rfl rfl rfl rfl ?_
  refine r_len rfl rfl rfl ?_
  refine r_bin rfl rfl rfl ?_
  refine asB rfl ?_
  refine r_nil ?_
  refine i_then ?_
  refine t_ret ?_
  refine i_rp1 rfl rfl ?_
  all_goals exact ret_refl rfl rfl
set_option maxRecDepth 100000 in
theorem c_right2 (n : Int) : Ctr Tryz.prog 126 [Ty.int .i64 n] (Ty.bool (inB n 0 4000)) := by
  refine fn_intro Tryz.func126 rfl (by decide) Tryz.ntmps126 (by exact Nat.le_of_ble_eq_true rfl) fun w0 M0 => ?_
  refine t_seq ?_
  refine t_region ?_
  refine asB rfl ?_
  refine r_nil ?_
  refine i_then ?_
  refine t_seq ?_
  refine t_region ?_
  refine mvI rfl ?_
  refine r_call (c_in _ _ _) rfl rfl rfl rfl rfl ?_
  refine asB rfl ?_
  refine r_nil ?_
  refine i_then ?_
  refine t_ret ?_
  refine i_rp1 rfl rfl ?_
  all_goals exact ret_refl rfl rfl
set_option maxRecDepth 100000 in
theorem c_right3 (t : Trn) : Ctr Tryz.prog 128 [Ty.agg (TrnE.tys t)] (Ty.bool (inB t.sacks 1 300)) := by
  refine fn_intro Tryz.func128 rfl (by decide) Tryz.ntmps128 (by exact Nat.le_of_ble_eq_true rfl) fun w0 M0 => ?_
  refine t_seq ?_
  refine t_region ?_
  refine r_box_agg rfl ?_
  refine asB rfl ?_
  refine r_nil ?_
  refine i_then ?_
  refine t_seq ?_
  refine t_region ?_
  refine r_field_pp rfl rfl rfl rfl rfl (by decide) ?_
  refine r_load_pp rfl rfl rfl rfl ?_
  refine r_call (c_in _ _ _) rfl rfl rfl rfl rfl ?_
  refine asB rfl ?_
  refine r_nil ?_
  refine i_then ?_
  refine t_ret ?_
  refine i_rp1 rfl rfl ?_
  all_goals exact ret_refl rfl rfl
set_option maxRecDepth 100000 in
theorem c_right41 (n : Int) : Ctr Tryz.prog 130 [Ty.int .i64 n] (Ty.bool (inB n 0 4)) := by
  refine fn_intro Tryz.func130 rfl (by decide) Tryz.ntmps130 (by exact Nat.le_of_ble_eq_true rfl) fun w0 M0 => ?_
  refine t_seq ?_
  refine t_region ?_
  refine asB rfl ?_
  refine r_nil ?_
  refine i_then ?_
  refine t_seq ?_
  refine t_region ?_
  refine mvI rfl ?_
  refine r_call (c_in _ _ _) rfl rfl rfl rfl rfl ?_
  refine asB rfl ?_
  refine r_nil ?_
  refine i_then ?_
  refine t_ret ?_
  refine i_rp1 rfl rfl ?_
  all_goals exact ret_refl rfl rfl
set_option maxRecDepth 100000 in
theorem c_right4 (b : Bin) : Ctr Tryz.prog 129 [Ty.agg (BinE.tys b)] (Ty.bool (inB b.has 0 300 && b.shares.all fun n => inB n 0 4)) := by
  refine fn_intro Tryz.func129 rfl (by decide) Tryz.ntmps129 (by exact Nat.le_of_ble_eq_true rfl) fun w0 M0 => ?_
  refine t_seq ?_
  refine t_region ?_
  refine r_box_agg rfl ?_
  refine asB rfl ?_
  refine r_nil ?_
  refine i_then ?_
  refine t_seq ?_
  refine t_region ?_
  refine r_field_pp rfl rfl rfl rfl rfl (by decide) ?_
  refine r_load_pp rfl rfl rfl rfl ?_
  refine r_call (c_in _ _ _) rfl rfl rfl rfl rfl ?_
  refine mvB rfl ?_
  apply r_guard (s := 6) rfl rfl rfl
  · intro hg; apply opT_of; (refine r_field_pp rfl rfl rfl rfl rfl (by decide) ?_); refine r_nil ?_; exact rfl
  · exact rfl
  · exact rfl
  apply r_guard (s := 6) rfl rfl rfl
  · intro hg; apply opT_strip (s := 7) rfl (by (rw [hg]; rfl)); apply opT_of; (refine r_load_pp rfl rfl rfl rfl ?_); refine r_nil ?_; exact rfl
  · exact rfl
  · exact rfl
  apply r_guard (s := 6) rfl rfl rfl
  · intro hg; apply opT_strip (s := 8) rfl (by (rw [hg]; rfl)); apply opT_of; (refine r_call (c_every_int b.shares (Ty.clo _ []) rfl (fun n => inB n 0 4) rfl rfl fun n _ => cal_clo (c_right41 n) rfl rfl rfl rfl rfl rfl) rfl rfl rfl rfl rfl ?_); refine r_nil ?_; exact rfl
  · exact rfl
  · exact rfl
  refine r_and rfl rfl ?_
  refine asB rfl ?_
  refine r_nil ?_
  refine i_then ?_
  refine t_ret ?_
  refine i_rp1 rfl rfl ?_
  all_goals exact ret_refl rfl rfl
set_option maxRecDepth 100000 in
theorem c_right5 (f : Flr) (hs : f.Small) (t : Trn) : Ctr Tryz.prog 131 [Ty.agg (TrnE.tys t), Ty.pp (flrTys f)] (Ty.bool (inB t.src (-1) (f.bins.length - 1) && inB t.dst (-1) (f.bins.length - 1))) := by
  refine fn_intro Tryz.func131 rfl (by decide) Tryz.ntmps131 (by exact Nat.le_of_ble_eq_true rfl) fun w0 M0 => ?_
  have hs1 := hs.bears; have hs2 := hs.bins; have hs3 := hs.turnings; have hs4 := hs.rules
  refine t_seq ?_
  refine t_region ?_
  refine r_box_agg rfl ?_
  refine asB rfl ?_
  refine r_nil ?_
  refine i_then ?_
  refine t_seq ?_
  refine t_region ?_
  refine r_load_ppN rfl rfl rfl (by exact Nat.le_of_ble_eq_true rfl) ?_
  refine r_field_pp rfl rfl rfl rfl rfl (by decide) ?_
  refine r_load_pp rfl rfl rfl rfl ?_
  refine r_call (c_named f hs _) rfl rfl rfl rfl rfl ?_
  refine mvB rfl ?_
  apply r_guard (s := 8) rfl rfl rfl
  · intro hg; apply opT_of; (refine r_load_ppN rfl rfl rfl (by exact Nat.le_of_ble_eq_true rfl) ?_); refine r_nil ?_; exact rfl
  · exact rfl
  · exact rfl
  apply r_guard (s := 8) rfl rfl rfl
  · intro hg; apply opT_of; (refine r_field_pp rfl rfl rfl rfl rfl (by decide) ?_); refine r_nil ?_; exact rfl
  · exact rfl
  · exact rfl
  apply r_guard (s := 8) rfl rfl rfl
  · intro hg; apply opT_strip (s := 10) rfl (by (rw [hg]; rfl)); apply opT_of; (refine r_load_pp rfl rfl rfl rfl ?_); refine r_nil ?_; exact rfl
  · exact rfl
  · exact rfl
  apply r_guard (s := 8) rfl rfl rfl
  · intro hg; apply opT_strip (s := 9) rfl (by (rw [hg]; rfl)); apply opT_strip (s := 11) rfl (by (rw [hg]; rfl)); apply opT_of; (refine r_call (c_named f hs _) rfl rfl rfl rfl rfl ?_); refine r_nil ?_; exact rfl
  · exact rfl
  · exact rfl
  refine r_and rfl rfl ?_
  refine asB rfl ?_
  refine r_nil ?_
  refine i_then ?_
  refine t_ret ?_
  refine i_rp1 rfl rfl ?_
  all_goals exact ret_refl rfl rfl
set_option maxRecDepth 100000 in
theorem c_right7 (t : Trn) : Ctr Tryz.prog 135 [Ty.agg (TrnE.tys t)] (Ty.bool (!decide (t.src = t.dst))) := by
  refine fn_intro Tryz.func135 rfl (by decide) Tryz.ntmps135 (by exact Nat.le_of_ble_eq_true rfl) fun w0 M0 => ?_
  refine t_seq ?_
  refine t_region ?_
  refine r_box_agg rfl ?_
  refine asB rfl ?_
  refine r_nil ?_
  refine i_then ?_
  refine t_seq ?_
  refine t_region ?_
  refine r_field_pp rfl rfl rfl rfl rfl (by decide) ?_
  refine r_load_pp rfl rfl rfl rfl ?_
  refine r_field_pp rfl rfl rfl rfl rfl (by decide) ?_
  refine r_load_pp rfl rfl rfl rfl ?_
  refine r_bin rfl rfl rfl ?_
  refine asB rfl ?_
  refine r_nil ?_
  refine i_then ?_
  refine t_ret ?_
  refine i_rp1 rfl rfl ?_
  all_goals exact ret_refl rfl rfl
set_option maxRecDepth 100000 in
theorem c_right8 (b : Bin) (hl : b.shares.length ≤ 100) (hb : ∀ n ∈ b.shares, 0 ≤ n ∧ n ≤ 4000) : Ctr Tryz.prog 136 [Ty.agg (BinE.tys b)] (Ty.bool (decide (b.shares.sum = 4))) := by
  refine fn_intro Tryz.func136 rfl (by decide) Tryz.ntmps136 (by exact Nat.le_of_ble_eq_true rfl) fun w0 M0 => ?_
  refine t_seq ?_
  refine t_region ?_
  refine r_box_agg rfl ?_
  refine asB rfl ?_
  refine r_nil ?_
  refine i_then ?_
  refine t_seq ?_
  refine t_region ?_
  refine r_field_pp rfl rfl rfl rfl rfl (by decide) ?_
  refine r_load_pp rfl rfl rfl rfl ?_
  refine r_call (c_sum b.shares hl hb) rfl rfl rfl rfl rfl ?_
  refine r_bin rfl rfl rfl ?_
  refine asB rfl ?_
  refine r_nil ?_
  refine i_then ?_
  refine t_ret ?_
  refine i_rp1 rfl rfl ?_
  all_goals exact ret_refl rfl rfl
end Go.Proofs.YtifgbnbkimcchaaGreat

namespace Go.Proofs.YtifgbnbkimcchaaGreat
open Go.T
def right1 (f : Flr) : Bool := !inB f.bears.length 1 4 || decide ((f.bins.length : Int) > 6) || decide ((f.turnings.length : Int) > 8) || decide ((f.rules.length : Int) > 16) || !f.bins.all fun b => decide ((b.shares.length : Int) = f.bears.length)
def right2 (f : Flr) : Bool := (!f.bears.all fun n => inB n 0 4000) || !f.turnings.all fun t => inB t.sacks 1 300
def right3 (f : Flr) : Bool := !f.bins.all fun b => inB b.has 0 300 && b.shares.all fun n => inB n 0 4
def right4 (f : Flr) : Bool := (!f.turnings.all fun t => inB t.src (-1) (f.bins.length - 1) && inB t.dst (-1) (f.bins.length - 1)) || !f.rules.all fun r => inB r.fst 0 (f.turnings.length - 1) && inB r.nxt 0 (f.turnings.length - 1)
def right5 (f : Flr) : Bool := !f.turnings.all fun t => !decide (t.src = t.dst)
def right6 (f : Flr) : Bool := !f.bins.all fun b => decide (b.shares.sum = 4)
def right7 (f : Flr) : Bool := (iot f.bins.length).any fun i => decide (takenM f f.turnings i > (nth f.bins i.toNat).has)
def rightM (f : Flr) : Int := if right1 f then 2 else if right2 f then 3 else if right3 f then 3 else if right4 f then 1 else if right5 f then 5 else if right6 f then 8 else if right7 f then 8 else 0
theorem inB_true {n lo hi : Int} (h : inB n lo hi = true) : lo ≤ n ∧ n ≤ hi := by
  simp only [inB, Bool.and_eq_true, decide_eq_true_eq] at h; exact h
theorem ranged_right {f : Flr} (h1 : right1 f = false) (h2 : right2 f = false) (h3 : right3 f = false) : f.Ranged := by
  simp only [right1, Bool.or_eq_false_iff, decide_eq_false_iff_not, Bool.not_eq_false'] at h1
  simp only [right2, Bool.or_eq_false_iff, Bool.not_eq_false', List.all_eq_true] at h2
  simp only [right3, Bool.not_eq_false', List.all_eq_true, Bool.and_eq_true] at h3
  obtain ⟨⟨⟨⟨a, b⟩, c⟩, d⟩, e⟩ := h1
  have ha := inB_true a
  simp only [List.all_eq_true, decide_eq_true_eq] at e
  exact ⟨by omega, by omega, by omega, by omega, by omega, fun x hx => by have := e x hx; omega, fun n hn => inB_true (h2.1 n hn), fun x hx => inB_true (h3 x hx).1, fun x hx n hn => inB_true ((h3 x hx).2 n hn), fun t ht => inB_true (h2.2 t ht)⟩
end Go.Proofs.YtifgbnbkimcchaaGreat

namespace Go.Proofs.YtifgbnbkimcchaaGreat
open Go Go.T
attribute [local irreducible] dInt dBool dSl dPp dPtr dAgg dTup dClo dAny dEx dStr dGd dCells dVec dVs dRow dOp nth Tri Into TOps Ctr bodyPost Exit.then Exit.inBlock Code.wp Code.wpIn
set_option maxRecDepth 100000 in
theorem c_right6 (f : Flr) (hs : f.Small) (r : Rul) : Ctr Tryz.prog 134 [Ty.agg (RulE.tys r), Ty.pp [Ty.mth 91 [flrT f]]] (Ty.bool (inB r.fst 0 (f.turnings.length - 1) && inB r.nxt 0 (f.turnings.length - 1))) := by
  refine fn_intro Tryz.func134 rfl (by decide) Tryz.ntmps134 (by exact Nat.le_of_ble_eq_true rfl) fun w0 M0 => ?_
  have hs1 := hs.bears; have hs2 := hs.bins; have hs3 := hs.turnings; have hs4 := hs.rules
  refine t_seq ?_
  refine t_region ?_
  refine r_box_agg rfl ?_
  refine asB rfl ?_
  refine r_nil ?_
  refine i_then ?_
  refine t_seq ?_
  refine t_region ?_
  refine r_load_pp rfl rfl rfl rfl ?_
  refine r_field_pp rfl rfl rfl rfl rfl (by decide) ?_
  refine r_load_pp rfl rfl rfl rfl ?_
  refine r_callc rfl (cal_mth (c_turning f hs r.fst) rfl rfl rfl rfl rfl rfl) rfl ?_
  refine mvB rfl ?_
  apply r_guard (s := 8) rfl rfl rfl
  · intro hg; apply opT_of; (refine r_load_pp rfl rfl rfl rfl ?_); refine r_nil ?_; exact rfl
  · exact rfl
  · exact rfl
  apply r_guard (s := 8) rfl rfl rfl
  · intro hg; apply opT_of; (refine r_field_pp rfl rfl rfl rfl rfl (by decide) ?_); refine r_nil ?_; exact rfl
  · exact rfl
  · exact rfl
  apply r_guard (s := 8) rfl rfl rfl
  · intro hg; apply opT_strip (s := 10) rfl (by (rw [hg]; rfl)); apply opT_of; (refine r_load_pp rfl rfl rfl rfl ?_); refine r_nil ?_; exact rfl
  · exact rfl
  · exact rfl
  apply r_guard (s := 8) rfl rfl rfl
  · intro hg; apply opT_strip (s := 9) rfl (by (rw [hg]; rfl)); apply opT_strip (s := 11) rfl (by (rw [hg]; rfl)); apply opT_of; (refine r_callc rfl (cal_mth (c_turning f hs r.nxt) rfl rfl rfl rfl rfl rfl) rfl ?_); refine r_nil ?_; exact rfl
  · exact rfl
  · exact rfl
  refine r_and rfl rfl ?_
  refine asB rfl ?_
  refine r_nil ?_
  refine i_then ?_
  refine t_ret ?_
  refine i_rp1 rfl rfl ?_
  all_goals exact ret_refl rfl rfl
set_option maxRecDepth 100000 in
theorem c_right (f : Flr) (hs : f.Small) : Ctr Tryz.prog 80 [flrT f] (Ty.int .i64 (rightM f)) := by
  refine fn_intro Tryz.func80 rfl (by decide) Tryz.ntmps80 (by exact Nat.le_of_ble_eq_true rfl) fun w0 M0 => ?_
  have hs1 := hs.bears; have hs2 := hs.bins; have hs3 := hs.turnings; have hs4 := hs.rules
  refine t_seq ?_
  refine t_region ?_
  refine r_box_agg rfl ?_
  refine asI rfl ?_
  refine r_nil ?_
  refine i_then ?_
  refine t_seq ?_
  refine t_region ?_
  refine r_load_ppN rfl rfl rfl (by exact Nat.le_of_ble_eq_true rfl) ?_
  refine r_makeMth (l := [flrT f]) rfl ?_
  refine r_alloc rfl (by exact List.cons_ne_nil _ _) rfl ?_
  refine r_store1 rfl rfl (by decide) rfl rfl (by exact (rfl : _ = Ty.mth _ _)) rfl (by exact Nat.le_of_ble_eq_true rfl) rfl rfl (by exact (rfl : _ = [_])) ?_
  refine r_nil ?_
  refine i_then ?_
  refine t_seq ?_
  refine t_block ?_
  refine t_seq ?_
  refine t_pub (tg := 4) [(3, Ty.pp [Ty.mth 91 [flrT f]])] (by decide) rfl ⟨pub_ptr (T := 56) (tg := 4) (off := 0) (l := [Ty.mth 91 [flrT f]]) rfl rfl rfl (by decide), trivial⟩ ?_
  refine t_region ?_
  refine r_field_pp rfl rfl rfl rfl rfl (by decide) ?_
  refine r_load_pp rfl rfl rfl rfl ?_
  refine r_len rfl rfl rfl ?_
  refine r_call (c_in _ _ _) rfl rfl rfl rfl rfl ?_
  refine r_not rfl ?_
  refine mvB rfl ?_
  apply r_guard (s := 14) rfl rfl rfl
  · intro hg; apply opT_of; (refine r_field_pp rfl rfl rfl rfl rfl (by decide) ?_); refine r_nil ?_; exact rfl
  · exact rfl
  · exact rfl
  apply r_guard (s := 14) rfl rfl rfl
  · intro hg; apply opT_strip (s := 15) rfl (by (rw [hg]; rfl)); apply opT_of; (refine r_load_pp rfl rfl rfl rfl ?_); refine r_nil ?_; exact rfl
  · exact rfl
  · exact rfl
  apply r_guard (s := 14) rfl rfl rfl
  · intro hg; apply opT_strip (s := 16) rfl (by (rw [hg]; rfl)); apply opT_of; (refine r_len rfl rfl rfl ?_); refine r_nil ?_; exact rfl
  · exact rfl
  · exact rfl
  apply r_guard (s := 14) rfl rfl rfl
  · intro hg; apply opT_strip (s := 17) rfl (by (rw [hg]; rfl)); apply opT_of; (refine r_bin rfl rfl rfl ?_); refine r_nil ?_; exact rfl
  · exact rfl
  · exact rfl
  refine r_or rfl rfl ?_
  refine mvB rfl ?_
  apply r_guard (s := 20) rfl rfl rfl
  · intro hg; apply opT_of; (refine r_field_pp rfl rfl rfl rfl rfl (by decide) ?_); refine r_nil ?_; exact rfl
  · exact rfl
  · exact rfl
  apply r_guard (s := 20) rfl rfl rfl
  · intro hg; apply opT_strip (s := 21) rfl (by (rw [hg]; rfl)); apply opT_of; (refine r_load_pp rfl rfl rfl rfl ?_); refine r_nil ?_; exact rfl
  · exact rfl
  · exact rfl
  apply r_guard (s := 20) rfl rfl rfl
  · intro hg; apply opT_strip (s := 22) rfl (by (rw [hg]; rfl)); apply opT_of; (refine r_len rfl rfl rfl ?_); refine r_nil ?_; exact rfl
  · exact rfl
  · exact rfl
  apply r_guard (s := 20) rfl rfl rfl
  · intro hg; apply opT_strip (s := 23) rfl (by (rw [hg]; rfl)); apply opT_of; (refine r_bin rfl rfl rfl ?_); refine r_nil ?_; exact rfl
  · exact rfl
  · exact rfl
  refine r_or rfl rfl ?_
  refine mvB rfl ?_
  apply r_guard (s := 26) rfl rfl rfl
  · intro hg; apply opT_of; (refine r_field_pp rfl rfl rfl rfl rfl (by decide) ?_); refine r_nil ?_; exact rfl
  · exact rfl
  · exact rfl
  apply r_guard (s := 26) rfl rfl rfl
  · intro hg; apply opT_strip (s := 27) rfl (by (rw [hg]; rfl)); apply opT_of; (refine r_load_pp rfl rfl rfl rfl ?_); refine r_nil ?_; exact rfl
  · exact rfl
  · exact rfl
  apply r_guard (s := 26) rfl rfl rfl
  · intro hg; apply opT_strip (s := 28) rfl (by (rw [hg]; rfl)); apply opT_of; (refine r_len rfl rfl rfl ?_); refine r_nil ?_; exact rfl
  · exact rfl
  · exact rfl
  apply r_guard (s := 26) rfl rfl rfl
  · intro hg; apply opT_strip (s := 29) rfl (by (rw [hg]; rfl)); apply opT_of; (refine r_bin rfl rfl rfl ?_); refine r_nil ?_; exact rfl
  · exact rfl
  · exact rfl
  refine r_or rfl rfl ?_
  refine mvB rfl ?_
  apply r_guard (s := 32) rfl rfl rfl
  · intro hg; apply opT_of; (refine r_field_pp rfl rfl rfl rfl rfl (by decide) ?_); refine r_nil ?_; exact rfl
  · exact rfl
  · exact rfl
  apply r_guard (s := 32) rfl rfl rfl
  · intro hg; apply opT_strip (s := 33) rfl (by (rw [hg]; rfl)); apply opT_of; (refine r_load_pp rfl rfl rfl rfl ?_); refine r_nil ?_; exact rfl
  · exact rfl
  · exact rfl
  apply r_guard (s := 32) rfl rfl rfl
  · intro hg; apply opT_of; (refine r_makeFunc rfl ?_); refine r_nil ?_; exact rfl
  · exact rfl
  · exact rfl
  apply r_guard (s := 32) rfl rfl rfl
  · intro hg; apply opT_strip (s := 34) rfl (by (rw [hg]; rfl)); apply opT_strip (s := 35) rfl (by (rw [hg]; rfl)); apply opT_of; (refine r_call (c_every_bin f.bins (Ty.clo _ [Ty.pp (flrTys f)]) rfl (fun b => decide ((b.shares.length : Int) = f.bears.length)) rfl rfl fun b _ => cal_clo (c_right1 f b) rfl rfl rfl rfl rfl rfl) rfl rfl rfl rfl rfl ?_); refine r_nil ?_; exact rfl
  · exact rfl
  · exact rfl
  apply r_guard (s := 32) rfl rfl rfl
  · intro hg; apply opT_strip (s := 36) rfl (by (rw [hg]; rfl)); apply opT_of; (refine r_not rfl ?_); refine r_nil ?_; exact rfl
  · exact rfl
  · exact rfl
  refine r_or rfl rfl ?_
  refine asB rfl ?_
  refine r_nil ?_
  refine i_then ?_
  refine t_cond rfl (fun hc1 => ?_) (fun hc1 => ?_)
  ·
    refine t_seq ?_
    refine t_region ?_
    refine asI rfl ?_
    refine r_nil ?_
    refine i_then ?_
    refine t_ret ?_
    refine i_block_ret ?_
    refine i_then_ret ?_
    refine i_rp1 rfl rfl ?_
    all_goals skip
    exact ret_eq rfl rfl (congrArg (Ty.int .i64) (by rw [rightM, if_pos (show right1 f = true from hc1)]))
  ·
    refine t_seq ?_
    refine t_region ?_
    refine r_field_pp rfl rfl rfl rfl rfl (by decide) ?_
    refine r_load_pp rfl rfl rfl rfl ?_
    refine r_call (c_every_int f.bears (Ty.clo _ []) rfl (fun n => inB n 0 4000) rfl rfl fun n _ => cal_clo (c_right2 n) rfl rfl rfl rfl rfl rfl) rfl rfl rfl rfl rfl ?_
    refine r_not rfl ?_
    refine mvB rfl ?_
    apply r_guard (s := 44) rfl rfl rfl
    · intro hg; apply opT_of; (refine r_field_pp rfl rfl rfl rfl rfl (by decide) ?_); refine r_nil ?_; exact rfl
    · exact rfl
    · exact rfl
    apply r_guard (s := 44) rfl rfl rfl
    · intro hg; apply opT_strip (s := 45) rfl (by (rw [hg]; rfl)); apply opT_of; (refine r_load_pp rfl rfl rfl rfl ?_); refine r_nil ?_; exact rfl
    · exact rfl
    · exact rfl
    apply r_guard (s := 44) rfl rfl rfl
    · intro hg; apply opT_strip (s := 46) rfl (by (rw [hg]; rfl)); apply opT_of; (refine r_call (c_every_trn f.turnings (Ty.clo _ []) rfl (fun t => inB t.sacks 1 300) rfl rfl fun t _ => cal_clo (c_right3 t) rfl rfl rfl rfl rfl rfl) rfl rfl rfl rfl rfl ?_); refine r_nil ?_; exact rfl
    · exact rfl
    · exact rfl
    apply r_guard (s := 44) rfl rfl rfl
    · intro hg; apply opT_strip (s := 47) rfl (by (rw [hg]; rfl)); apply opT_of; (refine r_not rfl ?_); refine r_nil ?_; exact rfl
    · exact rfl
    · exact rfl
    refine r_or rfl rfl ?_
    refine asB rfl ?_
    refine r_nil ?_
    refine i_then ?_
    refine t_cond rfl (fun hc2 => ?_) (fun hc2 => ?_)
    ·
      refine t_seq ?_
      refine t_region ?_
      refine asI rfl ?_
      refine r_nil ?_
      refine i_then ?_
      refine t_ret ?_
      refine i_block_ret ?_
      refine i_then_ret ?_
      refine i_rp1 rfl rfl ?_
      all_goals skip
      exact ret_eq rfl rfl (congrArg (Ty.int .i64) (by rw [rightM, if_neg (ng (show right1 f = false from hc1)), if_pos (show right2 f = true from hc2)]))
    ·
      refine t_seq ?_
      refine t_region ?_
      refine r_field_pp rfl rfl rfl rfl rfl (by decide) ?_
      refine r_load_pp rfl rfl rfl rfl ?_
      refine r_call (c_every_bin f.bins (Ty.clo _ []) rfl (fun b => inB b.has 0 300 && b.shares.all fun n => inB n 0 4) rfl rfl fun b _ => cal_clo (c_right4 b) rfl rfl rfl rfl rfl rfl) rfl rfl rfl rfl rfl ?_
      refine r_not rfl ?_
      refine asB rfl ?_
      refine r_nil ?_
      refine i_then ?_
      refine t_cond rfl (fun hc3 => ?_) (fun hc3 => ?_)
      ·
        refine t_seq ?_
        refine t_region ?_
        refine asI rfl ?_
        refine r_nil ?_
        refine i_then ?_
        refine t_ret ?_
        refine i_block_ret ?_
        refine i_then_ret ?_
        refine i_rp1 rfl rfl ?_
        all_goals skip
        exact ret_eq rfl rfl (congrArg (Ty.int .i64) (by rw [rightM, if_neg (ng (show right1 f = false from hc1)), if_neg (ng (show right2 f = false from hc2)), if_pos (show right3 f = true from hc3)]))
      ·
        refine t_seq ?_
        refine t_region ?_
        refine r_field_pp rfl rfl rfl rfl rfl (by decide) ?_
        refine r_load_pp rfl rfl rfl rfl ?_
        refine r_makeFunc rfl ?_
        refine r_call (c_every_trn f.turnings (Ty.clo _ [Ty.pp (flrTys f)]) rfl (fun t => inB t.src (-1) (f.bins.length - 1) && inB t.dst (-1) (f.bins.length - 1)) rfl rfl fun t _ => cal_clo (c_right5 f hs t) rfl rfl rfl rfl rfl rfl) rfl rfl rfl rfl rfl ?_
        refine r_not rfl ?_
        refine mvB rfl ?_
        apply r_guard (s := 61) rfl rfl rfl
        · intro hg; apply opT_of; (refine r_field_pp rfl rfl rfl rfl rfl (by decide) ?_); refine r_nil ?_; exact rfl
        · exact rfl
        · exact rfl
        apply r_guard (s := 61) rfl rfl rfl
        · intro hg; apply opT_strip (s := 62) rfl (by (rw [hg]; rfl)); apply opT_of; (refine r_load_pp rfl rfl rfl rfl ?_); refine r_nil ?_; exact rfl
        · exact rfl
        · exact rfl
        apply r_guard (s := 61) rfl rfl rfl
        · intro hg; apply opT_of; (refine r_makeFunc rfl ?_); refine r_nil ?_; exact rfl
        · exact rfl
        · exact rfl
        apply r_guard (s := 61) rfl rfl rfl
        · intro hg; apply opT_strip (s := 63) rfl (by (rw [hg]; rfl)); apply opT_strip (s := 64) rfl (by (rw [hg]; rfl)); apply opT_of; (refine r_call (c_every_rul f.rules (Ty.clo _ [Ty.pp [Ty.mth 91 [flrT f]]]) rfl (fun r => inB r.fst 0 (f.turnings.length - 1) && inB r.nxt 0 (f.turnings.length - 1)) rfl rfl fun r _ => cal_clo (c_right6 f hs r) rfl rfl rfl rfl rfl rfl) rfl rfl rfl rfl rfl ?_); refine r_nil ?_; exact rfl
        · exact rfl
        · exact rfl
        apply r_guard (s := 61) rfl rfl rfl
        · intro hg; apply opT_strip (s := 65) rfl (by (rw [hg]; rfl)); apply opT_of; (refine r_not rfl ?_); refine r_nil ?_; exact rfl
        · exact rfl
        · exact rfl
        refine r_or rfl rfl ?_
        refine asB rfl ?_
        refine r_nil ?_
        refine i_then ?_
        refine t_cond rfl (fun hc4 => ?_) (fun hc4 => ?_)
        ·
          refine t_seq ?_
          refine t_region ?_
          refine asI rfl ?_
          refine r_nil ?_
          refine i_then ?_
          refine t_ret ?_
          refine i_block_ret ?_
          refine i_then_ret ?_
          refine i_rp1 rfl rfl ?_
          all_goals skip
          exact ret_eq rfl rfl (congrArg (Ty.int .i64) (by rw [rightM, if_neg (ng (show right1 f = false from hc1)), if_neg (ng (show right2 f = false from hc2)), if_neg (ng (show right3 f = false from hc3)), if_pos (show right4 f = true from hc4)]))
        ·
          refine t_seq ?_
          refine t_region ?_
          refine r_field_pp rfl rfl rfl rfl rfl (by decide) ?_
          refine r_load_pp rfl rfl rfl rfl ?_
          refine r_call (c_every_trn f.turnings (Ty.clo _ []) rfl (fun t => !decide (t.src = t.dst)) rfl rfl fun t _ => cal_clo (c_right7 t) rfl rfl rfl rfl rfl rfl) rfl rfl rfl rfl rfl ?_
          refine r_not rfl ?_
          refine asB rfl ?_
          refine r_nil ?_
          refine i_then ?_
          refine t_cond rfl (fun hc5 => ?_) (fun hc5 => ?_)
          ·
            refine t_seq ?_
            refine t_region ?_
            refine asI rfl ?_
            refine r_nil ?_
            refine i_then ?_
            refine t_ret ?_
            refine i_block_ret ?_
            refine i_then_ret ?_
            refine i_rp1 rfl rfl ?_
            all_goals skip
            exact ret_eq rfl rfl (congrArg (Ty.int .i64) (by rw [rightM, if_neg (ng (show right1 f = false from hc1)), if_neg (ng (show right2 f = false from hc2)), if_neg (ng (show right3 f = false from hc3)), if_neg (ng (show right4 f = false from hc4)), if_pos (show right5 f = true from hc5)]))
          ·
            refine t_seq ?_
            have hr : f.Ranged := ranged_right hc1 hc2 hc3
            have hr4 := hr.bears
            refine t_region ?_
            refine r_field_pp rfl rfl rfl rfl rfl (by decide) ?_
            refine r_load_pp rfl rfl rfl rfl ?_
            refine r_call (c_every_bin f.bins (Ty.clo _ []) rfl (fun b => decide (b.shares.sum = 4)) rfl rfl fun b hb => cal_clo (c_right8 b (by have := hr.shares b hb; omega) (fun n hn => by have := hr.sharesR b hb n hn; omega)) rfl rfl rfl rfl rfl rfl) rfl rfl rfl rfl rfl ?_
            refine r_not rfl ?_
            refine asB rfl ?_
            refine r_nil ?_
            refine i_then ?_
            refine t_cond rfl (fun hc6 => ?_) (fun hc6 => ?_)
            ·
              refine t_seq ?_
              refine t_region ?_
              refine asI rfl ?_
              refine r_nil ?_
              refine i_then ?_
              refine t_ret ?_
              refine i_block_ret ?_
              refine i_then_ret ?_
              refine i_rp1 rfl rfl ?_
              all_goals skip
              exact ret_eq rfl rfl (congrArg (Ty.int .i64) (by rw [rightM, if_neg (ng (show right1 f = false from hc1)), if_neg (ng (show right2 f = false from hc2)), if_neg (ng (show right3 f = false from hc3)), if_neg (ng (show right4 f = false from hc4)), if_neg (ng (show right5 f = false from hc5)), if_pos (show right6 f = true from hc6)]))
            ·
              refine t_skip ?_
              refine i_block ?_
              refine i_then ?_
              refine t_seq ?_
              refine t_seq ?_
              refine t_region ?_
              refine r_field_pp rfl rfl rfl rfl rfl (by decide) ?_
              refine r_load_pp rfl rfl rfl rfl ?_
              refine r_len rfl rfl rfl ?_
              refine mvI rfl ?_
              refine r_nil ?_
              refine i_then ?_
              refine t_block ?_
              refine t_loop (fun (k : {k : Nat // ∀ j, j < k → decide (takenM f f.turnings j > (nth f.bins j).has) = false}) => live [(1, Ty.pp (flrTys f)), (79, Ty.sl BinE f.bins), (80, Ty.int .i64 f.bins.length), (81, Ty.int .i64 (k.1 : Nat))] []) (fun k => f.bins.length - k.1) (⟨0, fun j hj => absurd hj (Nat.not_lt_zero _)⟩) ?_ fun k => ?_
              · (refine Ent.mk' ?_ ?_ <;> (repeat' (first | exact allSub_zero | exact allTags_nil | refine allSub_succ' ?_ (Ty.sub_any _) | refine allSub_succ' ?_ (Ty.sub_refl _))))
              ·
                refine t_seq ?_
                refine t_region ?_
                refine r_bin rfl rfl rfl ?_
                refine r_nil ?_
                refine i_then ?_
                refine t_seq ?_
                refine t_cond_dec rfl (fun hc7 => ?_) (fun hc7 => ?_)
                ·
                  refine t_skip ?_
                  refine i_then ?_
                  refine t_seq ?_
                  refine t_block ?_
                  refine t_seq ?_
                  refine t_region ?_
                  refine mvI rfl ?_
                  refine r_index_slN rfl rfl rfl rfl rfl rfl (by omega) ?_
                  refine r_load_ppN rfl rfl rfl (by exact Nat.le_of_ble_eq_true rfl) ?_
                  refine r_alloc rfl (by exact List.cons_ne_nil _ _) rfl ?_
                  refine asI rfl ?_
                  refine r_storeN rfl rfl (by decide) rfl rfl rfl rfl rfl rfl ?_
                  refine r_nil ?_
                  refine i_then ?_
                  refine t_seq ?_
                  refine t_draw mixed rfl ?_
                  refine r_load_ppN rfl rfl rfl (by exact Nat.le_of_ble_eq_true rfl) ?_
                  refine mvI rfl ?_
                  refine r_call (c_taken f hs hr _) rfl rfl rfl rfl rfl ?_
                  refine r_field_ptr rfl rfl rfl rfl rfl (by decide) ?_
                  refine r_load_ptr rfl rfl (by decide) rfl rfl rfl ?_
                  refine r_bin rfl rfl rfl ?_
                  refine r_nil ?_
                  refine ⟨by kernel_rfl, ?_⟩
                  refine i_then ?_
                  refine t_cond_dec rfl (fun hc8 => ?_) (fun hc8 => ?_)
                  ·
                    refine t_seq ?_
                    refine t_region ?_
                    refine asI rfl ?_
                    refine r_nil ?_
                    refine i_then ?_
                    refine t_ret ?_
                    refine i_block_ret ?_
                    refine i_then_ret ?_
                    refine i_then_ret ?_
                    refine i_block_ret ?_
                    refine i_then_ret ?_
                    refine i_rp1 rfl rfl ?_
                    all_goals skip
                    exact ret_eq rfl rfl (congrArg (Ty.int .i64) (by rw [rightM, if_neg (ng (show right1 f = false from hc1)), if_neg (ng (show right2 f = false from hc2)), if_neg (ng (show right3 f = false from hc3)), if_neg (ng (show right4 f = false from hc4)), if_neg (ng (show right5 f = false from hc5)), if_neg (ng (show right6 f = false from hc6)), if_pos (show right7 f = true from iot_any_pos (k := k.1) (by omega) (by rw [Int.toNat_natCast]; exact decide_eq_true hc8))]))
                  ·
                    refine t_skip ?_
                    refine i_block ?_
                    refine i_then ?_
                    refine t_region ?_
                    refine r_add rfl rfl (by omega) (by omega) ?_
                    refine mvI rfl ?_
                    refine r_nil ?_
                    refine i_round (⟨k.1 + 1, ext_lt k.2 (decide_eq_false hc8)⟩) ?_ (by show f.bins.length - (k.1 + 1) < f.bins.length - k.1; omega)
                    (refine Ent.mk' ?_ ?_ <;> (repeat' (first | exact allSub_zero | exact allTags_nil | refine allSub_succ' ?_ (Ty.sub_any _) | refine allSub_succ' ?_ (Ty.sub_refl _))))
                    all_goals skip
                ·
                  refine t_exit ?_
                  refine i_then_exit ?_
                  refine i_then_exit ?_
                  refine i_block_exit rfl ?_
                  refine i_then ?_
                  refine t_seq ?_
                  refine t_region ?_
                  refine asI rfl ?_
                  refine r_nil ?_
                  refine i_then ?_
                  refine t_ret ?_
                  refine i_rp1 rfl rfl ?_
                  all_goals skip
                  exact ret_eq rfl rfl (congrArg (Ty.int .i64) (by rw [rightM, if_neg (ng (show right1 f = false from hc1)), if_neg (ng (show right2 f = false from hc2)), if_neg (ng (show right3 f = false from hc3)), if_neg (ng (show right4 f = false from hc4)), if_neg (ng (show right5 f = false from hc5)), if_neg (ng (show right6 f = false from hc6)), if_neg (ng (show right7 f = false from iot_any_neg fun j hj => by rw [Int.toNat_natCast]; exact k.2 j (by omega)))]))
end Go.Proofs.YtifgbnbkimcchaaGreat

namespace Go.T
open Go Go.RowKit
section
variable {P : Program} {fr : Fr} {ops : Array Oper} {A : As} {rest : List Oper} {K : As → List (As × Fx) → Prop} {d : Nat} {t ty' : TypeId} {p : String} {e : Array Edge} [T : Tab P]
variable {α : Type} [Inhabited α] {E : El α} {xs : List α} {x y : Operand} {tg i o s Tb : Nat} {ti : TI} {ty : Ty} {z : α}
theorem r_index_ptrI {off n : Nat} {k : IntKind} {j : Int} {te : TI} {el : Nat} (hx : A.op fr x = .ptr tg off) (hy : A.op fr y = .int k j) (hT : T.tab[ty']? = some ti) (hk : ti.k = .array n el) (hE : T.tab[el]? = some te) (h0 : 0 ≤ j) (h1 : j.toNat < n)
    (h : TOps P fr ops rest (A.set d (.ptr tg (off + j.toNat * te.size))) fun A' l' => K A' ((A, { d := some d, ty := .ptr tg (off + j.toNat * te.size), rs := opR x ++ opR y }) :: l')) : TOps P fr ops (⟨some d, .indexAddr ty' x y, t, p, e, none⟩ :: rest) A K :=
  tops_pure (opT_pure rfl rfl fun a w M _ hr _ => by
    obtain ⟨hdx, hdy⟩ := op2 hr
    rw [hx] at hdx; rw [hy] at hdy
    obtain ⟨b, hb, ex⟩ := hdx
    have ey : a.eval y = .int k j := hdy
    exact ⟨_, by simp only [execOp, ex, ey, Sem.run_bind, run_index_array hT hk hE h0 h1]; rfl, b, hb, rfl⟩) h
end
end Go.T

namespace Go.Proofs.YtifgbnbkimcchaaGreat
open Go.T
def N64 : El Nat := El.mk' 1 (fun n => [Ty.int .i64 (n : Nat)]) (fun _ => rfl) (fun _ => ⟨rfl, rfl, rfl⟩)
def stepR (out : List Nat) (r : Rul) : List Nat := out.set r.nxt.toNat (nth out r.nxt.toNat ||| (nth out r.fst.toNat ||| 1 <<< r.fst.toNat))
def roundR (f : Flr) (out : List Nat) : List Nat := f.rules.foldl stepR out
def iterR (f : Flr) : Nat → List Nat → List Nat
  | 0, out => out
  | n + 1, out => if roundR f out = out then out else iterR f n (roundR f out)
def aheadP (f : Flr) : List Nat := iterR f 2041 (List.replicate 8 0)
def Flr.Ruled (f : Flr) : Prop := f.turnings.length ≤ 8 ∧ ∀ r ∈ f.rules, (0 ≤ r.fst ∧ r.fst < f.turnings.length) ∧ (0 ≤ r.nxt ∧ r.nxt < f.turnings.length)
structure Sets (out : List Nat) : Prop where
  len : out.length = 8
  lt : ∀ e ∈ out, e < 256
theorem Sets.nth {out : List Nat} (h : Sets out) (k : Nat) : T.nth out k < 256 := by
  rcases Nat.lt_or_ge k out.length with hk | hk
  · exact h.lt _ (nth_mem hk)
  · have : T.nth out k = 0 := by
      show out.getD k default = 0
      rw [List.getD_eq_getElem?_getD, List.getElem?_eq_none hk]; rfl
    omega
theorem new_set {out : List Nat} (h : Sets out) {a b : Nat} (hb : b < 8) : T.nth out a ||| (T.nth out b ||| 1 <<< b) < 256 := by
  refine Nat.or_lt_two_pow (n := 8) (h.nth a) (Nat.or_lt_two_pow (h.nth b) ?_)
  rw [Nat.shiftLeft_eq, Nat.one_mul]
  exact Nat.pow_lt_pow_right (by omega) hb
theorem sets_step {out : List Nat} (h : Sets out) {r : Rul} (hr : r.fst.toNat < 8) : Sets (stepR out r) :=
  ⟨by rw [stepR, List.length_set, h.len], fun e he => by
    rcases List.mem_or_eq_of_mem_set he with h1 | rfl
    · exact h.lt e h1
    · exact new_set h hr⟩
theorem le_or (a b : Nat) : a ≤ a ||| b := Nat.left_le_or
theorem sum_set {l : List Nat} {k v : Nat} (hk : k < l.length) (h : nth l k ≤ v) : l.sum ≤ (l.set k v).sum ∧ ((l.set k v).sum = l.sum → l.set k v = l) := by
  induction l generalizing k with
  | nil => simp at hk
  | cons x l ih =>
    cases k with
    | zero =>
      have h : x ≤ v := h
      simp only [List.set_cons_zero, List.sum_cons]
      exact ⟨by omega, fun e => by rw [show v = x by omega]⟩
    | succ k =>
      obtain ⟨h1, h2⟩ := ih (k := k) (by simpa using hk) h
      simp only [List.set_cons_succ, List.sum_cons]
      exact ⟨by omega, fun e => by rw [h2 (by omega)]⟩
theorem step_grow {out : List Nat} (h : Sets out) {r : Rul} (hr : r.nxt.toNat < 8) : out.sum ≤ (stepR out r).sum ∧ ((stepR out r).sum = out.sum → stepR out r = out) :=
  sum_set (by rw [h.len]; exact hr) (le_or _ _)
theorem fold_grow : ∀ (l : List Rul) (out : List Nat), Sets out → (∀ r ∈ l, r.fst.toNat < 8 ∧ r.nxt.toNat < 8) → Sets (l.foldl stepR out) ∧ out.sum ≤ (l.foldl stepR out).sum ∧ ((l.foldl stepR out).sum = out.sum → l.foldl stepR out = out)
  | [], out, h, _ => ⟨h, Nat.le_refl _, fun _ => rfl⟩
  | r :: l, out, h, hl => by
    have hr := hl r List.mem_cons_self
    obtain ⟨a1, a2⟩ := step_grow h hr.2
    obtain ⟨b1, b2, b3⟩ := fold_grow l (stepR out r) (sets_step h hr.1) fun x hx => hl x (List.mem_cons_of_mem _ hx)
    rw [List.foldl_cons]
    refine ⟨b1, by omega, fun e => ?_⟩
    have e1 := a2 (by omega)
    rw [e1] at b3 e ⊢
    exact b3 e
theorem ruled8 {f : Flr} (h : f.Ruled) : ∀ r ∈ f.rules, r.fst.toNat < 8 ∧ r.nxt.toNat < 8 := fun r hr => by
  have := h.2 r hr; have := h.1; omega
theorem sets_sum {out : List Nat} (h : Sets out) : out.sum ≤ 2040 := by
  have : ∀ l : List Nat, (∀ e ∈ l, e < 256) → l.sum ≤ 255 * l.length := fun l => by
    induction l with
    | nil => intro _; simp
    | cons x l ih => intro hl; have := ih fun e he => hl e (List.mem_cons_of_mem _ he); have := hl x List.mem_cons_self; simp only [List.sum_cons, List.length_cons]; omega
  have := this out h.lt
  rw [h.len] at this; omega
theorem iter_next {f : Flr} (hf : f.Ruled) {n : Nat} {out : List Nat} (h : Sets out) (hn : 2040 < n + out.sum) (hne : roundR f out ≠ out) : ∃ m, n = m + 1 ∧ iterR f n out = iterR f m (roundR f out) ∧ Sets (roundR f out) ∧ 2040 < m + (roundR f out).sum := by
  obtain ⟨a, b, c⟩ := fold_grow f.rules out h (ruled8 hf)
  have hs := sets_sum h
  have hlt : out.sum < (roundR f out).sum := Nat.lt_of_le_of_ne b fun e => hne (c e.symm)
  obtain ⟨m, rfl⟩ : ∃ m, n = m + 1 := ⟨n - 1, by omega⟩
  exact ⟨m, rfl, by rw [iterR, if_neg hne], a, by omega⟩
theorem iter_end {f : Flr} {n : Nat} {out : List Nat} (h : Sets out) (hn : 2040 < n + out.sum) (he : roundR f out = out) : iterR f n out = out := by
  cases n with
  | zero => have := sets_sum h; omega
  | succ n => rw [iterR, if_pos he]
theorem sets_start : Sets (List.replicate 8 0) := ⟨rfl, by decide⟩
end Go.Proofs.YtifgbnbkimcchaaGreat

namespace Go.Proofs.YtifgbnbkimcchaaGreat
open Go Go.T Go.RowKit
theorem und110 : Tryz.prog.underlying 110 = some (.array 8 3) := by kernel_rfl
theorem eqv110 (a0 a1 a2 a3 a4 a5 a6 a7 b0 b1 b2 b3 b4 b5 b6 b7 : Int) (w : World) : (Op.equal 110 (.agg #[.int .i64 a0, .int .i64 a1, .int .i64 a2, .int .i64 a3, .int .i64 a4, .int .i64 a5, .int .i64 a6, .int .i64 a7]) (.agg #[.int .i64 b0, .int .i64 b1, .int .i64 b2, .int .i64 b3, .int .i64 b4, .int .i64 b5, .int .i64 b6, .int .i64 b7])).run Tryz.prog w = .ok ((decide (a0 = b0) && (decide (a1 = b1) && (decide (a2 = b2) && (decide (a3 = b3) && (decide (a4 = b4) && (decide (a5 = b5) && (decide (a6 = b6) && decide (a7 = b7))))))))) w := by
  have hs : Tryz.prog.stoodInHeld 110 = false := by kernel_rfl
  have e3 : ∀ (x y : Int) (w : World), (Op.equalIn 9999 3 (.int .i64 x) (.int .i64 y)).run Tryz.prog w = .ok (decide (x = y)) w := fun x y w => eqIn_int 9998 Tryz.underlying3
  have g3 : ∀ w, (isAgg 3).run Tryz.prog w = .ok false w := fun w => by simp [isAgg, run_underlying Tryz.underlying3]
  unfold Op.equal Op.maxDepth
  rw [Op.equalIn]
  simp only [Sem.run_bind, run_underlying und110, Result.andThen_ok]
  simp [hs, part, g3, e3]
  rw [show List.range' 0 8 = [0, 1, 2, 3, 4, 5, 6, 7] from rfl]
  simp [List.forIn_cons, g3, e3]
  by_cases h0 : a0 = b0
  case neg => simp [h0]
  rw [if_pos h0]
  by_cases h1 : a1 = b1
  case neg => simp [h1]
  rw [if_pos h1]
  by_cases h2 : a2 = b2
  case neg => simp [h2]
  rw [if_pos h2]
  by_cases h3 : a3 = b3
  case neg => simp [h3]
  rw [if_pos h3]
  by_cases h4 : a4 = b4
  case neg => simp [h4]
  rw [if_pos h4]
  by_cases h5 : a5 = b5
  case neg => simp [h5]
  rw [if_pos h5]
  by_cases h6 : a6 = b6
  case neg => simp [h6]
  rw [if_pos h6]
  by_cases h7 : a7 = b7
  case neg => simp [h7]
  rw [if_pos h7]
  simp [h0, h1, h2, h3, h4, h5, h6, h7]
theorem eqn110 (xs ys : List Nat) (hx : xs.length = 8) (hy : ys.length = 8) : EqT Tryz.prog 110 (xs.flatMap N64.tys) (ys.flatMap N64.tys) (decide (xs = ys)) := by
  match xs, hx with
  | [a0, a1, a2, a3, a4, a5, a6, a7], _ =>
    match ys, hy with
    | [b0, b1, b2, b3, b4, b5, b6, b7], _ =>
      refine ⟨by kernel_rfl, fun w M cs ds h1 h2 => ?_⟩
      obtain ⟨cs⟩ := cs
      obtain ⟨ds⟩ := ds
      match cs, ds, h1, h2 with
      | [ua0, ua1, ua2, ua3, ua4, ua5, ua6, ua7], [vb0, vb1, vb2, vb3, vb4, vb5, vb6, vb7], h1, h2 =>
        change dens w M [Ty.int .i64 a0, Ty.int .i64 a1, Ty.int .i64 a2, Ty.int .i64 a3, Ty.int .i64 a4, Ty.int .i64 a5, Ty.int .i64 a6, Ty.int .i64 a7] _ at h1
        change dens w M [Ty.int .i64 b0, Ty.int .i64 b1, Ty.int .i64 b2, Ty.int .i64 b3, Ty.int .i64 b4, Ty.int .i64 b5, Ty.int .i64 b6, Ty.int .i64 b7] _ at h2
        simp only [dens, Ty.int, dInt, and_true] at h1 h2
        obtain ⟨rfl, rfl, rfl, rfl, rfl, rfl, rfl, rfl⟩ := h1
        obtain ⟨rfl, rfl, rfl, rfl, rfl, rfl, rfl, rfl⟩ := h2
        rw [eqv110]
        congr 1
        simp only [List.cons.injEq, and_true, Bool.decide_and, Int.natCast_inj]
end Go.Proofs.YtifgbnbkimcchaaGreat

namespace Go.T
open Go Go.RowKit
section
variable {P : Program} {fr : Fr} {ops : Array Oper} {A : As} {rest : List Oper} {K : As → List (As × Fx) → Prop} {d : Nat} {t ty' ty2 : TypeId} {p : String} {e : Array Edge} [T : Tab P]
variable {α : Type} [Inhabited α] {E : El α} {xs ys : List α} {x y : Operand} {tg i o s Tb : Nat} {ti : TI} {ty : Ty} {z : α}
theorem r_load_vecN (hx : A.op fr x = .ptr tg 0) (hc : A.tag tg = some (.vec E Tb xs)) (h1 : 1 ≤ tg) (hT : T.tab[ty']? = some ti) (ha : ti.k.agg = true) (hsz : xs.length * E.size = ti.size) (hne : xs ≠ [])
    (h : TOps P fr ops rest (A.set d (.arr E xs)) fun A' l' => K A' ((A, { d := some d, ty := .arr E xs, rs := opR x, rt := [tg] }) :: l')) : TOps P fr ops (⟨some d, .load ty' x, t, p, e, none⟩ :: rest) A K :=
  tops_pure (opT_pure rfl rfl fun a w M wf hr ht => by
    have _ := (inferInstance : Inhabited α)
    have := op_den (x := x) (fun _ h => h) hr
    rw [hx] at this
    obtain ⟨b, hb, e⟩ := this
    rcases vec_den hc w M ht with h0 | ⟨b', cs, hb', hh, hd⟩
    · exact absurd h0 hne
    obtain ⟨u, rfl⟩ : ∃ u, tg = u + 1 := ⟨tg - 1, by omega⟩
    have := wf.inj b b' u hb hb'
    subst this
    have hlen := dens_len hd
    rw [flat_len] at hlen hd
    refine ⟨.agg (cs.toList.take (xs.length * E.size)).toArray, ?_, _, rfl, by simpa using hd⟩
    have := run_loadN (P := P) hT ha (w := w) (b := b) (off := 0) (cs := cs.toList.take (xs.length * E.size)) (by rw [hlen, hsz]) (fun j v hj => by
      rw [List.getElem?_take] at hj
      split at hj
      · simpa [World.cell?, hh] using hj
      · cases hj)
    simp [execOp, e, this]) h
theorem r_indexa {n j : Nat} {k : IntKind} {te : TI} {el : Nat} (hx : A.op fr x = .arr E xs) (hy : A.op fr y = .int k j) (hT : T.tab[ty']? = some ti) (hk : ti.k = .array n el) (hE : T.tab[el]? = some te) (ha : te.k.agg = false) (hs : te.size = E.size) (h1 : j < n) (hi : j < xs.length) (hl : (E.tys (nth xs j))[0]? = some ty)
    (h : TOps P fr ops rest (A.set d ty) fun A' l' => K A' ((A, { d := some d, ty := ty, rs := opR x ++ opR y }) :: l')) : TOps P fr ops (⟨some d, .index ty' x y, t, p, e, none⟩ :: rest) A K :=
  tops_pure (opT_pure rfl rfl fun a w M _ hr _ => by
    obtain ⟨hdx, hdy⟩ := op2 hr
    rw [hx] at hdx; rw [hy] at hdy
    obtain ⟨cs, ex, hd⟩ := hdx
    have ey : a.eval y = .int k j := hdy
    obtain ⟨v, hv, hdv⟩ := dens_get hd (j * te.size) ty (by have := flat_elem E xs hi 0 ty hl; rwa [Nat.add_zero, ← hs] at this)
    obtain ⟨_, D, _, hD, hkd, _⟩ := tab_info hT
    rw [hk] at hkd
    cases D <;> simp only [TK.of, reduceCtorEq, TK.array.injEq] at hkd
    obtain ⟨e1, e2⟩ := hkd
    subst e1; subst e2
    have hv' : cs[j * te.size]? = some v := by simpa using hv
    exact ⟨v, by simp [execOp, Instr.index, asIntOf, ex, ey, run_underlying hD, run_sizeOf' hE, part, run_isAgg' hE, ha, hv', h1], hdv⟩) h
omit T in
theorem r_eqla {c : Bool} (hE : EqT P ty' (xs.flatMap E.tys) (ys.flatMap E.tys) c) (hx : A.op fr x = .arr E xs) (hy : A.op fr y = .arr E ys)
    (h : TOps P fr ops rest (A.set d (.bool c)) fun A' l' => K A' ((A, { d := some d, ty := .bool c, rs := opR x ++ opR y }) :: l')) : TOps P fr ops (⟨some d, .binOp .eql ty' x y ty2, t, p, e, none⟩ :: rest) A K :=
  tops_pure (opT_pure rfl rfl fun a w M _ hrd _ => by
    have _ := (inferInstance : Inhabited α)
    obtain ⟨hdx, hdy⟩ := op2 hrd
    rw [hx] at hdx; rw [hy] at hdy
    obtain ⟨cs, ex, h1⟩ := hdx
    obtain ⟨ds, ey, h2⟩ := hdy
    exact ⟨.bool c, by simp only [execOp, ex, ey]; simp [eqGuard, hE.1, binOp, hE.2 w M cs ds h1 h2], rfl⟩) h
theorem r_store_arr {l : List Ty} (hx : A.op fr x = .ptr tg 0) (hc : A.tag tg = some (.cells Tb l)) (h1 : 1 ≤ tg) (hT : T.tab[ty']? = some ti) (hy : A.op fr y = .arr E xs) (hsz : xs.length * E.size = ti.size) (hlen : l.length = ti.size)
    (h : TOps P fr ops rest (A.after { d := none, S := [tg], sets := [(tg, .vec E Tb xs)], rs := opR x ++ opR y, rt := [tg] }) fun A' l'' => K A' ((A, { d := none, S := [tg], sets := [(tg, .vec E Tb xs)], rs := opR x ++ opR y, rt := [tg] }) :: l'')) :
    TOps P fr ops (⟨none, .store ty' x y, t, p, e, none⟩ :: rest) A K := by
  have _ := (inferInstance : Inhabited α)
  refine ⟨_, opT_unit rfl rfl rfl (by simp) (by simpa using h1) (by simp) fun a w M wf hr ht => ?_, h⟩
  obtain ⟨hdx, hdy⟩ := op2 hr
  rw [hx] at hdx; rw [hy] at hdy
  obtain ⟨b, hb, ex⟩ := hdx
  obtain ⟨vs, ey, hvs⟩ := hdy
  obtain ⟨b', cs, hb', hh, hd⟩ := ht _ (tag_mem hc) (by simp)
  obtain ⟨u, rfl⟩ : ∃ u, tg = u + 1 := ⟨tg - 1, by omega⟩
  have := wf.inj b b' u hb hb'
  subst this
  have hl1 := dens_len hd
  have hl2 := dens_len hvs
  rw [flat_len] at hl2
  obtain ⟨h1', h2', h3'⟩ := store_le (cs' := vs) (Tb := Tb) wf hb _ rfl
  have hones : ∀ v ∈ vs.toList, v.oneCell' = true := dens_ones hvs (flat_ones E xs)
  refine ⟨_, ?_, M, h1', h2', trivial, ?_⟩
  · have hst := run_storeCells_all (P := P) (w := w) (b := b) (Tb := Tb) vs.toList [] cs hh (by simp at hl1 hl2 ⊢; omega) (by simp) hones
    have hsz' : vs.size = ti.size := by simp at hl2; omega
    simp only [List.length_nil, List.nil_append] at hst
    simp [execOp, Instr.storeAt, Instr.sureAddr, ex, ey, storeVar, Value.cells, run_sizeOf' hT, hsz', hst]
  · intro z hz
    simp only [List.mem_singleton] at hz
    subst hz
    exact dVec_of ⟨b, vs, hb, h3', dens_mono h2' (by intro _ _ h; cases h) (by rw [E.flat_cdeps]; intro _ h; cases h) hvs⟩
end
section
variable {P : Program} {A : As} {fn : Func} {n : Nat} {w0 : World} {M0 : Tags} [T : Tab P]
theorem i_rcella {α : Type} {E : El α} {xs : List α} {tm ty tg Tb : Nat} {ti : TI} (hr : fn.results = #[.cell tm ty]) (ht : Nat.blt tm n = true) (hx : A.slots tm = .ptr tg 0) (hc : A.tag tg = some (.vec E Tb xs)) (h1 : 1 ≤ tg) (hT : T.tab[ty]? = some ti) (ha : ti.k.agg = true) (hsz : xs.length * E.size = ti.size) (hne : xs ≠ []) :
    Into ⟨n, w0, M0, [], .plain⟩ A (bodyPost P fn (retPost w0 M0 (.arr E xs)) .ret) := by
  intro a w ⟨M, ok, hsl, htg⟩
  have hd := hsl tm (by simpa using ht)
  rw [hx] at hd
  obtain ⟨b, hb, e⟩ := hd
  have hv : dVec E Tb xs w M tg := htg _ (tag_mem hc)
  rcases hv with h0 | ⟨b', cs, hb', hh, hds⟩
  · exact absurd h0 hne
  obtain ⟨u, rfl⟩ : ∃ u, tg = u + 1 := ⟨tg - 1, by omega⟩
  have := ok.wf.inj b b' u hb hb'
  subst this
  have hlen := dens_len hds
  rw [flat_len] at hlen hds
  have hload := run_loadN (P := P) hT ha (w := w) (b := b) (off := 0) (cs := cs.toList.take (xs.length * E.size)) (by rw [hlen, hsz]) (fun j v hj => by
    rw [List.getElem?_take] at hj
    split at hj
    · simpa [World.cell?, hh] using hj
    · cases hj)
  have hload' : (loadVar ty ⟨b, 0, none⟩).run P w = .ok (.agg (cs.toList.take (xs.length * E.size)).toArray) w := by simpa [Instr.loadAt, Instr.sureAddr] using hload
  refine ⟨ok.nodefers (by simp), .agg (cs.toList.take (xs.length * E.size)).toArray, ?_, _, pubM M, rfl, pubM_wf ok.wf, base_pub (fr := ⟨n, w0, M0, [], .plain⟩) (fun _ h => h) ok.base, (ret_refl rfl rfl : RetSub (Ty.arr E xs) (Ty.arr E xs)) _ _ _ ok.wf ⟨_, rfl, by simpa using hds⟩⟩
  have e' : a.tmps.getD tm undef = .pointer (some ⟨b, 0, none⟩) := e
  have e'' : a.tmps[tm]?.getD undef = .pointer (some ⟨b, 0, none⟩) := by rw [← Array.getD_eq_getD_getElem?]; exact e'
  simp [results, hr, e'', asAddr, hload']
end
section
variable {P : Program} {fr : Fr} {ops : Array Oper} {A : As} {rest : List Oper} {K : As → List (As × Fx) → Prop} {d : Nat} {t ty' ty2 : TypeId} {p : String} {e : Array Edge} {x y : Operand}
theorem r_shlI {a : Nat} {b : Int} (hx : A.op fr x = .int .i64 (a : Nat)) (hy : A.op fr y = .int .i64 b) (h0 : 0 ≤ b) (h1 : b ≤ 63) (h2 : a <<< b.toNat < 9223372036854775808)
    (h : TOps P fr ops rest (A.set d (.int .i64 ((a <<< b.toNat : Nat) : Int))) fun A' l' => K A' ((A, { d := some d, ty := .int .i64 ((a <<< b.toNat : Nat) : Int), rs := opR x ++ opR y }) :: l')) : TOps P fr ops (⟨some d, .binOp .shl ty' x y ty2, t, p, e, none⟩ :: rest) A K :=
  r_shlN (b := b.toNat) hx (by rw [hy, Int.toNat_of_nonneg h0]) (by omega) h2 h
end
end Go.T

namespace Go.T
open Go Go.RowKit
structure Re (ρ : List (Nat × Nat)) (M M' : Tags) : Prop where
  none : ∀ b, M b = none → M' b = none
  some : ∀ x ∈ ρ, ∀ b, M b = some x.1 → M' b = some x.2
def Conv (ρ : List (Nat × Nat)) (s t : Ty) : Prop := ∀ w M M' v, Wf w M → Wf w M' → Re ρ M M' → s.den w M v → t.den w M' v
def Convs (ρ : List (Nat × Nat)) : List Ty → List Ty → Prop
  | [], [] => True
  | s :: ss, t :: ts => Conv ρ s t ∧ Convs ρ ss ts
  | _, _ => False
theorem cv_nil {ρ : List (Nat × Nat)} : Convs ρ [] [] := trivial
theorem cv_cons {ρ : List (Nat × Nat)} {s t : Ty} {ss ts : List Ty} (h' : Convs ρ ss ts) (h : Conv ρ s t) : Convs ρ (s :: ss) (t :: ts) := ⟨h, h'⟩
theorem convs_dens {ρ : List (Nat × Nat)} {w : World} {M M' : Tags} (wf : Wf w M) (wf' : Wf w M') (hre : Re ρ M M') : ∀ {ss ts : List Ty} {vs : List Value}, Convs ρ ss ts → dens w M ss vs → dens w M' ts vs
  | [], [], [], _, _ => trivial
  | _ :: _, _ :: _, _ :: _, ⟨h, h'⟩, ⟨h1, h2⟩ => ⟨h _ _ _ _ wf wf' hre h1, convs_dens wf wf' hre h' h2⟩
theorem convs_get {ρ : List (Nat × Nat)} : ∀ {ss ts : List Ty}, Convs ρ ss ts → ∀ (i : Nat) (t : Ty), ts[i]? = some t → ∃ s, ss[i]? = some s ∧ Conv ρ s t
  | [], [], _, i, t, h => by simp at h
  | s :: ss, u :: ts, ⟨h, h'⟩, i, t, ht => by
    cases i with
    | zero => simp at ht; subst ht; exact ⟨s, by simp, h⟩
    | succ i => simp at ht; obtain ⟨x, hx, hc⟩ := convs_get h' i t ht; exact ⟨x, by simpa using hx, hc⟩
theorem cv_pub {ρ : List (Nat × Nat)} {t : Ty} (h1 : t.deps = []) (h2 : t.cdeps = []) : Conv ρ t t := fun w M M' v _ _ hre h =>
  t.mono (S := fun _ => True) (K := fun _ => True) ⟨Nat.le_refl _, rfl, rfl, rfl, fun b _ hm => ⟨hre.none b hm, rfl⟩, fun b t _ h => absurd trivial h⟩ (by rw [h1]; intro _ h; cases h) (by rw [h2]; intro _ h; cases h) h
theorem cv_eq {ρ : List (Nat × Nat)} {s t : Ty} (h1 : t.deps = []) (h2 : t.cdeps = []) (h : s = t) : Conv ρ s t := by subst h; exact cv_pub h1 h2
theorem cv_ptr {ρ : List (Nat × Nat)} {a b off : Nat} (h : (a, b) ∈ ρ) : Conv ρ (.ptr a off) (.ptr b off) := fun _ _ _ _ _ _ hre ⟨k, hk, e⟩ => ⟨k, hre.some _ h k hk, e⟩
theorem cv_nilsl {ρ : List (Nat × Nat)} {α : Type} {E : El α} : Conv ρ (.ex (.slice none 0 0)) (.sl E ([] : List α)) := fun _ _ _ _ _ _ _ h => Ty.nil_sl _ _ _ h
theorem cv_clo {ρ : List (Nat × Nat)} {f : FuncId} {l l' : List Ty} (h : Convs ρ l l') : Conv ρ (.clo f l) (.clo f l') := fun _ _ _ _ wf wf' hre ⟨cs, e, hd⟩ => ⟨cs, e, convs_dens wf wf' hre h hd⟩
theorem cv_pp {ρ : List (Nat × Nat)} {l l' : List Ty} (h : Convs ρ l l') : Conv ρ (.pp l) (.pp l') := fun _ _ _ _ wf wf' hre ⟨b, off, e, hm, hlt, hd⟩ =>
  ⟨b, off, e, hre.none b hm, hlt, fun i t ht => let ⟨s, hs, hc⟩ := convs_get h i t ht; let ⟨v, hv, hdv⟩ := hd i s hs; ⟨v, hv, hc _ _ _ _ wf wf' hre hdv⟩⟩
def ConvC (ρ : List (Nat × Nat)) (a : Nat) (C : Cont) (b : Nat) (D : Cont) : Prop := ∀ w M M', Wf w M → Wf w M' → Re ρ M M' → C.den w M a → D.den w M' b
theorem cc_cells {ρ : List (Nat × Nat)} {a b T : Nat} {l l' : List Ty} (h : (a, b) ∈ ρ) (hc : Convs ρ l l') : ConvC ρ a (.cells T l) b (.cells T l') := fun _ _ _ wf wf' hre ⟨k, cs, h1, h2, h3⟩ =>
  ⟨k, cs, hre.some _ h k h1, h2, convs_dens wf wf' hre hc h3⟩
theorem conv_nodeps {w : World} {M M' : Tags} (hre : ∀ b, M b = none → M' b = none) {l : List Ty} {vs : List Value} (h1 : depsOf l = []) (h2 : cdepsOf l = []) (h : dens w M l vs) : dens w M' l vs :=
  dens_mono (S := fun _ => True) (K := fun _ => True) ⟨Nat.le_refl _, rfl, rfl, rfl, fun b _ hm => ⟨hre b hm, rfl⟩, fun b t _ h => absurd trivial h⟩ (by rw [h1]; intro _ h; cases h) (by rw [h2]; intro _ h; cases h) h
theorem cc_vec {ρ : List (Nat × Nat)} {a b T : Nat} {α : Type} {E : El α} {xs ys : List α} (h : (a, b) ∈ ρ) (e : xs = ys) : ConvC ρ a (.vec E T xs) b (.vec E T ys) := fun _ _ _ _ _ hre hd => by
  subst e
  exact hd.imp id fun ⟨k, cs, h1, h2, h3⟩ => ⟨k, cs, hre.some _ h k h1, h2, conv_nodeps hre.none (E.flat_deps _) (E.flat_cdeps _) h3⟩
def ConvCs (ρ : List (Nat × Nat)) (src : List (Nat × Cont)) : List (Nat × Cont) → Prop
  | [] => True
  | (b, D) :: r => (∃ a C, (a, C) ∈ src ∧ ConvC ρ a C b D) ∧ ConvCs ρ src r
def keepPost (F : List Nat) (post : List (Nat × Cont)) (w0 : World) (M0 : Tags) (res : Ty) (e : Ending) (w' : World) : Prop :=
  ∃ r M', e = .returned r ∧ Wf w' M' ∧ Le (fun t => 1 ≤ t) (fun t => 1 ≤ t ∧ t ∉ F) w0 M0 w' M' ∧ res.den w' M' r ∧ ∀ x ∈ post, x.2.den w' M' x.1
def CtrG (P : Program) (f : FuncId) (F : List Nat) (pre : List (Nat × Cont)) (args : List Ty) (post : List (Nat × Cont)) (res : Ty) : Prop :=
  (∃ fn, P.funcs[f]? = some fn ∧ (fn.name == "runtime.NumGoroutine") = false ∧ fn.body.isNone = false) ∧
  ∀ w M vs, Wf w M → dens w M args vs → (∀ x ∈ pre, x.2.den w M x.1) → Calls P f vs.toArray w (keepPost F post w M res)
section
variable {P : Program} {fr : Fr} {ops : Array Oper} {A : As} {rest : List Oper} {K : As → List (As × Fx) → Prop} {d : Nat} {t ty' : TypeId} {p : String} {e : Array Edge}
def entryG (args : List Ty) (pre : List (Nat × Cont)) : As := ⟨fun c => (args[c]?).getD Ty.any, pre⟩
theorem fnG_intro {f : FuncId} {fn : Func} {c : Code} {F : List Nat} {pre post : List (Nat × Cont)} {args : List Ty} {res : Ty} {n : Nat} (hf : P.funcs[f]? = some fn) (hb : fn.body = some c) (hn : (fn.name == "runtime.NumGoroutine") = false) (hnt : fn.ntmps = n) (hl : args.length ≤ n)
    (h : ∀ w0 M0, Tri P ⟨n, w0, M0, F, .plain⟩ c (entryG args pre) (bodyPost P fn (keepPost F post w0 M0 res))) : CtrG P f F pre args post res := by
  refine ⟨⟨fn, hf, hn, by rw [hb]; rfl⟩, fun w M vs wf hd hpre => calls_of_wp hf hb (wpIn_wide.1 (h w M _ _ ?_))⟩
  have hlen := dens_len hd
  refine ⟨M, ⟨wf, Le.refl _ _ _ _, by simp [hnt, hlen]; omega, Defs.nil⟩, fun c hc => ?_, hpre⟩
  simp only [entryG]
  cases ha : args[c]? with
  | none => trivial
  | some ty =>
    obtain ⟨v, hv, hdv⟩ := dens_get hd c ty ha
    have : (vs.toArray ++ Array.replicate (fn.ntmps - vs.toArray.size) undef).getD c undef = v := by
      have hlt : c < vs.length := (List.getElem?_eq_some_iff.1 hv).1
      rw [Array.getD_eq_getD_getElem?, Array.getElem?_append_left (by simpa using hlt)]
      simp [hv]
    rw [this]; exact hdv
def pubG (L : List Nat) (M : Tags) : Tags := fun b => match M b with | none => none | some t => if t = 0 ∨ t ∈ L then some t else none
theorem pubG_none {L : List Nat} {M : Tags} {b : Nat} (h : M b = none) : pubG L M b = none := by simp [pubG, h]
theorem pubG_in {L : List Nat} {M : Tags} {b t : Nat} (h : M b = some t) (ht : t = 0 ∨ t ∈ L) : pubG L M b = some t := by simp [pubG, h, ht]
theorem pubG_out {L : List Nat} {M : Tags} {b t : Nat} (h : M b = some t) (h0 : 1 ≤ t) (ht : t ∉ L) : pubG L M b = none := by
  have : ¬ (t = 0 ∨ t ∈ L) := fun h => h.elim (by omega) ht
  simp [pubG, h, this]
theorem pubG_some {L : List Nat} {M : Tags} {b t : Nat} (h : pubG L M b = some t) : M b = some t := by
  unfold pubG at h
  split at h
  · cases h
  · rename_i u hu
    split at h
    · rw [← h]; exact hu
    · cases h
theorem pubG_wf {L : List Nat} {w : World} {M : Tags} (wf : Wf w M) : Wf w (pubG L M) :=
  ⟨fun b t h => wf.lt b t (pubG_some h), fun b b' t h h' => wf.inj b b' t (pubG_some h) (pubG_some h')⟩
def idRe (L : List Nat) : List (Nat × Nat) := L.map fun x => (x, x)
theorem pubG_re {L : List Nat} {M : Tags} : Re (idRe L) M (pubG L M) :=
  ⟨fun b h => pubG_none h, fun x hx b h => by
    obtain ⟨y, hy, rfl⟩ := List.mem_map.1 hx
    exact pubG_in h (.inr hy)⟩
def RetG (L : List Nat) (s t : Ty) : Prop := ∀ w M v, Wf w M → s.den w M v → t.den w (pubG L M) v
theorem rg_cv {L : List Nat} {s t : Ty} (h : Conv (idRe L) s t) : RetG L s t := fun w M v wf hs => h w M _ v wf (pubG_wf wf) pubG_re hs
theorem rg_row {L : List Nat} {α : Type} {E : El α} {T tg : Nat} {xs ys : List α} (h : 1 ≤ tg) (hL : L.contains tg = false) (e : xs = ys) : RetG L (Ty.row E T tg xs) (Ty.sl E ys) := fun w M v wf hr => by
  subst e
  exact row_sl wf hr (fun b hb => pubG_out hb h (by simpa using hL)) (fun b hb => pubG_none hb)
def RetCs (A : As) (L : List Nat) : List (Nat × Cont) → Prop
  | [] => True
  | (b, D) :: r => (∃ C, A.tag b = some C ∧ ConvC (idRe L) b C b D) ∧ RetCs A L r
theorem rc_nil {L : List Nat} : RetCs A L [] := trivial
theorem rc_cons {L : List Nat} {b : Nat} {C D : Cont} {r : List (Nat × Cont)} (h : A.tag b = some C) (hc : ConvC (idRe L) b C b D) (h' : RetCs A L r) : RetCs A L ((b, D) :: r) := ⟨⟨C, h, hc⟩, h'⟩
theorem rc_get {L : List Nat} {w : World} {M : Tags} (wf : Wf w M) (ht : ∀ x ∈ A.tags, x.2.den w M x.1) : ∀ {r : List (Nat × Cont)}, RetCs A L r → ∀ x ∈ r, x.2.den w (pubG L M) x.1
  | (b, D) :: r, ⟨⟨C, h, hc⟩, h'⟩, x, hx => by
    rcases List.mem_cons.1 hx with rfl | hx
    · exact hc w M _ wf (pubG_wf wf) pubG_re (ht _ (tag_mem h))
    · exact rc_get wf ht h' x hx
theorem base_pubG {L : List Nat} {fr : Fr} {w : World} {M : Tags} (hL : ∀ t ∈ fr.pass, t ∈ L) (hb : fr.base w M) : Le fr.kd.canS (fun t => 1 ≤ t ∧ t ∉ fr.pass) fr.w0 fr.M0 w (pubG L M) :=
  ⟨hb.size, hb.os, hb.tape, hb.out, fun b hlt hm => ⟨pubG_none (hb.pub b hlt hm).1, (hb.pub b hlt hm).2⟩, fun b t hm ht => by
    obtain ⟨h1, h2⟩ := hb.own b t hm ht
    refine ⟨pubG_in h1 ?_, fun hs => h2 hs⟩
    by_cases h0 : t = 0
    · exact .inl h0
    · refine .inr (hL t ?_)
      by_cases h : t ∈ fr.pass
      · exact h
      · exact absurd ⟨by omega, h⟩ ht⟩
section
variable {fn : Func} {n : Nat} {w0 : World} {M0 : Tags} {F : List Nat} {post : List (Nat × Cont)}
theorem g_ret0 (L : List Nat) (hr : fn.results = #[]) (hL : ∀ t ∈ F, t ∈ L) (hp : RetCs A L post) : Into ⟨n, w0, M0, F, .plain⟩ A (bodyPost P fn (keepPost F post w0 M0 (Ty.tup [])) .ret) := by
  intro a w ⟨M, ok, hsl, ht⟩
  exact ⟨ok.nodefers (by simp), _, results_none hr _ _ _, _, pubG L M, rfl, pubG_wf ok.wf, base_pubG hL ok.base, ⟨_, rfl, trivial⟩, rc_get ok.wf ht hp⟩
theorem g_ret1 (L : List Nat) {tm : Nat} {res : Ty} (hr : fn.results = #[.tmp tm]) (htm : Nat.blt tm n = true) (hL : ∀ t ∈ F, t ∈ L) (hp : RetCs A L post) (hs : RetG L (A.slots tm) res) : Into ⟨n, w0, M0, F, .plain⟩ A (bodyPost P fn (keepPost F post w0 M0 res) .ret) := by
  intro a w ⟨M, ok, hsl, ht⟩
  exact ⟨ok.nodefers (by simp), _, results_tmp hr _ _ _, _, pubG L M, rfl, pubG_wf ok.wf, base_pubG hL ok.base, hs _ _ _ ok.wf (hsl tm (by simpa using htm)), rc_get ok.wf ht hp⟩
end
theorem run_callFuncG {f : FuncId} {F : List Nat} {pre post : List (Nat × Cont)} {args : List Ty} {res : Ty} (hF : CtrG P f F pre args post res) (vs : Array Value) (w : World) : (callFunc f vs).run P w = .ok (.enter f vs) w := by
  obtain ⟨⟨fn, hf, hn, hb⟩, _⟩ := hF
  have hn' : fn.name ≠ "runtime.NumGoroutine" := by simpa using hn
  have hb' : fn.body ≠ none := fun h => by rw [h] at hb; cases hb
  simp [callFunc, hf, hn', hb']
def giveG (ρ : List (Nat × Nat)) (M : Tags) : Tags := fun b => match M b with | none => none | some t => some ((ρ.lookup t).getD 0)
def reOk (ρ : List (Nat × Nat)) : Bool := ρ.all fun x => Nat.ble 1 x.1 && (Nat.ble 1 x.2 && ρ.all fun y => (x.1 == y.1) == (x.2 == y.2))
theorem reOk_spec {ρ : List (Nat × Nat)} (h : reOk ρ = true) : ∀ x ∈ ρ, 1 ≤ x.1 ∧ 1 ≤ x.2 ∧ ∀ y ∈ ρ, (x.1 = y.1 ↔ x.2 = y.2) := by
  intro x hx
  simp only [reOk, List.all_eq_true, Bool.and_eq_true, Nat.ble_eq, beq_iff_eq] at h
  obtain ⟨h1, h2, h3⟩ := h x hx
  refine ⟨h1, h2, fun y hy => ?_⟩
  have := h3 y hy
  rw [Bool.eq_iff_iff] at this
  simpa using this
theorem lookup_mem' {ρ : List (Nat × Nat)} {a b : Nat} (h : ρ.lookup a = some b) : (a, b) ∈ ρ := by
  induction ρ with
  | nil => cases h
  | cons x l ih =>
    obtain ⟨k, v⟩ := x
    rw [List.lookup_cons] at h
    by_cases e : a = k
    · subst e; simp at h; subst h; exact List.mem_cons_self
    · have : (a == k) = false := by simpa using e
      rw [this] at h; exact List.mem_cons_of_mem _ (ih h)
theorem mem_lookup' {ρ : List (Nat × Nat)} (h : reOk ρ = true) {a b : Nat} (hm : (a, b) ∈ ρ) : ρ.lookup a = some b := by
  cases hl : ρ.lookup a with
  | none =>
    exfalso
    induction ρ with
    | nil => cases hm
    | cons x l ih =>
      obtain ⟨k, v⟩ := x
      rw [List.lookup_cons] at hl
      by_cases e : a = k
      · subst e; simp at hl
      · have e' : (a == k) = false := by simpa using e
        rw [e'] at hl
        rcases List.mem_cons.1 hm with hm | hm
        · exact e (congrArg Prod.fst hm)
        · refine ih ?_ hm hl
          simp only [reOk, List.all_eq_true, List.mem_cons, forall_eq_or_imp, Bool.and_eq_true] at h ⊢
          exact fun x hx => ⟨(h.2 x hx).1, (h.2 x hx).2.1, (h.2 x hx).2.2.2⟩
  | some c =>
    have := ((reOk_spec h _ hm).2.2 _ (lookup_mem' hl)).1 rfl
    exact congrArg some this.symm
theorem giveG_some {ρ : List (Nat × Nat)} {M : Tags} {b g : Nat} (h : giveG ρ M b = some g) (h1 : 1 ≤ g) : ∃ t, M b = some t ∧ (t, g) ∈ ρ := by
  unfold giveG at h
  split at h
  · cases h
  · rename_i t ht
    cases hl : ρ.lookup t with
    | none => rw [hl] at h; injection h with h; simp at h; omega
    | some c => rw [hl] at h; injection h with h; simp at h; subst h; exact ⟨t, ht, lookup_mem' hl⟩
theorem giveG_none {ρ : List (Nat × Nat)} {M : Tags} {b : Nat} (h : M b = none) : giveG ρ M b = none := by simp [giveG, h]
theorem giveG_in {ρ : List (Nat × Nat)} (hr : reOk ρ = true) {M : Tags} {b t g : Nat} (h : M b = some t) (hm : (t, g) ∈ ρ) : giveG ρ M b = some g := by simp [giveG, h, mem_lookup' hr hm]
theorem giveG_out {ρ : List (Nat × Nat)} {M : Tags} {b t : Nat} (h : M b = some t) (hm : ρ.lookup t = none) : giveG ρ M b = some 0 := by simp [giveG, h, hm]
theorem giveG_wf {ρ : List (Nat × Nat)} (hr : reOk ρ = true) {w : World} {M : Tags} (wf : Wf w M) : Wf w (giveG ρ M) := by
  refine ⟨fun b t h => ?_, fun b b' t h h' => ?_⟩
  · cases hm : M b with
    | none => rw [giveG_none hm] at h; cases h
    | some u => exact wf.lt b u hm
  · obtain ⟨u, hu, m⟩ := giveG_some h (by omega)
    obtain ⟨u', hu', m'⟩ := giveG_some h' (by omega)
    have e : u = u' := ((reOk_spec hr _ m).2.2 _ m').2 rfl
    subst e
    obtain ⟨v, rfl⟩ : ∃ v, u = v + 1 := ⟨u - 1, by have := (reOk_spec hr _ m).1; omega⟩
    exact wf.inj b b' v hu hu'
theorem giveG_re {ρ : List (Nat × Nat)} (hr : reOk ρ = true) {M : Tags} : Re ρ M (giveG ρ M) := ⟨fun _ h => giveG_none h, fun _ hx _ h => giveG_in hr h hx⟩
def swapRe (ρ : List (Nat × Nat)) : List (Nat × Nat) := ρ.map fun x => (x.2, x.1)
theorem swap_ok {ρ : List (Nat × Nat)} (h : reOk ρ = true) : reOk (swapRe ρ) = true := by
  simp only [reOk, swapRe, List.all_eq_true, Bool.and_eq_true, List.mem_map] at h ⊢
  rintro _ ⟨x, hx, rfl⟩
  obtain ⟨h1, h2, h3⟩ := h x hx
  refine ⟨h2, h1, ?_⟩
  rintro _ ⟨y, hy, rfl⟩
  have := h3 y hy
  simp only [beq_iff_eq] at this ⊢
  exact this.symm
def backG (w : World) (ρ : List (Nat × Nat)) (mv : List Nat) (M M' : Tags) : Tags := fun b =>
  if b < w.heap.size ∧ (∀ t, M b = some t → t ∉ mv) then M b else (M' b).bind fun g => (swapRe ρ).lookup g
theorem callG_left {ρ : List (Nat × Nat)} {mv F : List Nat} {w w' : World} {M M' : Tags} (hr : reOk ρ = true) (hmv : ∀ x ∈ ρ, x.1 ∈ mv ∨ x.2 ∈ F) (hmr : ∀ t ∈ mv, ∃ g, (t, g) ∈ ρ) (wf : Wf w M) (wf' : Wf w' M') (le : Le (fun t => 1 ≤ t) (fun t => 1 ≤ t ∧ t ∉ F) w (giveG ρ M) w' M') :
    Wf w' (backG w ρ mv M M') ∧ Le (· ∈ ρ.map Prod.fst) (· ∈ mv) w M w' (backG w ρ mv M M') ∧ Re (swapRe ρ) M' (backG w ρ mv M M') := by
  have hsw := swap_ok hr
  have memsw : ∀ {t g : Nat}, (t, g) ∈ ρ → (g, t) ∈ swapRe ρ := fun h => List.mem_map.2 ⟨_, h, rfl⟩
  have memsw' : ∀ {t g : Nat}, (g, t) ∈ swapRe ρ → (t, g) ∈ ρ := fun h => by
    obtain ⟨⟨a, b⟩, hx, he⟩ := List.mem_map.1 h
    injection he with h1 h2
    subst h1; subst h2; exact hx
  -- an old block whose tag stays
  have old : ∀ b t, M b = some t → t ∉ mv → M' b = some ((ρ.lookup t).getD 0) := fun b t hm hn => by
    cases hl : ρ.lookup t with
    | none => exact (le.own b 0 (giveG_out hm hl) (by omega)).1
    | some g =>
      have hx := lookup_mem' hl
      have hg : g ∈ F := (hmv _ hx).resolve_left hn
      exact (le.own b g (giveG_in hr hm hx) (fun h => h.2 hg)).1
  have key : ∀ b, M' b = none → backG w ρ mv M M' b = none := fun b h => by
    unfold backG
    split
    · rename_i hc
      cases hm : M b with
      | none => rfl
      | some t => rw [old b t hm (hc.2 t hm)] at h; cases h
    · rw [h]; rfl
  have key2 : ∀ t g, (t, g) ∈ ρ → ∀ b, M' b = some g → backG w ρ mv M M' b = some t := fun t g hx b h => by
    have h1 := (reOk_spec hr _ hx)
    unfold backG
    split
    · rename_i hc
      cases hm : M b with
      | none =>
        have := (le.pub b hc.1 (giveG_none hm)).1
        rw [this] at h; cases h
      | some u =>
        have h2 := old b u hm (hc.2 u hm)
        rw [h2] at h
        injection h with h
        cases hl : ρ.lookup u with
        | none => rw [hl] at h; simp at h; omega
        | some c =>
          rw [hl] at h; simp at h; subst h
          have := (h1.2.2 _ (lookup_mem' hl)).2 rfl
          exact congrArg some this.symm
    · rw [h]; exact mem_lookup' hsw (memsw hx)
  refine ⟨⟨fun b t h => ?_, fun b b' t h h' => ?_⟩, ⟨le.size, le.os, le.tape, le.out, fun b hb hm => ?_, fun b t hm hk => ?_⟩, ⟨key, fun x hx b h => key2 _ _ (memsw' hx) b h⟩⟩
  · unfold backG at h
    split at h
    · rename_i hc; exact Nat.lt_of_lt_of_le hc.1 le.size
    · obtain ⟨g, hg, _⟩ := Option.bind_eq_some_iff.1 h
      exact wf'.lt b g hg
  · -- injective
    have part : ∀ b, backG w ρ mv M M' b = some (t + 1) → (M b = some (t + 1) ∧ t + 1 ∉ mv) ∨ ∃ g, (t + 1, g) ∈ ρ ∧ M' b = some g ∧ 1 ≤ g := fun b h => by
      unfold backG at h
      split at h
      · rename_i hc; exact .inl ⟨h, hc.2 _ h⟩
      · obtain ⟨g, hg, hl⟩ := Option.bind_eq_some_iff.1 h
        have hx := memsw' (lookup_mem' hl)
        exact .inr ⟨g, hx, hg, (reOk_spec hr _ hx).2.1⟩
    have both : ∀ b b' g, (t + 1, g) ∈ ρ → M' b = some g → 1 ≤ g → (M b' = some (t + 1) ∧ t + 1 ∉ mv) → b = b' := fun b b' g hx hg h1 ⟨hm, hn⟩ => by
      have h2 := old b' _ hm hn
      rw [mem_lookup' hr hx] at h2
      simp at h2
      obtain ⟨v, rfl⟩ : ∃ v, g = v + 1 := ⟨g - 1, by omega⟩
      exact wf'.inj b b' v hg h2
    rcases part b h with h1 | ⟨g, hx, hg, h1⟩ <;> rcases part b' h' with h2 | ⟨g', hx', hg', h2⟩
    · exact wf.inj b b' t h1.1 h2.1
    · exact (both b' b g' hx' hg' h2 h1).symm
    · exact both b b' g hx hg h1 h2
    · have : g = g' := ((reOk_spec hr _ hx).2.2 _ hx').1 rfl
      subst this
      obtain ⟨v, rfl⟩ : ∃ v, g = v + 1 := ⟨g - 1, by omega⟩
      exact wf'.inj b b' v hg hg'
  · obtain ⟨h1, h2⟩ := le.pub b hb (giveG_none hm)
    exact ⟨key b h1, h2⟩
  · have hb := wf.lt b t hm
    refine ⟨?_, fun hs => ?_⟩
    · unfold backG
      rw [if_pos ⟨hb, fun u hu => by rw [hm] at hu; injection hu with hu; exact hu ▸ hk⟩]; exact hm
    · have hl : ρ.lookup t = none := by
        cases hl : ρ.lookup t with
        | none => rfl
        | some c => exact absurd (List.mem_map.2 ⟨_, lookup_mem' hl, rfl⟩) hs
      exact (le.own b 0 (giveG_out hm hl) (by omega)).2 (by omega)
def gOk (fr : Fr) (ρ : List (Nat × Nat)) (mv F : List Nat) : Bool :=
  reOk ρ && (ρ.all (fun x => mv.contains x.1 || F.contains x.2) && mv.all fun t => Nat.ble 1 t && (!fr.pass.contains t && ρ.any fun x => x.1 == t))
def fxG (d : Option Nat) (res : Ty) (ρ : List (Nat × Nat)) (mv : List Nat) (sets : List (Nat × Cont)) (rs : List Nat) : Fx := { d := d, ty := res, S := ρ.map Prod.fst, K := mv, sets := sets, rs := rs, rt := ρ.map Prod.fst }
def PreCs (A : As) (ρ : List (Nat × Nat)) : List (Nat × Cont) → Prop
  | [] => True
  | (b, D) :: r => (∃ a C, (a, b) ∈ ρ ∧ A.tag a = some C ∧ ConvC ρ a C b D) ∧ PreCs A ρ r
theorem pre_nil {ρ : List (Nat × Nat)} : PreCs A ρ [] := trivial
theorem pre_cons {ρ : List (Nat × Nat)} {a b : Nat} {C D : Cont} {r : List (Nat × Cont)} (hm : (a, b) ∈ ρ) (h : A.tag a = some C) (hc : ConvC ρ a C b D) (h' : PreCs A ρ r) : PreCs A ρ ((b, D) :: r) := ⟨⟨a, C, hm, h, hc⟩, h'⟩
theorem pre_get {ρ : List (Nat × Nat)} {w : World} {M M' : Tags} (wf : Wf w M) (wf' : Wf w M') (hre : Re ρ M M') (ht : ∀ x ∈ A.tags, x.1 ∈ ρ.map Prod.fst → x.2.den w M x.1) : ∀ {r : List (Nat × Cont)}, PreCs A ρ r → ∀ x ∈ r, x.2.den w M' x.1
  | (b, D) :: r, ⟨⟨a, C, hm, h, hc⟩, h'⟩, x, hx => by
    rcases List.mem_cons.1 hx with rfl | hx
    · exact hc w M M' wf wf' hre (ht _ (tag_mem h) (List.mem_map.2 ⟨_, hm, rfl⟩))
    · exact pre_get wf wf' hre ht h' x hx
def PostCs (post : List (Nat × Cont)) (ρ : List (Nat × Nat)) : List (Nat × Cont) → Prop
  | [] => True
  | (a, D) :: r => (∃ b C, (a, b) ∈ ρ ∧ post.lookup b = some C ∧ ConvC (swapRe ρ) b C a D) ∧ PostCs post ρ r
theorem post_nil {ρ : List (Nat × Nat)} {post : List (Nat × Cont)} : PostCs post ρ [] := trivial
theorem post_cons {ρ : List (Nat × Nat)} {a b : Nat} {C D : Cont} {post r : List (Nat × Cont)} (hm : (a, b) ∈ ρ) (h : post.lookup b = some C) (hc : ConvC (swapRe ρ) b C a D) (h' : PostCs post ρ r) : PostCs post ρ ((a, D) :: r) := ⟨⟨b, C, hm, h, hc⟩, h'⟩
theorem post_get {ρ : List (Nat × Nat)} {post : List (Nat × Cont)} {w : World} {M M' : Tags} (wf : Wf w M) (wf' : Wf w M') (hre : Re (swapRe ρ) M M') (ht : ∀ x ∈ post, x.2.den w M x.1) : ∀ {r : List (Nat × Cont)}, PostCs post ρ r → ∀ x ∈ r, x.1 ∈ ρ.map Prod.fst ∧ x.2.den w M' x.1
  | (a, D) :: r, ⟨⟨b, C, hm, h, hc⟩, h'⟩, x, hx => by
    rcases List.mem_cons.1 hx with rfl | hx
    · exact ⟨List.mem_map.2 ⟨_, hm, rfl⟩, hc w M M' wf wf' hre (ht _ (tag_mem (A := ⟨fun _ => Ty.any, post⟩) h))⟩
    · exact post_get wf wf' hre ht h' x hx
theorem post_tags {ρ : List (Nat × Nat)} {post : List (Nat × Cont)} : ∀ {r : List (Nat × Cont)}, PostCs post ρ r → ∀ x ∈ r, x.1 ∈ ρ.map Prod.fst
  | (a, D) :: r, ⟨⟨b, C, hm, h, hc⟩, h'⟩, x, hx => by
    rcases List.mem_cons.1 hx with rfl | hx
    · exact List.mem_map.2 ⟨_, hm, rfl⟩
    · exact post_tags h' x hx
theorem opT_callG (ρ : List (Nat × Nat)) (mv : List Nat) {f : FuncId} {F : List Nat} {pre post sets : List (Nat × Cont)} {args ss : List Ty} {res res' : Ty} (hF : CtrG P f F pre args post res) {dst : Option Nat} {call : Call} {rs : List Nat}
    (hrun : ∀ (a : Act) w M, Wf w M → (∀ c ∈ rs, c < fr.n → (A.slots c).den w M (a.tmps.getD c undef)) → ∃ vs : List Value, (execOp a.eval ⟨dst, .call call, t, p, e, none⟩).run P w = .ok (.enter f vs.toArray) w ∧ dens w M ss vs)
    (hok : gOk fr ρ mv F = true) (ha : Convs ρ ss args) (hpre : PreCs A ρ pre) (hpost : PostCs post ρ sets) (hres : Conv (swapRe ρ) res res') :
    OpT P fr ops ⟨dst, .call call, t, p, e, none⟩ A (fxG dst res' ρ mv sets rs) := by
  simp only [gOk, Bool.and_eq_true] at hok
  obtain ⟨hr, hmv, hmr⟩ := hok
  simp only [List.all_eq_true, Bool.or_eq_true, List.contains_iff_mem] at hmv
  simp only [List.all_eq_true, Bool.and_eq_true, Nat.ble_eq, List.any_eq_true, beq_iff_eq, Bool.not_eq_true', ← Bool.not_eq_true, List.contains_iff_mem] at hmr
  refine ⟨rfl, fun x hx => .inl (post_tags hpost x hx), fun u hu => ?_, fun u hu => ⟨(hmr u hu).1, (hmr u hu).2.1⟩, fun a w M wf _ hrd htg => ?_⟩
  · obtain ⟨x, hx, rfl⟩ := List.mem_map.1 hu
    exact (reOk_spec hr x hx).1
  rw [if_pos (by simp [Region.wanted])]
  obtain ⟨vs, hrun, hd⟩ := hrun a w M wf hrd
  have wfg := giveG_wf hr wf
  have hc := hF.2 w _ vs wfg (convs_dens wf wfg (giveG_re hr) ha hd) (pre_get wf wfg (giveG_re hr) htg hpre)
  refine wp_in_enter hrun ?_
  refine hc.mono fun en w' ⟨r, M', he, wf', le, hden, hp⟩ => ?_
  obtain ⟨h1, h2, h3⟩ := callG_left (mv := mv) hr hmv (fun u hu => by obtain ⟨x, hx, e⟩ := (hmr u hu).2.2; exact ⟨x.2, by rw [← e]; exact hx⟩) wf wf' le
  exact ⟨r, he, r, rfl, _, h1, h2, hres _ _ _ _ wf' h1 h3 hden, fun x hx => (post_get wf' h1 h3 hp hpost x hx).2⟩
theorem run_call_hrun {f : FuncId} {F : List Nat} {pre post : List (Nat × Cont)} {args : List Ty} {res : Ty} (hF : CtrG P f F pre args post res) {dst : Option Nat} {xs : List Operand} {ats : Array TypeId} {ss : List Ty} (hx : opsTy A fr xs = ss) (a : Act) (w : World) (M : Tags) (_ : Wf w M)
    (hrd : ∀ c ∈ xs.flatMap opR, c < fr.n → (A.slots c).den w M (a.tmps.getD c undef)) : ∃ vs : List Value, (execOp a.eval ⟨dst, .call ⟨.value (.func f), xs.toArray, ats⟩, t, p, e, none⟩).run P w = .ok (.enter f vs.toArray) w ∧ dens w M ss vs := by
  refine ⟨xs.map a.eval, ?_, hx ▸ opsTy_dens hrd fun x hx c hc => List.mem_flatMap.2 ⟨x, hx, hc⟩⟩
  simp [execOp, resolve, Act.eval, Deferred.ofValue, invoke, run_callFuncG hF]
theorem r_callG (ρ : List (Nat × Nat)) (mv : List Nat) (sets : List (Nat × Cont)) {f : FuncId} {F : List Nat} {pre post : List (Nat × Cont)} {args ss : List Ty} {res res' : Ty} (hF : CtrG P f F pre args post res) {dst : Option Nat} {xs : List Operand} {ats : Array TypeId}
    (hx : opsTy A fr xs = ss) (hok : gOk fr ρ mv F = true) (ha : Convs ρ ss args) (hpre : PreCs A ρ pre) (hpost : PostCs post ρ sets) (hres : Conv (swapRe ρ) res res')
    (h : TOps P fr ops rest (A.after (fxG dst res' ρ mv sets (xs.flatMap opR))) fun A' l => K A' ((A, fxG dst res' ρ mv sets (xs.flatMap opR)) :: l)) : TOps P fr ops (⟨dst, .call ⟨.value (.func f), xs.toArray, ats⟩, t, p, e, none⟩ :: rest) A K :=
  ⟨_, opT_callG ρ mv hF (run_call_hrun hF hx) hok ha hpre hpost hres, h⟩
theorem run_callv_hrun {c : Nat} {f : FuncId} {F : List Nat} {pre post : List (Nat × Cont)} {args caps : List Ty} {res : Ty} (hc : A.op fr (.tmp c) = .clo f caps) (hF : CtrG P f F pre args post res) {dst : Option Nat} {xs : List Operand} {ats : Array TypeId} {ss : List Ty} (hx : opsTy A fr xs ++ caps = ss) (a : Act) (w : World) (M : Tags) (_ : Wf w M)
    (hrd : ∀ u ∈ c :: xs.flatMap opR, u < fr.n → (A.slots u).den w M (a.tmps.getD u undef)) : ∃ vs : List Value, (execOp a.eval ⟨dst, .call ⟨.value (.tmp c), xs.toArray, ats⟩, t, p, e, none⟩).run P w = .ok (.enter f vs.toArray) w ∧ dens w M ss vs := by
  have hcv := op_den (x := .tmp c) (fun u hu => by exact (List.mem_singleton.1 hu) ▸ List.mem_cons_self) hrd
  rw [hc] at hcv
  obtain ⟨cs, ec, hcs⟩ := hcv
  refine ⟨xs.map a.eval ++ cs.toList, ?_, hx ▸ dens_append (opsTy_dens hrd fun x hx c hc => List.mem_cons_of_mem _ (List.mem_flatMap.2 ⟨x, hx, hc⟩)) hcs⟩
  simp [execOp, resolve, ec, Deferred.ofValue, invoke, run_callFuncG hF]
theorem r_callvG (ρ : List (Nat × Nat)) (mv : List Nat) (sets : List (Nat × Cont)) {c : Nat} {f : FuncId} {F : List Nat} {pre post : List (Nat × Cont)} {args caps ss : List Ty} {res res' : Ty} (hc : A.op fr (.tmp c) = .clo f caps) (hF : CtrG P f F pre args post res) {dst : Option Nat} {xs : List Operand} {ats : Array TypeId}
    (hx : opsTy A fr xs ++ caps = ss) (hok : gOk fr ρ mv F = true) (ha : Convs ρ ss args) (hpre : PreCs A ρ pre) (hpost : PostCs post ρ sets) (hres : Conv (swapRe ρ) res res')
    (h : TOps P fr ops rest (A.after (fxG dst res' ρ mv sets (c :: xs.flatMap opR))) fun A' l => K A' ((A, fxG dst res' ρ mv sets (c :: xs.flatMap opR)) :: l)) : TOps P fr ops (⟨dst, .call ⟨.value (.tmp c), xs.toArray, ats⟩, t, p, e, none⟩ :: rest) A K :=
  ⟨_, opT_callG ρ mv hF (run_callv_hrun hc hF hx) hok ha hpre hpost hres, h⟩
end
end Go.T

namespace Go.T
open Go Go.RowKit
def mget {κ β : Type} [DecidableEq κ] : List (κ × β) → κ → Option β
  | [], _ => none
  | x :: l, k => if x.1 = k then some x.2 else mget l k
def mput {κ β : Type} [DecidableEq κ] : List (κ × β) → κ → β → List (κ × β)
  | [], k, v => [(k, v)]
  | x :: l, k, v => if x.1 = k then (k, v) :: l else x :: mput l k v
theorem mget_mput {κ β : Type} [DecidableEq κ] (l : List (κ × β)) (k : κ) (v : β) (k' : κ) : mget (mput l k v) k' = if k = k' then some v else mget l k' := by
  induction l with
  | nil => simp [mput, mget]
  | cons x l ih =>
    simp only [mput]
    by_cases h : x.1 = k
    · subst h; simp only [if_true, mget]; by_cases h2 : x.1 = k' <;> simp [h2]
    · rw [if_neg h]; simp only [mget, ih]
      by_cases h2 : x.1 = k'
      · subst h2; rw [if_pos rfl, if_pos rfl, if_neg (fun e => h e.symm)]
      · rw [if_neg h2, if_neg h2]
def mpos {κ β : Type} [DecidableEq κ] : List (κ × β) → κ → Option Nat
  | [], _ => none
  | x :: l, k => if x.1 = k then some 0 else (mpos l k).map (· + 1)
structure KeyK (P : Program) (kt : TypeId) (κ : Type) [DecidableEq κ] where
  enc : κ → Value
  find : ∀ (k : κ) (ks : List κ) (es : List MapEntry) (w : World), es.map (·.key) = ks.map enc →
    (Instr.findKey kt (enc k) es).run P w = .ok ((ks.findIdx? (fun x => decide (x = k))).bind fun i => (es[i]?).map fun e => (i, e.val)) w
  check : ∀ (b : Bool) (k : κ) (w : World), (Instr.checkKey b 10000 kt (enc k)).run P w = .ok () w
  same : ∀ k, Instr.sameBits 10000 (enc k) (enc k) = true
theorem findNow_int (kt : IntKind) (k : Int) : ∀ (ks : List Int) (es : List MapEntry) (i : Nat), es.map (·.key) = ks.map (Value.int kt) →
    Instr.findNow (.int kt) (.int kt k) es i = some ((ks.findIdx? (fun x => decide (x = k))).bind fun j => (es[j]?).map fun e => (i + j, e.val))
  | [], [], i, _ => rfl
  | [], e :: es, i, h => by cases h
  | x :: ks, [], i, h => by cases h
  | x :: ks, e :: es, i, h => by
    simp only [List.map_cons, List.cons.injEq] at h
    obtain ⟨h1, h2⟩ := h
    rw [Instr.findNow, h1]
    simp only [Instr.sameNow, if_true]
    by_cases hx : x = k
    · subst hx; simp [List.findIdx?_cons]
    · have hb : (k == x) = false := by rw [beq_eq_false_iff_ne]; exact fun e => hx e.symm
      rw [hb, findNow_int kt k ks es (i + 1) h2]
      simp only [List.findIdx?_cons, decide_eq_false hx, Bool.false_eq_true, if_false]
      cases (ks.findIdx? fun x => decide (x = k)) with
      | none => rfl
      | some j => simp [Nat.add_assoc, Nat.add_comm]; rw [show j + (i + 1) = i + (j + 1) from by omega]
theorem check_int {P : Program} (kt : TypeId) (q : IntKind) (h : P.underlying kt = some (.int q)) (b : Bool) (k : Int) (n : Nat) (w : World) : (Instr.checkKey b (n + 1) kt (.int q k)).run P w = .ok () w := by simp [Instr.checkKey, underlying, h]
theorem same_int (q : IntKind) (k : Int) (n : Nat) : Instr.sameBits n (.int q k) (.int q k) = true := by cases n <;> simp [Instr.sameBits]
def intKey (P : Program) (kt : TypeId) (q : IntKind) (h : P.underlying kt = some (.int q)) : KeyK P kt Int where
  enc := Value.int q
  find k ks es w he := by
    have := findNow_int q k ks es 0 he
    simp [Instr.findKey, underlying, h, this]
  check b k w := check_int kt q h b k 9999 w
  same k := same_int q k 10000
section
variable {κ β : Type} [DecidableEq κ]
def mapAt (enc : κ → Value) (vt : β → Ty) (kvs : List (κ × β)) (w : World) (M : Tags) (b : Nat) : Prop :=
  ∃ es clock, w.heap[b]? = some (.map es clock) ∧ es.toList.map (·.key) = kvs.map (fun x => enc x.1) ∧ dens w M (kvs.map fun x => vt x.2) (es.toList.map (·.val))
theorem mapAt_mono {enc : κ → Value} {vt : β → Ty} (hv : ∀ v, (vt v).deps = [] ∧ (vt v).cdeps = []) {kvs : List (κ × β)} {S K : Nat → Prop} {w w' : World} {M M' : Tags} {b : Nat} (le : Le S K w M w' M') (hb : w'.heap[b]? = w.heap[b]?) (h : mapAt enc vt kvs w M b) : mapAt enc vt kvs w' M' b := by
  have _ := (inferInstance : DecidableEq κ)
  obtain ⟨es, clock, h1, h2, h3⟩ := h
  refine ⟨es, clock, hb.trans h1, h2, dens_mono le (fun u hu => ?_) (fun u hu => ?_) h3⟩
  · simp only [depsOf, List.mem_flatMap, List.mem_map] at hu
    obtain ⟨t, ⟨x, _, rfl⟩, hu⟩ := hu
    rw [(hv x.2).1] at hu; cases hu
  · simp only [cdepsOf, List.mem_flatMap, List.mem_map] at hu
    obtain ⟨t, ⟨x, _, rfl⟩, hu⟩ := hu
    rw [(hv x.2).2] at hu; cases hu
structure VT (β : Type) where
  ty : β → Ty
  nodeps : ∀ v, (ty v).deps = [] ∧ (ty v).cdeps = []
def VI64 : VT Int := ⟨fun n => Ty.int .i64 n, fun _ => ⟨rfl, rfl⟩⟩
def VBool : VT Bool := ⟨fun b => Ty.bool b, fun _ => ⟨rfl, rfl⟩⟩
def dMap (enc : κ → Value) (V : VT β) (kvs : List (κ × β)) (w : World) (M : Tags) (t : Nat) : Prop := ∃ b, M b = some t ∧ mapAt enc V.ty kvs w M b
def Cont.mp (enc : κ → Value) (V : VT β) (kvs : List (κ × β)) : Cont :=
  { den := dMap enc V kvs
    mono := fun le _ _ hs hk ⟨b, h1, h2⟩ => let ⟨h3, h4⟩ := le.own b _ h1 hk; ⟨b, h3, mapAt_mono V.nodeps le (h4 hs) h2⟩ }
theorem Cont.sub_mp {enc : κ → Value} {V : VT β} {k1 k2 : List (κ × β)} (h : k1 = k2) : (Cont.mp enc V k1).Sub (Cont.mp enc V k2) := by subst h; exact Cont.sub_refl _
def dMp (tg : Nat) (_ : World) (M : Tags) (v : Value) : Prop := ∃ b, v = .map (some b) ∧ M b = some tg
def Ty.mp (tg : Nat) : Ty := ⟨dMp tg, [tg], [], fun le hk _ ⟨b, e, h⟩ => ⟨b, e, (le.own b tg h (hk tg (by simp))).1⟩, true, fun _ ⟨_, e, _⟩ => e ▸ rfl⟩
def dPm (enc : κ → Value) (V : VT β) (kvs : List (κ × β)) (w : World) (M : Tags) (v : Value) : Prop := ∃ b, v = .map (some b) ∧ M b = none ∧ b < w.heap.size ∧ mapAt enc V.ty kvs w M b
def Ty.pm (enc : κ → Value) (V : VT β) (kvs : List (κ × β)) : Ty := ⟨dPm enc V kvs, [], [], fun le _ _ ⟨b, e, h, hb, h2⟩ => let ⟨h3, h4⟩ := le.pub b hb h; ⟨b, e, h3, Nat.lt_of_lt_of_le hb le.size, mapAt_mono V.nodeps le h4 h2⟩, true, fun _ ⟨_, e, _⟩ => e ▸ rfl⟩
end
section
variable {P : Program} {κ β : Type} [DecidableEq κ]
theorem mget_pos (kvs : List (κ × β)) (k : κ) (i : Nat) (h : (kvs.map Prod.fst).findIdx? (fun x => decide (x = k)) = some i) : ∃ v, kvs[i]? = some (k, v) ∧ mget kvs k = some v ∧ ∀ z, mput kvs k z = kvs.set i (k, z) := by
  induction kvs generalizing i with
  | nil => cases h
  | cons x l ih =>
    rw [List.map_cons, List.findIdx?_cons] at h
    by_cases hx : x.1 = k
    · subst hx
      simp at h; subst h
      exact ⟨x.2, by simp, by simp [mget], fun z => by simp [mput]⟩
    · rw [decide_eq_false hx] at h
      simp only [Bool.false_eq_true, if_false, Option.map_eq_some_iff] at h
      obtain ⟨j, hj, rfl⟩ := h
      obtain ⟨v, h1, h2, h3⟩ := ih j hj
      exact ⟨v, by simpa using h1, by simp [mget, hx, h2], fun z => by simp [mput, hx, h3]⟩
theorem mget_none (kvs : List (κ × β)) (k : κ) (h : (kvs.map Prod.fst).findIdx? (fun x => decide (x = k)) = none) : mget kvs k = none ∧ ∀ z, mput kvs k z = kvs ++ [(k, z)] := by
  induction kvs with
  | nil => exact ⟨rfl, fun _ => rfl⟩
  | cons x l ih =>
    rw [List.map_cons, List.findIdx?_cons] at h
    by_cases hx : x.1 = k
    · simp [hx] at h
    · rw [decide_eq_false hx] at h
      simp only [Bool.false_eq_true, if_false, Option.map_eq_none_iff] at h
      obtain ⟨h1, h2⟩ := ih h
      exact ⟨by simp [mget, hx, h1], fun z => by simp [mput, hx, h2]⟩
theorem run_find {kt : TypeId} (KK : KeyK P kt κ) {vt : β → Ty} {kvs : List (κ × β)} {w : World} {M : Tags} {es : Array MapEntry} (h2 : es.toList.map (·.key) = kvs.map (fun x => KK.enc x.1)) (h3 : dens w M (kvs.map fun x => vt x.2) (es.toList.map (·.val))) (k : κ) :
    (∃ i v e, (kvs.map Prod.fst).findIdx? (fun x => decide (x = k)) = some i ∧ mget kvs k = some v ∧ es[i]? = some e ∧ e.key = KK.enc k ∧ (vt v).den w M e.val ∧ (Instr.findKey kt (KK.enc k) es.toList).run P w = .ok (some (i, e.val)) w) ∨
    ((kvs.map Prod.fst).findIdx? (fun x => decide (x = k)) = none ∧ mget kvs k = none ∧ (Instr.findKey kt (KK.enc k) es.toList).run P w = .ok none w) := by
  have hf := KK.find k (kvs.map Prod.fst) es.toList w (by rw [h2, List.map_map]; rfl)
  cases hi : (kvs.map Prod.fst).findIdx? (fun x => decide (x = k)) with
  | none => right; rw [hi] at hf; exact ⟨rfl, (mget_none kvs k hi).1, hf⟩
  | some i =>
    left
    rw [hi] at hf
    obtain ⟨v, hv, hg, _⟩ := mget_pos kvs k i hi
    have hl : i < es.toList.length := by
      have := congrArg List.length h2
      rw [List.length_map, List.length_map] at this
      rw [this]; exact (List.getElem?_eq_some_iff.1 hv).1
    obtain ⟨u, hu, hd⟩ := dens_get h3 i (vt v) (by rw [List.getElem?_map, hv]; rfl)
    rw [List.getElem?_map, List.getElem?_eq_getElem hl] at hu
    injection hu with hu
    have hk := congrArg (fun l : List Value => l[i]?) h2
    simp only [List.getElem?_map, hv, List.getElem?_eq_getElem hl, Option.map_some] at hk
    injection hk with hk
    refine ⟨i, v, es.toList[i], rfl, hg, ?_, hk, hu ▸ hd, ?_⟩
    · rw [← Array.getElem?_toList, List.getElem?_eq_getElem hl]
    · rw [hf]; show Result.ok ((es.toList[i]?).map _) w = _; rw [List.getElem?_eq_getElem hl]; rfl
end
def zeroOf (P : Program) (t : TypeId) : Option Value := (P.info? t).bind (·.zero)
theorem run_zeroOf {P : Program} {t : TypeId} {z : Value} (h : zeroOf P t = some z) (w : World) : (zeroValue t).run P w = .ok z w := by
  unfold zeroOf at h
  cases hi : P.info? t with
  | none => rw [hi] at h; cases h
  | some i =>
    rw [hi] at h
    have h' : i.zero = some z := h
    simp [zeroValue, typeInfo, hi, h']
def mapOf (P : Program) (t : TypeId) : Option (TypeId × TypeId) := match P.underlying t with | some (.map k e) => some (k, e) | _ => none
theorem mapOf_und {P : Program} {t k e : TypeId} (h : mapOf P t = some (k, e)) : P.underlying t = some (.map k e) := by
  unfold mapOf at h
  split at h
  · rename_i k' e' hu; injection h with h; injection h with h1 h2; subst h1; subst h2; exact hu
  · cases h
section
variable {P : Program} {fr : Fr} {ops : Array Oper} {A : As} {rest : List Oper} {K : As → List (As × Fx) → Prop} {d : Nat} {t mt kt et : TypeId} {p : String} {e : Array Edge}
variable {κ β : Type} [DecidableEq κ]
theorem r_makeMap (enc : κ → Value) (V : VT β) (hm : mapOf P mt = some (kt, et)) (hp : fr.pass.contains (d + 1) = false)
    (h : TOps P fr ops rest (A.after { d := some d, ty := .mp (d + 1), K := [d + 1], sets := [(d + 1, .mp enc V [])] }) fun A' l' => K A' ((A, { d := some d, ty := .mp (d + 1), K := [d + 1], sets := [(d + 1, .mp enc V [])] }) :: l')) :
    TOps P fr ops (⟨some d, .makeMap mt none, t, p, e, none⟩ :: rest) A K := by
  refine ⟨_, ⟨rfl, (by simp), (by simp), (fun u hu => ?_), fun a w M wf _ _ _ => ?_⟩, h⟩
  · rw [List.mem_singleton.1 hu]; exact ⟨by omega, by simpa using hp⟩
  rw [if_pos (by simp [Region.wanted])]
  have hrun : (execOp a.eval ⟨some d, .makeMap mt none, t, p, e, none⟩).run P w = .ok (.value (.map (some w.heap.size))) { w with heap := w.heap.push (.map #[] 0) } := by
    simp [execOp, Instr.makeMap, newObj, Sem.run]
  refine wp_in_value hrun ?_
  refine ⟨_, rfl, fun b => if b = w.heap.size then some (d + 1) else if M b = some (d + 1) then none else M b, ⟨fun b u hb => ?_, fun b b' u hb hb' => ?_⟩, ⟨by simp, rfl, rfl, rfl, fun b hlt hm => ⟨?_, ?_⟩, fun b u hm hk => ⟨?_, fun _ => ?_⟩⟩, ⟨_, rfl, by simp⟩, fun x hx => ?_⟩
  · simp only [Array.size_push]
    split at hb
    · omega
    · split at hb
      · cases hb
      · have := wf.lt b u hb; omega
  · by_cases h1 : b = w.heap.size <;> by_cases h2 : b' = w.heap.size
    · rw [h1, h2]
    · exfalso
      simp only [h1, h2, if_true, if_false] at hb hb'
      injection hb with hb
      split at hb'
      · cases hb'
      · rename_i hn; rw [← hb] at hb'; exact hn hb'
    · exfalso
      simp only [h1, h2, if_true, if_false] at hb hb'
      injection hb' with hb'
      split at hb
      · cases hb
      · rename_i hn; rw [← hb'] at hb; exact hn hb
    · simp only [h1, h2, if_false] at hb hb'
      split at hb
      · cases hb
      · split at hb'
        · cases hb'
        · exact wf.inj b b' u hb hb'
  · rw [if_neg (by omega), if_neg (by rw [hm]; simp)]; exact hm
  · simp [Array.getElem?_push]; intro h; omega
  · have hlt := wf.lt b u hm
    rw [if_neg (by omega), if_neg (by rw [hm]; intro h; injection h with h; exact hk (by simp [h]))]; exact hm
  · have hlt := wf.lt b u hm
    simp [Array.getElem?_push]; intro h; omega
  · rw [List.mem_singleton.1 hx]
    exact ⟨w.heap.size, by simp, #[], 0, by simp, rfl, trivial⟩
theorem run_lookup {w : World} {M : Tags} {b : Nat} (KK : KeyK P kt κ) (V : VT β) {kvs : List (κ × β)} {z0 : β} {zv : Value} (hm : mapOf P mt = some (kt, et)) (hz : zeroOf P et = some zv) (hzd : (V.ty z0).den w M zv) (h : mapAt KK.enc V.ty kvs w M b) (k : κ) :
    (∃ v, (Instr.lookup mt (.map (some b)) (KK.enc k) false).run P w = .ok v w ∧ (V.ty ((mget kvs k).getD z0)).den w M v) ∧
    ∃ v, (Instr.lookup mt (.map (some b)) (KK.enc k) true).run P w = .ok (.tuple #[v, .bool (mget kvs k).isSome]) w ∧ (V.ty ((mget kvs k).getD z0)).den w M v := by
  obtain ⟨es, clock, h1, h2, h3⟩ := h
  have hu := mapOf_und hm
  have hzr := run_zeroOf hz
  rcases run_find KK h2 h3 k with ⟨i, v, en, _, hg, _, _, hd, hf⟩ | ⟨_, hg, hf⟩
  · rw [hg]
    refine ⟨⟨en.val, ?_, hd⟩, en.val, ?_, hd⟩ <;> simp [Instr.lookup, underlying, hu, getObj, Sem.run, h1, KK.check, hf]
  · rw [hg]
    refine ⟨⟨zv, ?_, hzd⟩, zv, ?_, hzd⟩ <;> simp [Instr.lookup, underlying, hu, getObj, Sem.run, h1, KK.check, hf, hzr]
theorem mp_at {x : Operand} {tg : Nat} {enc : κ → Value} {V : VT β} {kvs : List (κ × β)} (hx : A.op fr x = .mp tg) (hc : A.tag tg = some (.mp enc V kvs)) (h1 : 1 ≤ tg) {a : Act} {w : World} {M : Tags} {rs : List Nat} (wf : Wf w M) (hr : ∀ c ∈ opR x, c ∈ rs) (hrd : ∀ c ∈ rs, c < fr.n → (A.slots c).den w M (a.tmps.getD c undef)) (htg : ∀ y ∈ A.tags, y.1 ∈ [tg] → y.2.den w M y.1) :
    ∃ b, a.eval x = .map (some b) ∧ M b = some tg ∧ mapAt enc V.ty kvs w M b := by
  have hxd := op_den hr hrd
  rw [hx] at hxd
  obtain ⟨b, e1, e2⟩ := hxd
  obtain ⟨b', h2, h3⟩ := htg _ (tag_mem hc) (by simp)
  obtain ⟨u, rfl⟩ : ∃ u, tg = u + 1 := ⟨tg - 1, by omega⟩
  have : b = b' := wf.inj b b' u e2 h2
  subst this
  exact ⟨b, e1, e2, h3⟩
def KeyAt (kty : Ty) (v : Value) : Prop := ∀ w M x, kty.den w M x → x = v
theorem key_int {q : IntKind} {n : Int} : KeyAt (.int q n) (.int q n) := fun _ _ _ h => h
theorem r_lookup {x y : Operand} {tg : Nat} {kty : Ty} {k : κ} (KK : KeyK P kt κ) {V : VT β} {kvs : List (κ × β)} {z0 : β} {zv : Value} (hx : A.op fr x = .mp tg) (hc : A.tag tg = some (.mp KK.enc V kvs)) (h1 : 1 ≤ tg) (hy : A.op fr y = kty) (hk : KeyAt kty (KK.enc k)) (hm : mapOf P mt = some (kt, et)) (hz : zeroOf P et = some zv) (hzd : ∀ w M, (V.ty z0).den w M zv)
    (h : TOps P fr ops rest (A.set d (V.ty ((mget kvs k).getD z0))) fun A' l' => K A' ((A, { d := some d, ty := V.ty ((mget kvs k).getD z0), rs := opR x ++ opR y, rt := [tg] }) :: l')) :
    TOps P fr ops (⟨some d, .lookup mt x y false, t, p, e, none⟩ :: rest) A K :=
  tops_pure (opT_pure rfl rfl fun a w M wf hrd htg => by
    obtain ⟨b, e1, _, h3⟩ := mp_at hx hc h1 wf (fun c hc => List.mem_append_left _ hc) hrd htg
    have hyd := op_den (fun c hc => List.mem_append_right (opR x) hc) hrd
    rw [hy] at hyd
    obtain ⟨v, hv, hd⟩ := (run_lookup KK V hm hz (hzd w M) h3 k).1
    refine ⟨v, ?_, hd⟩
    simp only [execOp, e1, hk _ _ _ hyd]
    simp [hv]) h
theorem r_lookupP {x y : Operand} {kty : Ty} {k : κ} (KK : KeyK P kt κ) {V : VT β} {kvs : List (κ × β)} {z0 : β} {zv : Value} (hx : A.op fr x = .pm KK.enc V kvs) (hy : A.op fr y = kty) (hk : KeyAt kty (KK.enc k)) (hm : mapOf P mt = some (kt, et)) (hz : zeroOf P et = some zv) (hzd : ∀ w M, (V.ty z0).den w M zv)
    (h : TOps P fr ops rest (A.set d (V.ty ((mget kvs k).getD z0))) fun A' l' => K A' ((A, { d := some d, ty := V.ty ((mget kvs k).getD z0), rs := opR x ++ opR y }) :: l')) :
    TOps P fr ops (⟨some d, .lookup mt x y false, t, p, e, none⟩ :: rest) A K :=
  tops_pure (opT_pure (rt := []) rfl rfl fun a w M wf hrd _ => by
    have hxd := op_den (fun c hc => List.mem_append_left (opR y) hc) hrd
    rw [hx] at hxd
    obtain ⟨b, e1, _, _, h3⟩ := hxd
    have hyd := op_den (fun c hc => List.mem_append_right (opR x) hc) hrd
    rw [hy] at hyd
    obtain ⟨v, hv, hd⟩ := (run_lookup KK V hm hz (hzd w M) h3 k).1
    refine ⟨v, ?_, hd⟩
    simp only [execOp, e1, hk _ _ _ hyd]
    simp [hv]) h
theorem r_mapUpdate {x y z : Operand} {tg : Nat} {kty vty : Ty} {k : κ} {v : β} (KK : KeyK P kt κ) {V : VT β} {kvs : List (κ × β)} (hx : A.op fr x = .mp tg) (hc : A.tag tg = some (.mp KK.enc V kvs)) (h1 : 1 ≤ tg) (hy : A.op fr y = kty) (hk : KeyAt kty (KK.enc k)) (hz : A.op fr z = vty) (hv : vty = V.ty v) (hm : mapOf P mt = some (kt, et))
    (h : TOps P fr ops rest (A.after { d := none, S := [tg], sets := [(tg, .mp KK.enc V (mput kvs k v))], rs := opR x ++ (opR y ++ opR z), rt := [tg] }) fun A' l' => K A' ((A, { d := none, S := [tg], sets := [(tg, .mp KK.enc V (mput kvs k v))], rs := opR x ++ (opR y ++ opR z), rt := [tg] }) :: l')) :
    TOps P fr ops (⟨none, .mapUpdate mt x y z, t, p, e, none⟩ :: rest) A K := by
  subst hv
  refine ⟨_, ⟨rfl, (fun x hx => .inl (by rw [List.mem_singleton.1 hx]; exact List.mem_singleton.2 rfl)), (fun u hu => by rw [List.mem_singleton.1 hu]; exact h1), (by simp), fun a w M wf _ hrd htg => ?_⟩, h⟩
  rw [if_pos (by simp [Region.wanted])]
  obtain ⟨b, e1, e2, es, clock, h3, h4, h5⟩ := mp_at hx hc h1 wf (fun c hc => List.mem_append_left _ hc) hrd htg
  have hyd := op_den (fun c hc => List.mem_append_right (opR x) (List.mem_append_left (opR z) hc)) hrd
  have hzd := op_den (fun c hc => List.mem_append_right (opR x) (List.mem_append_right (opR y) hc)) hrd
  rw [hy] at hyd
  rw [hz] at hzd
  have hu := mapOf_und hm
  have hblt : b < w.heap.size := wf.lt b _ e2
  -- whatever is put there
  have fin : ∀ (es' : Array MapEntry) (clock' : Nat), es'.toList.map (·.key) = (mput kvs k v).map (fun x => KK.enc x.1) → dens w M ((mput kvs k v).map fun x => V.ty x.2) (es'.toList.map (·.val)) →
      (Instr.mapUpdate mt (.map (some b)) (KK.enc k) (a.eval z)).run P w = .ok () { w with heap := w.heap.setIfInBounds b (.map es' clock') } →
      Oper.wpIn fr.kd.fence 0 P ⟨none, .mapUpdate mt x y z, t, p, e, none⟩ a w (fun a' w' => ∃ v', a' = a.put none v' ∧ Fx.left { d := none, S := [tg], sets := [(tg, .mp KK.enc V (mput kvs k v))], rs := opR x ++ (opR y ++ opR z), rt := [tg] } w M w' v') (fun _ _ _ => False) := by
    intro es' clock' hk' hd' hrun
    have hr : (execOp a.eval ⟨none, .mapUpdate mt x y z, t, p, e, none⟩).run P w = .ok .skip { w with heap := w.heap.setIfInBounds b (.map es' clock') } := by
      simp only [execOp, e1, hk _ _ _ hyd]
      simp [hrun]
    refine wp_in_skip hr ?_
    have le : Le (· ∈ [tg]) (· ∈ ([] : List Nat)) w M { w with heap := w.heap.setIfInBounds b (.map es' clock') } M := by
      refine ⟨by simp, rfl, rfl, rfl, fun b2 hlt hm2 => ⟨hm2, ?_⟩, fun b2 u hm2 _ => ⟨hm2, fun hs => ?_⟩⟩
      · have : b ≠ b2 := fun h => by subst h; rw [e2] at hm2; cases hm2
        simp [Array.getElem?_setIfInBounds, this]
      · have : b ≠ b2 := fun h => by subst h; rw [e2] at hm2; injection hm2 with hm2; exact hs (by simp [hm2])
        simp [Array.getElem?_setIfInBounds, this]
    refine ⟨undef, rfl, M, ⟨fun b2 u h => by simpa using wf.lt b2 u h, wf.inj⟩, le, trivial, fun x hx => ?_⟩
    rw [List.mem_singleton.1 hx]
    refine ⟨b, e2, es', clock', by simp [hblt], hk', ?_⟩
    refine dens_mono le (fun _ _ => by simp) (fun u hu => ?_) hd'
    simp only [cdepsOf, List.mem_flatMap, List.mem_map] at hu
    obtain ⟨t', ⟨x', _, rfl⟩, hu⟩ := hu
    rw [(V.nodeps x'.2).2] at hu; cases hu
  rcases run_find KK h4 h5 k with ⟨i, v0, en, hi, hg, hen, hkey, hd, hf⟩ | ⟨hi, hg, hf⟩
  · obtain ⟨v1, hv1, _, hput⟩ := mget_pos kvs k i hi
    have hil : i < es.size := (Array.getElem?_eq_some_iff.1 hen).1
    refine fin (es.modify i fun e => { e with key := KK.enc k, val := a.eval z }) clock ?_ ?_ ?_
    · rw [hput, List.map_set]
      have : (es.modify i fun e => { e with key := KK.enc k, val := a.eval z }).toList = es.toList.set i { en with key := KK.enc k, val := a.eval z } := by
        rw [Array.toList_modify, List.modify_eq_set, Array.getElem?_toList, hen]; rfl
      rw [this, List.map_set, h4]
    · rw [hput, List.map_set]
      have : (es.modify i fun e => { e with key := KK.enc k, val := a.eval z }).toList = es.toList.set i { en with key := KK.enc k, val := a.eval z } := by
        rw [Array.toList_modify, List.modify_eq_set, Array.getElem?_toList, hen]; rfl
      rw [this, List.map_set]
      exact dens_set h5 hzd
    · simp [Instr.mapUpdate, underlying, hu, getObj, setObj, Sem.run, h3, KK.check, hf, hen, hkey, Instr.keyThatStays, KK.same]
  · obtain ⟨_, hput⟩ := mget_none kvs k hi
    refine fin (es.push { key := KK.enc k, val := a.eval z, born := clock }) (clock + 1) ?_ ?_ ?_
    · rw [hput]; simp [h4]
    · rw [hput]; simp only [Array.toList_push, List.map_append, List.map_cons, List.map_nil]
      exact dens_append h5 ⟨hzd, trivial⟩
    · simp [Instr.mapUpdate, underlying, hu, getObj, setObj, Sem.run, h3, KK.check, hf]
end
section
variable {P : Program} {fr : Fr} {A : As} {Q : Exit → Act → World → Prop} {c : Code} {κ β : Type} [DecidableEq κ]
theorem pub_mp {enc : κ → Value} {V : VT β} {kvs : List (κ × β)} {tg s : Nat} (hx : A.slots s = .mp tg) (hc : A.tag tg = some (.mp enc V kvs)) (h1 : 1 ≤ tg) : PubTo A tg s (.pm enc V kvs) := by
  intro w M v wf ht hv
  rw [hx] at hv
  obtain ⟨b, e1, e2⟩ := hv
  obtain ⟨b', h2, h3⟩ := ht _ (tag_mem hc)
  obtain ⟨u, rfl⟩ : ∃ u, tg = u + 1 := ⟨tg - 1, by omega⟩
  have : b = b' := wf.inj b b' u e2 h2
  subst this
  exact ⟨b, e1, by simp [pubTag, e2], wf.lt b _ e2, mapAt_mono V.nodeps (pubTag_le (tg := u + 1)) rfl h3⟩
end
end Go.T

namespace Go.T
open Go Go.RowKit
def Zt : Nat := 1000000
def ZOk (M : Tags) : Prop := ∀ b u, M b = some u → Zt ≤ u → u = Zt + b
def Cb (J : World → Tags → Prop) : Prop := ∀ w M w' M', Wf w' M' → Le (fun t => Zt ≤ t) (fun t => Zt ≤ t) w M w' M' → J w M → J w' M'
def Yld (P : Program) (l : Nat) (encs : List (List Ty)) (J : Nat → World → Tags → Prop) (Jx : World → Tags → Prop) : Prop :=
  ∀ (k : Nat) (tys : List Ty), encs[k]? = some tys → ∀ w M vs, Wf w M → ZOk M → J k w M → dens w M tys vs →
    YieldAt Fence.wide 0 P l vs.toArray w fun e w' => ∃ M', Wf w' M' ∧ ZOk M' ∧ Le (fun t => t < Zt) (fun t => t < Zt) w M w' M' ∧ ((e = .returned (.bool true) ∧ J (k + 1) w' M') ∨ (e = .returned (.bool false) ∧ Jx w' M'))
def CtrI (P : Program) (f : FuncId) (args : Nat → List Ty) (encs : List (List Ty)) (resD resS : Ty) : Prop :=
  (∃ fn, P.funcs[f]? = some fn ∧ (fn.name == "runtime.NumGoroutine") = false ∧ fn.body.isNone = false) ∧
  ∀ l J Jx, (∀ k, Cb (J k)) → Cb Jx → Yld P l encs J Jx → ∀ w M vs, Wf w M → ZOk M → dens w M (args l) vs → J 0 w M →
    Calls P f vs.toArray w fun e w' => ∃ r M', e = .returned r ∧ Wf w' M' ∧ ZOk M' ∧ ((resD.den w' M' r ∧ J encs.length w' M') ∨ (resS.den w' M' r ∧ Jx w' M'))
def dCJ (J : World → Tags → Prop) (w : World) (M : Tags) (_ : Nat) : Prop :=
  ∃ Mc, Wf w Mc ∧ ZOk Mc ∧ J w Mc ∧ (∀ b, M b = none → Mc b = none) ∧ ∀ b t, b < w.heap.size → M b = some (t + 1) → Mc b = some (Zt + b)
def CJ {J : World → Tags → Prop} (hJ : Cb J) : Cont :=
  { den := dCJ J, deps := [0], cdeps := [0]
    mono := fun {S K w w' M M' t} le hk hs _ _ ⟨Mc, wf, z, hj, h1, h2⟩ => by
      have hk0 : ¬ K 0 := hk 0 (by simp)
      have hs0 : ¬ S 0 := hs 0 (by simp)
      have zero : ∀ b, M b = some 0 → M' b = some 0 ∧ w'.heap[b]? = w.heap[b]? := fun b h => let ⟨a, c⟩ := le.own b 0 h hk0; ⟨a, c hs0⟩
      have mb : ∀ b t, Mc b = some t → t < Zt → M b = some 0 := fun b t h ht => by
        cases hm : M b with
        | none => rw [h1 b hm] at h; cases h
        | some u =>
          cases u with
          | zero => rfl
          | succ u =>
            have := h2 b u (wf.lt b t h) hm
            rw [this] at h; injection h with h; omega
      have lez : Le (fun t => Zt ≤ t) (fun t => Zt ≤ t) w Mc w' (fun b => if b < w'.heap.size then (match M' b with | none => none | some (_ + 1) => some (Zt + b) | some 0 => if b < w.heap.size ∧ M b = some 0 then Mc b else some (Zt + b)) else none) := by
        refine ⟨le.size, le.os, le.tape, le.out, fun b hb hm => ?_, fun b t hm ht => ?_⟩
        · cases hmb : M b with
          | none =>
            obtain ⟨a, c⟩ := le.pub b hb hmb
            refine ⟨?_, c⟩
            simp only [a]; split <;> rfl
          | some u =>
            cases u with
            | zero =>
              obtain ⟨a, c⟩ := zero b hmb
              refine ⟨?_, c⟩
              simp only [a, hmb, hb, and_self, if_true, hm]; split <;> rfl
            | succ u => rw [h2 b u hb hmb] at hm; cases hm
        · have hlt := wf.lt b t hm
          have h0 := mb b t hm (Nat.lt_of_not_le ht)
          obtain ⟨a, c⟩ := zero b h0
          refine ⟨?_, fun _ => c⟩
          have : b < w'.heap.size := Nat.lt_of_lt_of_le hlt le.size
          simp only [this, if_true, a, h0, hlt, and_self]; exact hm
      have zok : ZOk (fun b => if b < w'.heap.size then (match M' b with | none => none | some (_ + 1) => some (Zt + b) | some 0 => if b < w.heap.size ∧ M b = some 0 then Mc b else some (Zt + b)) else none) := by
        intro b u h hu
        simp only at h
        split at h
        · split at h
          · cases h
          · injection h with h; exact h.symm
          · split at h
            · exact z b u h hu
            · injection h with h; exact h.symm
        · cases h
      have wf' : Wf w' (fun b => if b < w'.heap.size then (match M' b with | none => none | some (_ + 1) => some (Zt + b) | some 0 => if b < w.heap.size ∧ M b = some 0 then Mc b else some (Zt + b)) else none) := by
        refine ⟨fun b t h => ?_, fun b b' t h h' => ?_⟩
        · split at h
          · assumption
          · cases h
        · by_cases hz : Zt ≤ t + 1
          · have e1 := zok b _ h hz
            have e2 := zok b' _ h' hz
            omega
          · have part : ∀ b, (if b < w'.heap.size then (match M' b with | none => none | some (_ + 1) => some (Zt + b) | some 0 => if b < w.heap.size ∧ M b = some 0 then Mc b else some (Zt + b)) else none) = some (t + 1) → Mc b = some (t + 1) := fun b h => by
              split at h
              · split at h
                · cases h
                · injection h with h; omega
                · split at h
                  · exact h
                  · injection h with h; omega
              · cases h
            exact wf.inj b b' t (part b h) (part b' h')
      refine ⟨_, wf', zok, hJ _ _ _ _ wf' lez hj, fun b h => ?_, fun b t hb h => ?_⟩
      · simp only [h]; split <;> rfl
      · simp only [h, hb, if_true] }
section
variable {P : Program} {fr : Fr} {ops : Array Oper} {A : As} {rest : List Oper} {K : As → List (As × Fx) → Prop} {d : Nat} {t : TypeId} {p : String} {e : Array Edge} {Q : Exit → Act → World → Prop}
def OpY (P : Program) (fr : Fr) (ops : Array Oper) (o : Oper) (A : As) (f g : Fx) : Prop :=
  (f.d = o.dst ∧ f.K = []) ∧ (g.d = o.dst ∧ g.K = []) ∧
  ∀ a w M, Wf w M → a.tmps.size = fr.n → (∀ c, c < fr.n → (A.slots c).den w M (a.tmps.getD c undef)) → (∀ x ∈ A.tags, x.2.den w M x.1) →
    Region.wanted o (yielded ops a.tmps) = true ∧ o.wpIn fr.kd.fence 0 P a w (fun a' w' => ∃ v, a' = a.put o.dst v ∧ (f.left w M w' v ∨ g.left w M w' v)) (fun _ _ _ => False)
theorem holds_afterI {f : Fx} {a : Act} {w w' : World} {M : Tags} {v : Value} (hkd : fr.kd = .iter) (hK : f.K = [])
    (ok : Ok fr a w M) (hs : ∀ c, c < fr.n → (A.slots c).den w M (a.tmps.getD c undef)) (ht : ∀ x ∈ A.tags, x.2.den w M x.1) (hl : f.left w M w' v) : (A.after f).holds fr (a.put f.d v) w' := by
  obtain ⟨M', wf', le, hv, hsets⟩ := hl
  have hnd := ok.nodefers (by rw [hkd]; simp)
  have hb : fr.base w' M' := (ok.base.trans le).weaken (fun t _ => by rw [hkd]; trivial) (fun t ht => ht.elim id (fun h => by rw [hK] at h; cases h))
  refine ⟨M', ⟨wf', hb, by rw [size_put, ok.size], by rw [defers_put, hnd]; exact Defs.nil⟩, fun c hc => ?_, fun x hx => ?_⟩
  · rw [getD_put a f.d v c (by rw [ok.size]; exact hc)]
    have key : (killSlots f.S f.K A.slots c).den w' M' (a.tmps.getD c undef) := by
      rcases killSlots_spec f.S f.K A.slots c with ⟨e, hdj⟩ | ⟨_, e⟩
      · rw [e]
        exact (A.slots c).mono le (safe_spec hdj).1 (safe_spec hdj).2 (hs c hc)
      · rw [e]; trivial
    simp only [As.after, setSlot]
    cases hfd : f.d with
    | none => simpa using key
    | some d =>
      by_cases e : d = c
      · subst e; simpa using hv
      · have e' : Nat.beq c d = false := by cases h : Nat.beq c d with | false => rfl | true => exact absurd (Nat.eq_of_beq_eq_true h).symm e
        simpa [e, e'] using key
  · rcases List.mem_append.1 hx with hx | hx
    · exact hsets x hx
    · exact killTags_den le hx fun y hy _ => ht y hy
theorem tops_app {rest : List Oper} : ∀ (l : List Oper) (A : As) (K : As → List (As × Fx) → Prop) (a : Act) (w : World), TOps P fr ops l A K → A.holds fr a w →
    (∀ A' s a w, K A' s → A'.holds fr a w → wpListIn fr.kd.fence 0 P ops Q rest a w) → wpListIn fr.kd.fence 0 P ops Q (l ++ rest) a w
  | [], A, K, a, w, h, ha, hk => hk A [] a w h ha
  | o :: l, A, K, a, w, ⟨f, ⟨hd, hsets, hS, hK, hop⟩, hrest⟩, ⟨M, ok, hs, ht⟩, hk => by
    have h := hop a w M ok.wf ok.size (fun c _ hc => hs c hc) (fun x hx _ => ht x hx)
    rw [List.cons_append]
    unfold wpListIn
    split
    · rename_i hw
      rw [if_pos hw] at h
      refine Oper.wp_weaken (fun a' w' ⟨v, e, hl⟩ => ?_) h
      subst e
      rw [← hd]
      exact tops_app l _ _ _ _ hrest (holds_after hS hK ok hs ht hl) fun A' s a w hk' hA => hk A' _ a w hk' hA
    · rename_i hw
      rw [if_neg hw] at h
      refine ⟨fun f _ => fr.kd.fn_true f, ?_⟩
      rw [← hd]
      exact tops_app l _ _ _ _ hrest (holds_after hS hK ok hs ht h) fun A' s a w hk' hA => hk A' _ a w hk' hA
theorem t_regionY {id : Nat} {l1 l2 : List Oper} {o : Oper} (hkd : fr.kd = .iter)
    (h : TOps P fr (l1 ++ o :: l2).toArray l1 A fun A1 _ => ∃ f g, OpY P fr (l1 ++ o :: l2).toArray o A1 f g ∧ TOps P fr (l1 ++ o :: l2).toArray l2 (A1.after f) (fun A' _ => Into fr A' (Q .normal)) ∧ TOps P fr (l1 ++ o :: l2).toArray l2 (A1.after g) (fun A' _ => Into fr A' (Q .normal))) :
    Tri P fr (.region id (l1 ++ o :: l2).toArray false) A Q := by
  intro a w ha
  refine wpIn_region_lit (tops_app l1 A _ a w h ha fun A1 s a w ⟨f, g, ⟨⟨hf1, hf2⟩, ⟨hg1, hg2⟩, hop⟩, h1, h2⟩ ⟨M, ok, hs, ht⟩ => ?_)
  obtain ⟨hw, hwp⟩ := hop a w M ok.wf ok.size hs ht
  unfold wpListIn
  rw [if_pos hw]
  refine Oper.wp_weaken (fun a' w' ⟨v, e, hl⟩ => ?_) hwp
  subst e
  rcases hl with hl | hl
  · rw [← hf1]; exact tops_list l2 _ _ _ _ h1 (holds_afterI hkd hf2 ok hs ht hl) fun _ _ _ _ hk hA => hk _ _ hA
  · rw [← hg1]; exact tops_list l2 _ _ _ _ h2 (holds_afterI hkd hg2 ok hs ht hl) fun _ _ _ _ hk hA => hk _ _ hA
theorem opT_on {op : Op} {dst : Option Nat} {j s : Nat} {want : Bool} {f : Fx} (hs : dstOf ops j = some s) (hn : Nat.blt s fr.n = true) (hc : A.slots s = .bool want) (h1 : OpT P fr ops ⟨dst, op, t, p, e, none⟩ A f) :
    OpT P fr ops ⟨dst, op, t, p, e, some (j, want)⟩ A { f with rs := s :: f.rs } := by
  obtain ⟨hd, hsets, hS, hK, hop⟩ := h1
  refine ⟨hd, hsets, hS, hK, fun a w M wf hsz hrd htg => ?_⟩
  have hv := hrd s List.mem_cons_self (by simpa using hn)
  rw [hc] at hv
  have hy := yielded_bool (ops := ops) hs (by rw [hsz]; simpa using hn) hv
  have hw : Region.wanted ⟨dst, op, t, p, e, some (j, want)⟩ (yielded ops a.tmps) = true := by simp [Region.wanted, hy]
  have h := hop a w M wf hsz (fun c hc => hrd c (List.mem_cons_of_mem _ hc)) htg
  rw [if_pos (by simp [Region.wanted])] at h
  rw [if_pos hw]
  exact h
theorem r_on {op : Op} {dst : Option Nat} {j s : Nat} {want : Bool} {f : Fx} (hs : dstOf ops j = some s) (hn : Nat.blt s fr.n = true) (hc : A.slots s = .bool want) (h1 : OpT P fr ops ⟨dst, op, t, p, e, none⟩ A f)
    (h : TOps P fr ops rest (A.after f) fun A' l' => K A' ((A, { f with rs := s :: f.rs }) :: l')) : TOps P fr ops (⟨dst, op, t, p, e, some (j, want)⟩ :: rest) A K := ⟨_, opT_on hs hn hc h1, h⟩
theorem r_off {op : Op} {j s : Nat} {want c : Bool} (hs : dstOf ops j = some s) (hn : Nat.blt s fr.n = true) (hc : A.slots s = .bool c) (hne : (c == want) = false)
    (h : TOps P fr ops rest (A.set d (.ex undef)) fun A' l' => K A' ((A, { d := some d, ty := .ex undef, rs := [s] }) :: l')) : TOps P fr ops (⟨some d, op, t, p, e, some (j, want)⟩ :: rest) A K := by
  refine ⟨{ d := some d, ty := .ex undef, rs := [s] }, ⟨rfl, (by simp), (by simp), (by simp), fun a w M wf hsz hrd htg => ?_⟩, h⟩
  have hv := hrd s List.mem_cons_self (by simpa using hn)
  rw [hc] at hv
  have hy := yielded_bool (ops := ops) hs (by rw [hsz]; simpa using hn) hv
  have hw : Region.wanted ⟨some d, op, t, p, e, some (j, want)⟩ (yielded ops a.tmps) = false := by
    simp only [Region.wanted, hy]
    cases c <;> cases want <;> simp_all
  rw [if_neg (by rw [hw]; simp)]
  exact ⟨M, wf, Le.refl _ _ _ _, rfl, by simp⟩
def yv (l : Nat) : Value := .func (.yield l) #[] #[]
theorem opY_on {op : Op} {dst : Option Nat} {j s : Nat} {want : Bool} {f g : Fx} (hs : dstOf ops j = some s) (hn : Nat.blt s fr.n = true) (hc : A.slots s = .bool want) (h1 : OpY P fr ops ⟨dst, op, t, p, e, none⟩ A f g) :
    OpY P fr ops ⟨dst, op, t, p, e, some (j, want)⟩ A f g := by
  obtain ⟨hf, hg, hop⟩ := h1
  refine ⟨hf, hg, fun a w M wf hsz hrd htg => ?_⟩
  have hv := hrd s (by simpa using hn)
  rw [hc] at hv
  have hy := yielded_bool (ops := ops) hs (by rw [hsz]; simpa using hn) hv
  exact ⟨by simp [Region.wanted, hy], (hop a w M wf hsz hrd htg).2⟩
theorem opY_yield {c l k : Nat} {encs : List (List Ty)} {J : Nat → World → Tags → Prop} {Jx : World → Tags → Prop} (hJ : ∀ k, Cb (J k)) (hJx : Cb Jx) (hY : Yld P l encs J Jx) {xs : List Operand} {ats : Array TypeId} {tys : List Ty} {dst : Option Nat}
    (hkd : fr.kd = .iter) (hc : A.op fr (.tmp c) = .ex (yv l)) (hx : opsTy A fr xs = tys) (hd : depsOf tys = []) (hdc : cdepsOf tys = []) (hk : encs[k]? = some tys) (ht : A.tag 0 = some (CJ (hJ k))) :
    OpY P fr ops ⟨dst, .call ⟨.value (.tmp c), xs.toArray, ats⟩, t, p, e, none⟩ A { d := dst, ty := .bool true, S := [0], sets := [(0, CJ (hJ (k + 1)))] } { d := dst, ty := .bool false, S := [0], sets := [(0, CJ hJx)] } := by
  refine ⟨⟨rfl, rfl⟩, ⟨rfl, rfl⟩, fun a w M wf hsz hrd htg => ⟨by simp [Region.wanted], ?_⟩⟩
  have hcv := op_den (x := .tmp c) (rs := c :: xs.flatMap opR) (fun u hu => by exact (List.mem_singleton.1 hu) ▸ List.mem_cons_self) (fun c _ hn => hrd c hn)
  rw [hc] at hcv
  have hcv : a.eval (.tmp c) = yv l := hcv
  obtain ⟨Mc, wfc, z, hj, h1, h2⟩ := htg _ (tag_mem ht)
  have hv : dens w Mc tys (xs.map a.eval) := conv_nodeps h1 hd hdc (hx ▸ opsTy_dens (rs := c :: xs.flatMap opR) (fun c _ hn => hrd c hn) fun x hx c hc => List.mem_cons_of_mem _ (List.mem_flatMap.2 ⟨x, hx, hc⟩))
  obtain ⟨fn, tmps, assign, body, hy, hR⟩ := hY k tys hk w Mc _ wfc z hj hv
  refine ⟨fun f _ => fr.kd.fn_true f, ?_⟩
  have hrun : (execOp a.eval ⟨dst, .call ⟨.value (.tmp c), xs.toArray, ats⟩, t, p, e, none⟩).run P w = .ok (.round l fn tmps assign body) w := by
    simp [execOp, resolve, hcv, yv, Deferred.ofValue, invoke, hy]
  rw [Oper.semAt_eq _ _ _ (by intro c h; cases h), hrun, Oper.uponIn_round]
  refine ⟨fun h => (by rw [fr.kd.depth_none] at h; cases h), ?_⟩
  have hfe : fr.kd.fence = Fence.wide := by rw [hkd]; rfl
  rw [hfe]
  refine RoundIn.mono hR fun en w' ⟨Mc', wf', z', le, hor⟩ => ?_
  have Mle : Le (· ∈ [0]) (· ∈ ([] : List Nat)) w M w' (fun b => if b < w.heap.size then M b else (Mc' b).map fun _ => 0) := by
    refine ⟨le.size, le.os, le.tape, le.out, fun b hb hm => ⟨by simp [hb, hm], (le.pub b hb (h1 b hm)).2⟩, fun b u hm _ => ⟨by simp [wf.lt b u hm, hm], fun hs => ?_⟩⟩
    cases u with
    | zero => exact absurd (by simp) hs
    | succ u => exact (le.own b _ (h2 b u (wf.lt b _ hm) hm) (by omega)).2 (by omega)
  have Mwf : Wf w' (fun b => if b < w.heap.size then M b else (Mc' b).map fun _ => 0) := by
    refine ⟨fun b u h => ?_, fun b b' u h h' => ?_⟩
    · split at h
      · exact Nat.lt_of_lt_of_le ‹_› le.size
      · obtain ⟨v, hv, _⟩ := Option.map_eq_some_iff.1 h
        exact wf'.lt b v hv
    · have part : ∀ b, (if b < w.heap.size then M b else (Mc' b).map fun _ => 0) = some (u + 1) → M b = some (u + 1) := fun b h => by
        split at h
        · exact h
        · obtain ⟨v, _, hv⟩ := Option.map_eq_some_iff.1 h
          cases hv
      exact wf.inj b b' u (part b h) (part b' h')
  have hc1 : ∀ b, (if b < w.heap.size then M b else (Mc' b).map fun _ => 0) = none → Mc' b = none := fun b h => by
    split at h
    · exact (le.pub b ‹_› (h1 b h)).1
    · simpa using h
  have hc2 : ∀ b u, b < w'.heap.size → (if b < w.heap.size then M b else (Mc' b).map fun _ => 0) = some (u + 1) → Mc' b = some (Zt + b) := fun b u _ h => by
    split at h
    · exact (le.own b _ (h2 b u ‹_› h) (by omega)).1
    · obtain ⟨v, _, hv⟩ := Option.map_eq_some_iff.1 h
      cases hv
  rcases hor with ⟨rfl, hj'⟩ | ⟨rfl, hj'⟩
  · exact ⟨.bool true, rfl, .inl ⟨_, Mwf, Mle, rfl, fun x hx => by rw [List.mem_singleton.1 hx]; exact ⟨Mc', wf', z', hj', hc1, hc2⟩⟩⟩
  · exact ⟨.bool false, rfl, .inr ⟨_, Mwf, Mle, rfl, fun x hx => by rw [List.mem_singleton.1 hx]; exact ⟨Mc', wf', z', hj', hc1, hc2⟩⟩⟩
end
def iterPost (n : Nat) (J : Nat → World → Tags → Prop) (Jx : World → Tags → Prop) (resD resS : Ty) (e : Ending) (w' : World) : Prop :=
  ∃ r M', e = .returned r ∧ Wf w' M' ∧ ZOk M' ∧ ((resD.den w' M' r ∧ J n w' M') ∨ (resS.den w' M' r ∧ Jx w' M'))
section
variable {P : Program} {A : As}
theorem fnI_intro {f : FuncId} {fn : Func} {c : Code} {args : Nat → List Ty} {encs : List (List Ty)} {resD resS : Ty} {n : Nat} (hf : P.funcs[f]? = some fn) (hb : fn.body = some c) (hn : (fn.name == "runtime.NumGoroutine") = false) (hnt : fn.ntmps = n) (hl : ∀ l, (args l).length ≤ n) (hdd : ∀ l, depsOf (args l) = [] ∧ cdepsOf (args l) = [])
    (h : ∀ l J Jx (hJ : ∀ k, Cb (J k)) (hJx : Cb Jx), Yld P l encs J Jx → ∀ w0 M0, Tri P ⟨n, w0, M0, [], .iter⟩ c (entryG (args l) [(0, CJ (hJ 0))]) (bodyPost P fn (iterPost encs.length J Jx resD resS))) : CtrI P f args encs resD resS := by
  refine ⟨⟨fn, hf, hn, by rw [hb]; rfl⟩, fun l J Jx hJ hJx hY w M vs wf z hd hj => calls_of_wp hf hb (wpIn_wide.1 (h l J Jx hJ hJx hY w (fgn M) _ _ ?_))⟩
  have hlen := dens_len hd
  have hl := hl l
  refine ⟨fgn M, ⟨fgn_wf wf, Le.refl _ _ _ _, by simp [hnt, hlen]; omega, Defs.nil⟩, fun c hc => ?_, fun x hx => ?_⟩
  · simp only [entryG]
    cases ha : (args l)[c]? with
    | none => trivial
    | some ty =>
      obtain ⟨v, hv, hdv⟩ := dens_get (dens_foreign (hdd l).1 (hdd l).2 hd) c ty ha
      have : (vs.toArray ++ Array.replicate (fn.ntmps - vs.toArray.size) undef).getD c undef = v := by
        have hlt : c < vs.length := (List.getElem?_eq_some_iff.1 hv).1
        rw [Array.getD_eq_getD_getElem?, Array.getElem?_append_left (by simpa using hlt)]
        simp [hv]
      rw [this]; exact hdv
  · rw [List.mem_singleton.1 hx]
    refine ⟨M, wf, z, hj, fun b h => ?_, fun b t _ h => ?_⟩
    · unfold fgn at h; simpa using h
    · have := fgn_zero b _ h; omega
variable {fn : Func} {n m : Nat} {w0 : World} {M0 : Tags} {J : Nat → World → Tags → Prop} {Jx : World → Tags → Prop} {resD resS : Ty}
theorem y_ret0 {hJ : Cb (J m)} (hr : fn.results = #[]) (ht : A.tag 0 = some (CJ hJ)) : Into ⟨n, w0, M0, [], .iter⟩ A (bodyPost P fn (iterPost m J Jx (Ty.tup []) resS) .ret) := by
  intro a w ⟨M, ok, hsl, htg⟩
  obtain ⟨Mc, wfc, z, hj, h1, h2⟩ := htg _ (tag_mem ht)
  exact ⟨ok.nodefers (by simp), _, results_none hr _ _ _, _, Mc, rfl, wfc, z, .inl ⟨⟨_, rfl, trivial⟩, hj⟩⟩
theorem y_ret0x {hJx : Cb Jx} (hr : fn.results = #[]) (ht : A.tag 0 = some (CJ hJx)) : Into ⟨n, w0, M0, [], .iter⟩ A (bodyPost P fn (iterPost m J Jx resD (Ty.tup [])) .ret) := by
  intro a w ⟨M, ok, hsl, htg⟩
  obtain ⟨Mc, wfc, z, hj, h1, h2⟩ := htg _ (tag_mem ht)
  exact ⟨ok.nodefers (by simp), _, results_none hr _ _ _, _, Mc, rfl, wfc, z, .inr ⟨⟨_, rfl, trivial⟩, hj⟩⟩
end
end Go.T

namespace Go.T
open Go Go.RowKit
theorem Zt_pos : 1 ≤ Zt := by decide
def foldZ (M : Tags) : Tags := fun b => match M b with | none => none | some t => if Zt ≤ t then some 0 else some t
theorem foldZ_none {M : Tags} {b : Nat} (h : M b = none) : foldZ M b = none := by simp [foldZ, h]
theorem foldZ_lt {M : Tags} {b t : Nat} (h : M b = some t) (ht : t < Zt) : foldZ M b = some t := by
  have : ¬ Zt ≤ t := by omega
  simp [foldZ, h, this]
theorem foldZ_ge {M : Tags} {b t : Nat} (h : M b = some t) (ht : Zt ≤ t) : foldZ M b = some 0 := by simp [foldZ, h, ht]
theorem foldZ_some {M : Tags} {b t : Nat} (h : foldZ M b = some (t + 1)) : M b = some (t + 1) ∧ t + 1 < Zt := by
  unfold foldZ at h
  split at h
  · cases h
  · rename_i u hu
    split at h
    · cases h
    · injection h with h; subst h; exact ⟨hu, by omega⟩
theorem foldZ_wf {w : World} {M : Tags} (wf : Wf w M) : Wf w (foldZ M) :=
  ⟨fun b t h => by
    cases hm : M b with
    | none => rw [foldZ_none hm] at h; cases h
    | some u => exact wf.lt b u hm, fun b b' t h h' => wf.inj b b' t (foldZ_some h).1 (foldZ_some h').1⟩
theorem foldZ_u {M : Tags} {b u : Nat} (h : foldZ M b = some u) : u < Zt := by
  unfold foldZ at h
  split at h
  · cases h
  · split at h
    · injection h with h; subst h; decide
    · injection h with h; omega
def pinOk (n : Nat) (pass : List Nat) (s : Nat → Ty) : Bool := (List.range n).all fun c => (s c).cdeps.isEmpty && (s c).deps.all fun t => pass.contains t
def passOk (l l' : List Nat) : Bool := l.all (fun t => l'.contains t) && l'.all fun t => Nat.ble 1 t && Nat.blt t 1000000
def inZ (l : List Nat) : Bool := l.all fun t => Nat.ble 1 t && Nat.blt t 1000000
def tagsOk (l : List (Nat × Cont)) : Bool := l.all fun x => Nat.ble 1 x.1 && (Nat.blt x.1 1000000 && (inZ x.2.deps && inZ x.2.cdeps))
theorem inZ_spec {l : List Nat} (h : inZ l = true) : ∀ t ∈ l, 1 ≤ t ∧ t < Zt := by
  intro t ht
  simp only [inZ, List.all_eq_true, Bool.and_eq_true, Nat.ble_eq, Nat.blt_eq] at h
  exact h t ht
theorem tagsOk_spec {l : List (Nat × Cont)} (h : tagsOk l = true) : ∀ x ∈ l, (1 ≤ x.1 ∧ x.1 < Zt) ∧ (∀ t ∈ x.2.deps, 1 ≤ t ∧ t < Zt) ∧ ∀ t ∈ x.2.cdeps, 1 ≤ t ∧ t < Zt := by
  intro x hx
  simp only [tagsOk, List.all_eq_true, Bool.and_eq_true, Nat.ble_eq, Nat.blt_eq] at h
  obtain ⟨h1, h2, h3, h4⟩ := h x hx
  exact ⟨⟨h1, h2⟩, inZ_spec h3, inZ_spec h4⟩
theorem pinOk_spec {n : Nat} {pass : List Nat} {s : Nat → Ty} (h : pinOk n pass s = true) : ∀ c, c < n → (s c).cdeps = [] ∧ ∀ t ∈ (s c).deps, t ∈ pass := by
  intro c hc
  simp only [pinOk, List.all_eq_true, Bool.and_eq_true, List.mem_range, List.isEmpty_iff, List.contains_iff_mem] at h
  exact h c hc
theorem passOk_spec {l l' : List Nat} (h : passOk l l' = true) : (∀ t ∈ l, t ∈ l') ∧ ∀ t ∈ l', 1 ≤ t ∧ t < Zt := by
  simp only [passOk, Bool.and_eq_true, List.all_eq_true, List.contains_iff_mem, Nat.ble_eq, Nat.blt_eq] at h
  exact ⟨h.1, h.2⟩
theorem fold_den {w : World} {M : Tags} {n : Nat} : ∀ (l : List (Nat × Ty)) (vs : List Value) (tm : Array Value) (s : Nat → Ty), (l.map Prod.fst).Nodup → tm.size = n → (∀ c, c < n → (s c).den w M (tm.getD c undef)) → dens w M (l.map Prod.snd) vs →
    (((l.map Prod.fst).zip vs).foldl (fun t (p, v) => t.setIfInBounds p v) tm).size = n ∧ ∀ c, c < n → (setL l s c).den w M ((((l.map Prod.fst).zip vs).foldl (fun t (p, v) => t.setIfInBounds p v) tm).getD c undef)
  | [], [], tm, s, _, hsz, hs, _ => ⟨hsz, hs⟩
  | (d, ty) :: l, v :: vs, tm, s, hnd, hsz, hs, ⟨hv, hvs⟩ => by
    simp only [List.map_cons, List.nodup_cons] at hnd
    have hs' : ∀ c, c < n → ((fun i => bif Nat.beq i d then ty else s i) c).den w M ((tm.setIfInBounds d v).getD c undef) := fun c hc => by
      simp only [Array.getD_eq_getD_getElem?, Array.getElem?_setIfInBounds]
      by_cases e : d = c
      · subst e; simpa [hsz, hc] using hv
      · have e' : Nat.beq c d = false := by cases h : Nat.beq c d with | false => rfl | true => exact absurd (Nat.eq_of_beq_eq_true h).symm e
        simpa [e, e', Array.getD_eq_getD_getElem?] using hs c hc
    obtain ⟨h1, h2⟩ := fold_den l vs (tm.setIfInBounds d v) (fun i => bif Nat.beq i d then ty else s i) hnd.2 (by simpa using hsz) hs' hvs
    have hset : ∀ c, setL ((d, ty) :: l) s c = setL l (fun i => bif Nat.beq i d then ty else s i) c := by
      intro c
      have hl : ∀ (l : List (Nat × Ty)) (s s' : Nat → Ty), (∀ i, i = c → i ∉ l.map Prod.fst → s i = s' i) → setL l s c = setL l s' c := by
        intro l
        induction l with
        | nil => intro s s' h; exact h c rfl (by simp)
        | cons x l ih =>
          intro s s' h
          simp only [setL]
          cases hb : Nat.beq c x.1 with
          | true => rfl
          | false =>
            simp only [cond_false]
            refine ih s s' fun i hi hm => h i hi fun hm' => ?_
            rw [List.map_cons] at hm'
            rcases List.mem_cons.1 hm' with h1 | h1
            · rw [← h1, hi] at hb; simp at hb
            · exact hm h1
      simp only [setL]
      by_cases e : c = d
      · subst e
        have hb : Nat.beq c c = true := by simp
        rw [hb, cond_true]
        have : ∀ (l : List (Nat × Ty)) (s : Nat → Ty), c ∉ l.map Prod.fst → setL l s c = s c := by
          intro l
          induction l with
          | nil => intro s _; rfl
          | cons x l ih =>
            intro s h
            simp only [List.map_cons, List.mem_cons, not_or] at h
            have hb : Nat.beq c x.1 = false := by cases hb : Nat.beq c x.1 with | false => rfl | true => exact absurd (Nat.eq_of_beq_eq_true hb) h.1
            simp only [setL, hb, cond_false]
            exact ih s h.2
        rw [this l _ hnd.1]
        simp
      · have hb : Nat.beq c d = false := by cases hb : Nat.beq c d with | false => rfl | true => exact absurd (Nat.eq_of_beq_eq_true hb) e
        rw [hb, cond_false]
        exact hl l _ _ fun i hi _ => by subst hi; simp [hb]
    refine ⟨h1, fun c hc => ?_⟩
    rw [hset]; exact h2 c hc
def anyT : Nat → Ty := fun _ => Ty.any
def roundQ (fr : Fr) (B : List (Nat × Cont)) (br : Bool) (tr : List (Nat × Cont)) : Exit → Act → World → Prop
  | .normal, a, w => As.holds fr ⟨anyT, B⟩ a w
  | .ret, a, w => br = true ∧ As.holds fr ⟨anyT, tr⟩ a w
  | _, _, _ => False
theorem q_normal {fr : Fr} {A : As} {B : List (Nat × Cont)} {br : Bool} {tr : List (Nat × Cont)} (h : Ent fr A ⟨anyT, B⟩) : Into fr A (roundQ fr B br tr .normal) := fun _ _ ha => h.holds ha
def RoundT (P : Program) (n : Nat) (pass : List Nat) (assign body : Code) (A : As) (B : List (Nat × Cont)) (br : Bool) (tr : List (Nat × Cont)) : Prop :=
  ∃ A1 : As, (∀ l w M, Tri P ⟨n, w, M, pass, .round l⟩ assign A (Exit.then (fun a w' => A1.holds ⟨n, w, M, pass, .round l⟩ a w') fun _ _ _ => False)) ∧
    ∀ l w M, Tri P ⟨n, w, M, pass, .round l⟩ body (A1.after { d := none, S := [0] }) (roundQ ⟨n, w, M, pass, .round l⟩ B br tr)
section
variable {P : Program} {fr : Fr} {A : As} {Q : Exit → Act → World → Prop}
theorem base_put {w : World} {M : Tags} {l : Nat} {o : Obj} (h0 : fr.w0.heap.size ≤ l) (h1 : ∀ t, ¬ (1 ≤ t ∧ t ∉ fr.pass) → fr.M0 l ≠ some t) (hb : fr.base w M) : fr.base (w.putObj l o) M := by
  refine ⟨by simpa using hb.size, hb.os, hb.tape, hb.out, fun b hlt hm => ⟨(hb.pub b hlt hm).1, ?_⟩, fun b t hm hk => ⟨(hb.own b t hm hk).1, fun hs => ?_⟩⟩
  · rw [World.putObj_heap_other (by omega)]; exact (hb.pub b hlt hm).2
  · rw [World.putObj_heap_other (fun e => h1 t hk (by rw [← e]; exact hm))]; exact (hb.own b t hm hk).2 hs
theorem le_put0 {w : World} {M : Tags} {l : Nat} {o : Obj} (hl : M l = some 0) : Le (· ∈ [0]) (· ∈ ([] : List Nat)) w M (w.putObj l o) M := by
  refine ⟨by simp, rfl, rfl, rfl, fun b hb hm => ⟨hm, World.putObj_heap_other fun e => by rw [e, hl] at hm; cases hm⟩, fun b t hm _ => ⟨hm, fun hs => World.putObj_heap_other fun e => ?_⟩⟩
  rw [e, hl] at hm; injection hm with hm; exact hs (by simp [hm])
def JJ (fr : Fr) (s : Nat → Ty) (tm : Array Value) (ds : List Deferred) (l : Nat) (r : Loop) (tg : List (Nat × Cont)) (w : World) (M : Tags) : Prop :=
  fr.base w M ∧ (∀ c, c < fr.n → (s c).den w M (tm.getD c undef)) ∧ (∀ x ∈ tg, x.2.den w M x.1) ∧ M l = some 0 ∧ w.heap[l]? = some (.loop r) ∧ Defs fr w M ds
theorem JJ_cb {s : Nat → Ty} {tm : Array Value} {ds : List Deferred} {l : Nat} {r : Loop} {tg : List (Nat × Cont)} {pass' : List Nat} (hpass : passOk fr.pass pass' = true) (hs : pinOk fr.n pass' s = true) (ht : tagsOk tg = true) : Cb (JJ fr s tm ds l r tg) := by
  intro w M w' M' wf' le ⟨h1, h2, h3, h4, h5, h6⟩
  obtain ⟨hp1, hp2⟩ := passOk_spec hpass
  obtain ⟨a, c⟩ := le.own l 0 h4 (by decide)
  refine ⟨Fr.base_step h1 (fun t ht => Nat.le_trans Zt_pos ht) (fun t ht => ⟨Nat.le_trans Zt_pos ht, fun hm => by have := (hp2 t (hp1 t hm)).2; omega⟩) le, fun c hc => ?_, fun x hx => ?_, a, (c (by decide)).trans h5, h6.step (fun t ht => Nat.le_trans Zt_pos ht) (fun t ht => Nat.le_trans Zt_pos ht) le⟩
  · obtain ⟨e1, e2⟩ := pinOk_spec hs c hc
    exact (s c).mono le (fun t ht hz => by have := (hp2 t (e2 t ht)).2; omega) (by rw [e1]; intro _ h; cases h) (h2 c hc)
  · obtain ⟨⟨_, e2⟩, e3, e4⟩ := tagsOk_spec ht x hx
    exact x.2.mono le (fun t ht hz => by have := (e3 t ht).2; omega) (fun t ht hz => by have := (e4 t ht).2; omega) (by omega) (by omega) (h3 x hx)
def backZ (w : World) (M M3 : Tags) : Tags := fun b => match M b with | some u => if b < w.heap.size ∧ Zt ≤ u then some u else foldZ M3 b | none => foldZ M3 b
theorem round_end {s : Nat → Ty} {tm : Array Value} {ds : List Deferred} {l : Nat} {r r3 r4 : Loop} {tg0 tg : List (Nat × Cont)} {pass' : List Nat} (hpass : passOk fr.pass pass' = true) (hs : pinOk fr.n pass' s = true) (ht : tagsOk tg = true) (hkd : fr.kd = .marks)
    (h0 : fr.w0.heap.size ≤ l) (h1 : ∀ t, ¬ (1 ≤ t ∧ t ∉ fr.pass) → fr.M0 l ≠ some t)
    {w w1 w3 : World} {M M1 M3 : Tags} (wf : Wf w M) (z : ZOk M) (hj : JJ fr s tm ds l r tg0 w M)
    (le1 : Le (fun t => 1 ≤ t) (fun t => 1 ≤ t ∧ t ∉ pass') w (foldZ M) w1 M1) (wf3 : Wf w3 M3) (le3 : Le (fun t => 1 ≤ t) (fun t => 1 ≤ t ∧ t ∉ pass') (w1.putObj l (.loop r3)) M1 w3 M3)
    (htg : ∀ x ∈ tg, x.2.den w3 M3 x.1) :
    w3.heap[l]? = some (.loop r3) ∧ ∃ M4, Wf (w3.putObj l (.loop r4)) M4 ∧ ZOk M4 ∧ Le (fun t => t < Zt) (fun t => t < Zt) w M (w3.putObj l (.loop r4)) M4 ∧ JJ fr s tm ds l r4 tg (w3.putObj l (.loop r4)) M4 := by
  obtain ⟨hb, hsl, _, hl, hrec, hdef⟩ := hj
  obtain ⟨hp1, hp2⟩ := passOk_spec hpass
  have hlt : l < w.heap.size := wf.lt l 0 hl
  have hZ : (1 : Nat) ≤ Zt := by decide
  -- a block whose tag is 0, or another one that stays
  have zero : ∀ b, foldZ M b = some 0 → M3 b = some 0 ∧ (b ≠ l → w3.heap[b]? = w.heap[b]?) := fun b h => by
    obtain ⟨a, c⟩ := le1.own b 0 h (by omega)
    obtain ⟨a', c'⟩ := le3.own b 0 a (by omega)
    exact ⟨a', fun e => (c' (by omega)).trans ((World.putObj_heap_other e).trans (c (by omega)))⟩
  have pas : ∀ b t, t ∈ pass' → M b = some t → M3 b = some t := fun b t hm h => by
    obtain ⟨a, _⟩ := le1.own b t (foldZ_lt h (hp2 t hm).2) (fun h => h.2 hm)
    exact (le3.own b t a fun h => h.2 hm).1
  have pub : ∀ b, b < w.heap.size → M b = none → M3 b = none ∧ w3.heap[b]? = w.heap[b]? := fun b hb h => by
    obtain ⟨a, c⟩ := le1.pub b hb (foldZ_none h)
    obtain ⟨a', c'⟩ := le3.pub b (by simpa using Nat.lt_of_lt_of_le hb le1.size) a
    exact ⟨a', c'.trans ((World.putObj_heap_other fun e => by rw [e, hl] at h; cases h).trans c)⟩
  have hl0 : foldZ M l = some 0 := foldZ_lt hl (by decide)
  have hM1l := (le1.own l 0 hl0 (by omega)).1
  have hl1 : l < w1.heap.size := Nat.lt_of_lt_of_le hlt le1.size
  have hrec3 : w3.heap[l]? = some (.loop r3) := ((le3.own l 0 hM1l (by omega)).2 (by omega)).trans (World.putObj_heap_same hl1)
  have hM3l := (zero l hl0).1
  have hsz3 : w.heap.size ≤ w3.heap.size := Nat.le_trans le1.size (by simpa using le3.size)
  refine ⟨hrec3, backZ w M M3, ?_⟩
  -- how the tags are
  have kept : ∀ b u, M b = some u → Zt ≤ u → backZ w M M3 b = some u := fun b u h hu => by
    unfold backZ; rw [h]; simp [wf.lt b u h, hu]
  have other : ∀ b, (∀ u, M b = some u → u < Zt) → backZ w M M3 b = foldZ M3 b := fun b h => by
    unfold backZ
    cases hm : M b with
    | none => rfl
    | some u => have := h u hm; simp only; rw [if_neg (by omega)]
  have from3 : ∀ b t, M3 b = some t → 1 ≤ t → ∀ u, M b = some u → u < Zt := fun b t h h1 u hu => by
    rcases Nat.lt_or_ge u Zt with h2 | h2
    · exact h2
    · have := (zero b (foldZ_ge hu h2)).1
      rw [this] at h; injection h with h; omega
  have none3 : ∀ b, M3 b = none → ∀ u, M b = some u → u < Zt := fun b h u hu => by
    rcases Nat.lt_or_ge u Zt with h2 | h2
    · exact h2
    · have := (zero b (foldZ_ge hu h2)).1
      rw [this] at h; cases h
  have zok : ZOk (backZ w M M3) := fun b u h hu => by
    unfold backZ at h
    split at h
    · rename_i v hv
      split at h
      · injection h with h; subst h; exact z b v hv hu
      · have := foldZ_u h; omega
    · have := foldZ_u h; omega
  have wf4 : Wf (w3.putObj l (.loop r4)) (backZ w M M3) := by
    refine ⟨fun b t h => ?_, fun b b' t h h' => ?_⟩
    · rw [World.putObj_size]
      unfold backZ at h
      split at h
      · split at h
        · rename_i hc; exact Nat.lt_of_lt_of_le hc.1 hsz3
        · exact (foldZ_wf wf3).lt b t h
      · exact (foldZ_wf wf3).lt b t h
    · by_cases hz : Zt ≤ t + 1
      · have e1 := zok b _ h hz
        have e2 := zok b' _ h' hz
        omega
      · have part : ∀ b, backZ w M M3 b = some (t + 1) → M3 b = some (t + 1) := fun b h => by
          unfold backZ at h
          split at h
          · split at h
            · injection h with h; omega
            · exact (foldZ_some h).1
          · exact (foldZ_some h).1
        exact wf3.inj b b' t (part b h) (part b' h')
  have le0 : Le (· ∈ [0]) (· ∈ ([] : List Nat)) w3 M3 (w3.putObj l (.loop r4)) M3 := le_put0 hM3l
  have leZ : Le (fun t => t < Zt) (fun t => t < Zt) w M (w3.putObj l (.loop r4)) (backZ w M M3) := by
    refine ⟨by simpa using hsz3, (le0.os.trans (le3.os.trans le1.os)), (le0.tape.trans (le3.tape.trans le1.tape)), (le0.out.trans (le3.out.trans le1.out)), fun b hb hm => ?_, fun b t hm ht => ⟨kept b t hm (by omega), fun _ => ?_⟩⟩
    · obtain ⟨a, c⟩ := pub b hb hm
      refine ⟨by rw [other b (fun u hu => by rw [hm] at hu; cases hu)]; exact foldZ_none a, ?_⟩
      rw [World.putObj_heap_other fun e => by rw [e, hl] at hm; cases hm]; exact c
    · have hbl : b ≠ l := fun e => by rw [e, hl] at hm; injection hm with hm; omega
      rw [World.putObj_heap_other hbl]
      exact (zero b (foldZ_ge hm (by omega))).2 hbl
  refine ⟨wf4, zok, leZ, ?_, fun c hc => ?_, fun x hx => ?_, ?_, World.putObj_heap_same (Nat.lt_of_lt_of_le hlt hsz3), ?_⟩
  · refine ⟨Nat.le_trans hb.size leZ.size, leZ.os.trans hb.os, leZ.tape.trans hb.tape, leZ.out.trans hb.out, fun b hlt' hm => ?_, fun b t hm hk => ?_⟩
    · obtain ⟨a, c⟩ := hb.pub b hlt' hm
      obtain ⟨a', c'⟩ := leZ.pub b (Nat.lt_of_lt_of_le hlt' hb.size) a
      exact ⟨a', c'.trans c⟩
    · obtain ⟨a, c⟩ := hb.own b t hm hk
      have hbl : b ≠ l := fun e => h1 t hk (e ▸ hm)
      by_cases ht0 : t = 0
      · subst ht0
        obtain ⟨a', c'⟩ := zero b (foldZ_lt a (by decide))
        refine ⟨by rw [other b (fun u hu => by rw [a] at hu; injection hu with hu; omega)]; exact foldZ_lt a' (by decide), fun hs => ?_⟩
        rw [World.putObj_heap_other hbl]; exact (c' hbl).trans (c hs)
      · have htp : t ∈ fr.pass := Classical.byContradiction fun h => hk ⟨by omega, h⟩
        have htp' := hp1 t htp
        refine ⟨by rw [other b (fun u hu => by rw [a] at hu; injection hu with hu; have := (hp2 t htp').2; omega)]; exact foldZ_lt (pas b t htp' a) (hp2 t htp').2, fun hs => absurd (FK.canS_of (k := fr.kd) (by omega : 1 ≤ t)) hs⟩
  · obtain ⟨e1, e2⟩ := pinOk_spec hs c hc
    refine (s c).mono (S := fun _ => True) (K := fun t => t ∉ pass') ⟨leZ.size, leZ.os, leZ.tape, leZ.out, leZ.pub, fun b t hm hk => ⟨?_, fun h => absurd trivial h⟩⟩ (fun t ht h => h (e2 t ht)) (by rw [e1]; intro _ h; cases h) (hsl c hc)
    have htp : t ∈ pass' := Classical.byContradiction fun h => hk h
    rw [other b (fun u hu => by rw [hm] at hu; injection hu with hu; have := (hp2 t htp).2; omega)]
    exact foldZ_lt (pas b t htp hm) (hp2 t htp).2
  · obtain ⟨⟨g1, g2⟩, e3, e4⟩ := tagsOk_spec ht x hx
    refine x.2.mono (w := w3) (M := M3) (S := fun t => t = 0) (K := fun t => t = 0 ∨ Zt ≤ t) ⟨by simp, rfl, rfl, rfl, fun b hb hm => ⟨?_, ?_⟩, fun b t hm hk => ⟨?_, fun _ => ?_⟩⟩ (fun t ht h => by have := e3 t ht; omega) (fun t ht h => by have := (e4 t ht).1; omega) (by omega) (by omega) (htg x hx)
    · rw [other b (none3 b hm)]; exact foldZ_none hm
    · exact World.putObj_heap_other fun e => by rw [e, hM3l] at hm; cases hm
    · have ht1 : 1 ≤ t := Nat.pos_of_ne_zero fun h => hk (.inl h)
      rw [other b (from3 b t hm ht1)]; exact foldZ_lt hm (Nat.lt_of_not_le fun h => hk (.inr h))
    · exact World.putObj_heap_other fun e => by rw [e, hM3l] at hm; injection hm with hm; exact hk (.inl hm.symm)
  · rw [other l (fun u hu => by rw [hl] at hu; injection hu with hu; omega)]; exact foldZ_lt hM3l (by decide)
  · obtain ⟨rs, e, g1, g2, g3⟩ := hdef
    refine ⟨rs, e, g1, g2, fun q hq => ?_⟩
    obtain ⟨a, b, c⟩ := g3 q hq
    have hql : q ≠ l := fun e => by rw [e, hrec] at c; cases c
    obtain ⟨a', c'⟩ := zero q (foldZ_lt a (by decide))
    refine ⟨by rw [other q (fun u hu => by rw [a] at hu; injection hu with hu; omega)]; exact foldZ_lt a' (by decide), b, ?_⟩
    rw [World.putObj_heap_other hql]; exact (c' hql).trans c
theorem t_rangeFunc {g : Operand} {ps : List Tmp} {assign body : Code} {gf : FuncId} {caps : List Ty} {encs : List (List Ty)} {resD resS : Ty} (s : Nat → Ty) (tg : Nat → List (Nat × Cont)) (br : Bool) (tr : List (Nat × Cont)) (pass' : List Nat)
    (hkd : fr.kd = .marks) (hg : A.op fr g = .clo gf caps) (hI : CtrI P gf (fun l => Ty.ex (yv l) :: caps) encs resD resS) (hcd : depsOf caps = []) (hcc : cdepsOf caps = [])
    (hps : ps.Nodup) (hlen : ∀ tys ∈ encs, tys.length = ps.length ∧ depsOf tys = [] ∧ cdepsOf tys = []) (hpass : passOk fr.pass pass' = true) (hs : pinOk fr.n pass' s = true) (htg : ∀ k, tagsOk (tg k) = true) (htr : tagsOk tr = true)
    (h0 : Ent fr A ⟨s, tg 0⟩)
    (hround : ∀ k tys, encs[k]? = some tys → RoundT P fr.n pass' assign body ⟨setL (ps.zip tys) s, tg k⟩ (tg (k + 1)) br tr)
    (hdone : Into fr ⟨s, tg encs.length⟩ (Q .normal)) (hret : br = true → Into fr ⟨s, tr⟩ (Q .ret)) :
    Tri P fr (.rangeFunc g ps.toArray assign body) A Q := by
  intro a w ha
  have hfe : fr.kd.fence = Fence.wide := by rw [hkd]; rfl
  rw [hfe]
  obtain ⟨hp1, hp2⟩ := passOk_spec hpass
  have hgv : ∃ cs : Array Value, a.eval g = .func (.func gf) #[] cs ∧ ∃ M, dens w M caps cs.toList := by
    obtain ⟨M, _, hsl, _⟩ := ha
    have := op_den (x := g) (rs := opR g) (fun _ h => h) (fun c _ hn => hsl c hn)
    rw [hg] at this
    obtain ⟨cs, e, hd⟩ := this
    exact ⟨cs, e, M, hd⟩
  obtain ⟨M, ok, hsl0, htg0⟩ := id ha
  have hcs : ∃ cs : Array Value, a.eval g = .func (.func gf) #[] cs ∧ dens w M caps cs.toList := by
    have := op_den (x := g) (rs := opR g) (fun _ h => h) (fun c _ hn => hsl0 c hn)
    rw [hg] at this
    exact this
  obtain ⟨cs, hev, hcaps⟩ := hcs
  have hB0 := h0.holds (a := a) (w := w) ⟨M, ok, hsl0, htg0⟩
  -- the same tags: the assertion that is forgotten down to holds of them, too
  have hslB : ∀ c, c < fr.n → (s c).den w M (a.tmps.getD c undef) := fun c hc => (allSub_get h0.slots c hc) _ _ _ (hsl0 c hc)
  have htgB : ∀ x ∈ tg 0, x.2.den w M x.1 := fun x hx => by
    obtain ⟨C, hC, hsub⟩ := allTags_get h0.tags x hx
    exact hsub _ _ _ (htg0 _ (tag_mem hC))
  have hZ : (1 : Nat) ≤ Zt := by decide
  refine wpIn_rangeFunc fun fn _ => ?_
  obtain ⟨w1, hw1⟩ : ∃ w1, (w.alloc (.deferred (some []))).alloc (.loop { state := .ready, pending := none, fn, tmps := a.tmps, params := ps.toArray, assign, body, defers := w.heap.size }) = w1 := ⟨_, rfl⟩
  refine ⟨w.heap.size + 1, _, w1, { target := .fn (.func gf) cs, args := #[yv (w.heap.size + 1)] }, w1, gf, (yv (w.heap.size + 1) :: cs.toList).toArray, w1, by rw [← hw1]; exact run_enterLoop_outer fn a.tmps ps.toArray assign body, ?_, fun _ _ => trivial, ?_, (fun h => by cases h), ?_⟩
  · simp [resolve, rangeCall, hev, Deferred.ofValue, yv]; rfl
  · obtain ⟨⟨fn', hf, hn, hb⟩, _⟩ := hI
    have hn' : fn'.name ≠ "runtime.NumGoroutine" := by simpa using hn
    have hb' : fn'.body ≠ none := fun h => by rw [h] at hb; cases hb
    simp [invoke, callFunc, hf, hn', hb']
  -- the world in which the iterator is called
  have hnone : ∀ b, w.heap.size ≤ b → M b = none := fun b hb => by
    cases hm : M b with
    | none => rfl
    | some t => have := ok.wf.lt b t hm; omega
  have hsz1 : w1.heap.size = w.heap.size + 2 := by rw [← hw1]; simp
  have hD : w1.heap[w.heap.size]? = some (.deferred (some [])) := by
    rw [← hw1]
    show ((w.heap.push _).push _)[w.heap.size]? = _
    rw [Array.getElem?_push, if_neg (by simp), Array.getElem?_push, if_pos rfl]
  have hL : w1.heap[w.heap.size + 1]? = some (.loop { state := .ready, pending := none, fn, tmps := a.tmps, params := ps.toArray, assign, body, defers := w.heap.size }) := by
    rw [← hw1]
    show ((w.heap.push _).push _)[w.heap.size + 1]? = _
    rw [Array.getElem?_push, if_pos (by simp)]
  have hold : ∀ b, b < w.heap.size → w1.heap[b]? = w.heap[b]? := fun b hb => by
    rw [← hw1]
    show ((w.heap.push _).push _)[b]? = _
    rw [Array.getElem?_push, if_neg (by simp; omega), Array.getElem?_push, if_neg (by omega)]
  have hw1os : w1.os = w.os ∧ w1.tape = w.tape ∧ w1.output = w.output := by rw [← hw1]; exact ⟨rfl, rfl, rfl⟩
  have leN : Le (fun t => Zt ≤ t) (fun t => Zt ≤ t) w M w1 (fun b => if b = w.heap.size ∨ b = w.heap.size + 1 then some 0 else foldZ M b) := by
    refine ⟨by omega, hw1os.1, hw1os.2.1, hw1os.2.2, fun b hb hm => ⟨?_, hold b hb⟩, fun b t hm ht => ⟨?_, fun _ => hold b (ok.wf.lt b t hm)⟩⟩
    · rw [if_neg (by omega)]; exact foldZ_none hm
    · have := ok.wf.lt b t hm
      rw [if_neg (by omega)]; exact foldZ_lt hm (Nat.lt_of_not_le ht)
  have wf1 : Wf w1 (fun b => if b = w.heap.size ∨ b = w.heap.size + 1 then some 0 else foldZ M b) := by
    refine ⟨fun b t h => ?_, fun b b' t h h' => ?_⟩
    · split at h
      · omega
      · have := (foldZ_wf ok.wf).lt b t h; omega
    · have part : ∀ b, (if b = w.heap.size ∨ b = w.heap.size + 1 then some 0 else foldZ M b) = some (t + 1) → foldZ M b = some (t + 1) := fun b h => by
        split at h
        · cases h
        · exact h
      exact (foldZ_wf ok.wf).inj b b' t (part b h) (part b' h')
  have z1 : ZOk (fun b => if b = w.heap.size ∨ b = w.heap.size + 1 then some 0 else foldZ M b) := fun b u h hu => by
    simp only at h
    split at h
    · injection h with h; omega
    · have := foldZ_u h; omega
  have hbl0 : fr.w0.heap.size ≤ w.heap.size + 1 := Nat.le_succ_of_le ok.base.size
  have hbl1 : ∀ t, ¬ (1 ≤ t ∧ t ∉ fr.pass) → fr.M0 (w.heap.size + 1) ≠ some t := fun t ht h => by
    have := (ok.base.own _ t h ht).1
    rw [hnone _ (by omega)] at this; cases this
  have defs1 : Defs fr w1 (fun b => if b = w.heap.size ∨ b = w.heap.size + 1 then some 0 else foldZ M b) (markOf w.heap.size :: a.defers) := by
    obtain ⟨rs, e, g1, g2, g3⟩ := ok.defers
    refine ⟨w.heap.size :: rs, by rw [e]; rfl, fun _ => hkd, List.nodup_cons.2 ⟨fun h => ?_, g2⟩, fun q hq => ?_⟩
    · have := ok.wf.lt _ _ (g3 _ h).1; omega
    · rcases List.mem_cons.1 hq with rfl | hq
      · refine ⟨by simp, ⟨ok.base.size, fun t ht h => ?_⟩, hD⟩
        have := (ok.base.own _ t h ht).1
        rw [hnone _ (Nat.le_refl _)] at this; cases this
      · obtain ⟨a1, b1, c1⟩ := g3 q hq
        have := ok.wf.lt _ _ a1
        exact ⟨by simp only; rw [if_neg (by omega)]; exact foldZ_lt a1 (by decide), b1, (hold q this).trans c1⟩
  -- between two rounds
  let R : LoopState → Option Code → Loop := fun st pe => { state := st, pending := pe, fn, tmps := a.tmps, params := ps.toArray, assign, body, defers := w.heap.size }
  let J : Nat → World → Tags → Prop := fun k => JJ fr s a.tmps (markOf w.heap.size :: a.defers) (w.heap.size + 1) (R .ready none) (tg k)
  let Jx : World → Tags → Prop := fun w' M' => br = true ∧ JJ fr s a.tmps (markOf w.heap.size :: a.defers) (w.heap.size + 1) (R .done (some .ret)) tr w' M'
  have hJ : ∀ k, Cb (J k) := fun k => JJ_cb hpass hs (htg k)
  have hJx : Cb Jx := fun w M w' M' wf le ⟨h, hj⟩ => ⟨h, JJ_cb hpass hs htr w M w' M' wf le hj⟩
  have hj0 : J 0 w1 (fun b => if b = w.heap.size ∨ b = w.heap.size + 1 then some 0 else foldZ M b) := by
    refine ⟨Fr.base_step ok.base (fun t ht => by omega) (fun t ht => ⟨by omega, fun hm => by have := (hp2 t (hp1 t hm)).2; omega⟩) leN, fun c hc => ?_, fun x hx => ?_, by simp, hL, defs1⟩
    · obtain ⟨e1, e2⟩ := pinOk_spec hs c hc
      exact (s c).mono leN (fun t ht hz => by have := (hp2 t (e2 t ht)).2; omega) (by rw [e1]; intro _ h; cases h) (hslB c hc)
    · obtain ⟨⟨_, e2⟩, e3, e4⟩ := tagsOk_spec (htg 0) x hx
      exact x.2.mono leN (fun t ht hz => by have := (e3 t ht).2; omega) (fun t ht hz => by have := (e4 t ht).2; omega) (by omega) (by omega) (htgB x hx)
  have hY : Yld P (w.heap.size + 1) encs J Jx := by
    intro k tys hk w2 M2 vs wf2 z2 hj hv
    obtain ⟨jb, jsl, jtg, jl, jrec, jdef⟩ := id hj
    have hvl := dens_len hv
    obtain ⟨htl, hte, htc⟩ := hlen tys (List.mem_of_getElem? hk)
    have hrunY := run_yield (P := P) (args := vs.toArray) jrec (by simp [R]; omega)
    refine ⟨_, _, _, _, hrunY, roundIn_of_wpIn trivial ?_⟩
    obtain ⟨A1, hassign, hbody⟩ := hround k tys hk
    have hzip : (ps.zip tys).map Prod.fst = ps := by rw [List.map_fst_zip (by omega)]
    have hzip2 : (ps.zip tys).map Prod.snd = tys := by rw [List.map_snd_zip (by omega)]
    have conv : ∀ {t : Ty} {v : Value}, (∀ u ∈ t.deps, u < Zt) → t.den w2 M2 v → t.den w2 (foldZ M2) v := fun {t v} hd h =>
      t.mono (S := fun _ => False) (K := fun u => Zt ≤ u) ⟨Nat.le_refl _, rfl, rfl, rfl, fun b _ hm => ⟨foldZ_none hm, rfl⟩, fun b u hm hk => ⟨foldZ_lt hm (Nat.lt_of_not_le hk), fun _ => rfl⟩⟩ (fun u hu hz => by have := hd u hu; omega) (fun _ _ h => h) h
    have convC : ∀ {C : Cont} {t : Nat}, (∀ u ∈ C.deps, u < Zt) → t < Zt → C.den w2 M2 t → C.den w2 (foldZ M2) t := fun {C t} hd ht h =>
      C.mono (S := fun _ => False) (K := fun u => Zt ≤ u) ⟨Nat.le_refl _, rfl, rfl, rfl, fun b _ hm => ⟨foldZ_none hm, rfl⟩, fun b u hm hk => ⟨foldZ_lt hm (Nat.lt_of_not_le hk), fun _ => rfl⟩⟩ (fun u hu hz => by have := hd u hu; omega) (fun _ _ h => h) (fun h => h) (by omega) h
    obtain ⟨fsz, fden⟩ := fold_den (w := w2) (M := foldZ M2) (n := fr.n) (ps.zip tys) vs a.tmps s (by rw [hzip]; exact hps) ok.size (fun c hc => conv (fun u hu => (hp2 u ((pinOk_spec hs c hc).2 u hu)).2) (jsl c hc)) (by rw [hzip2]; exact conv_nodeps (fun b h => foldZ_none h) hte htc hv)
    rw [hzip] at fsz fden
    have htm : ((R .ready none).params.zip vs.toArray).foldl (fun tmps (t, v) => tmps.setIfInBounds t v) a.tmps = (ps.zip vs).foldl (fun t (p, v) => t.setIfInBounds p v) a.tmps := by simp [R]
    have hA0 : As.holds ⟨fr.n, w2, foldZ M2, pass', .round (w.heap.size + 1)⟩ ⟨setL (ps.zip tys) s, tg k⟩ { tmps := ((R .ready none).params.zip vs.toArray).foldl (fun tmps (t, v) => tmps.setIfInBounds t v) a.tmps, defers := [] } w2 := by
      rw [htm]
      exact ⟨foldZ M2, ⟨foldZ_wf wf2, Le.refl _ _ _ _, fsz, Defs.nil⟩, fden, fun x hx => by
        obtain ⟨⟨_, e2⟩, e3, _⟩ := tagsOk_spec (htg k) x hx
        exact convC (fun u hu => (e3 u hu).2) e2 (jtg x hx)⟩
    have h1 := hassign (w.heap.size + 1) w2 (foldZ M2) _ _ hA0
    refine Go.wpIn_mono h1 fun e a1 w3 hq => ?_
    cases e with
    | normal =>
      obtain ⟨M3, ok3, hsl3, htg3⟩ := hq
      obtain ⟨l3, l3'⟩ := ok3.base.own (w.heap.size + 1) 0 (foldZ_lt jl (by decide)) (by simp)
      have rec3 : w3.heap[w.heap.size + 1]? = some (.loop (R .ready none)) := (l3' (by simp [FK.canS])).trans jrec
      refine ⟨_, run_beginRound rec3 rfl, ?_⟩
      have hkill := le_put0 (w := w3) (M := M3) (o := .loop { R .ready none with state := .busy }) l3
      have hb0 : As.holds ⟨fr.n, w3.putObj (w.heap.size + 1) (.loop { R .ready none with state := .busy }), M3, pass', .round (w.heap.size + 1)⟩ (A1.after { d := none, S := [0] }) a1 (w3.putObj (w.heap.size + 1) (.loop { R .ready none with state := .busy })) := by
        refine ⟨M3, ⟨⟨fun b t h => by simpa using ok3.wf.lt b t h, ok3.wf.inj⟩, Le.refl _ _ _ _, ok3.size, by rw [ok3.nodefers (by simp)]; exact Defs.nil⟩, fun c hc => ?_, fun x hx => ?_⟩
        · simp only [As.after, setSlot]
          rcases killSlots_spec [0] [] A1.slots c with ⟨e, hdj⟩ | ⟨_, e⟩
          · rw [e]; exact (A1.slots c).mono hkill (safe_spec hdj).1 (safe_spec hdj).2 (hsl3 c hc)
          · rw [e]; trivial
        · exact killTags_den hkill (by simpa [As.after] using hx) fun y hy _ => htg3 y hy
      have h2 := hbody (w.heap.size + 1) _ M3 _ _ hb0
      refine Go.wpIn_mono h2 fun e a4 w4 hq4 => ?_
      have le1 : Le (fun t => 1 ≤ t) (fun t => 1 ≤ t ∧ t ∉ pass') w2 (foldZ M2) w3 M3 := ok3.base
      cases e with
      | normal =>
        obtain ⟨M4, ok4, _, htg4⟩ := hq4
        obtain ⟨r4, M5, g1, g2, g3, g4⟩ := round_end (r4 := R .ready none) hpass hs (htg (k + 1)) hkd hbl0 hbl1 wf2 z2 hj le1 ok4.wf ok4.base htg4
        exact ⟨_, _, run_endRound none r4, M5, g1, g2, g3, .inl ⟨rfl, g4⟩⟩
      | ret =>
        obtain ⟨hbr, M4, ok4, _, htg4⟩ := hq4
        obtain ⟨r4, M5, g1, g2, g3, g4⟩ := round_end (r4 := R .done (some .ret)) hpass hs htr hkd hbl0 hbl1 wf2 z2 hj le1 ok4.wf ok4.base htg4
        exact ⟨_, _, run_endRound (some .ret) r4, M5, g1, g2, g3, .inr ⟨rfl, hbr, g4⟩⟩
      | exit id => exact hq4.elim
      | goto l => exact hq4.elim
      | panic c => exact hq4.elim
      | outgrown => exact hq4.elim
    | ret => exact hq.elim
    | exit id => exact hq.elim
    | goto l => exact hq.elim
    | panic c => exact hq.elim
    | outgrown => exact hq.elim
  have fin : ∀ (r : Loop) (tgs : List (Nat × Cont)) (w' : World) (M' : Tags) (o : Obj), tagsOk tgs = true → Wf w' M' → JJ fr s a.tmps (markOf w.heap.size :: a.defers) (w.heap.size + 1) r tgs w' M' → As.holds fr ⟨s, tgs⟩ { tmps := a.tmps, defers := [{ target := .collected w.heap.size, args := #[] }] ++ a.defers } (w'.putObj (w.heap.size + 1) o) := by
    intro r tgs w' M' o hok wf' ⟨jb, jsl, jtg, jl, jrec, jdef⟩
    have hk0 := le_put0 (w := w') (M := M') (o := o) jl
    refine ⟨M', ⟨⟨fun b t h => by simpa using wf'.lt b t h, wf'.inj⟩, base_put hbl0 hbl1 jb, ok.size, ?_⟩, fun c hc => ?_, fun x hx => ?_⟩
    · obtain ⟨rs, e, g1, g2, g3⟩ := jdef
      refine ⟨rs, e, g1, g2, fun q hq => ?_⟩
      obtain ⟨a1, b1, c1⟩ := g3 q hq
      exact ⟨a1, b1, by rw [World.putObj_heap_other fun e => by rw [e, jrec] at c1; cases c1]; exact c1⟩
    · obtain ⟨e1, e2⟩ := pinOk_spec hs c hc
      exact (s c).mono hk0 (fun _ _ h => by cases h) (by rw [e1]; intro _ h; cases h) (jsl c hc)
    · obtain ⟨⟨e1, e2⟩, e3, e4⟩ := tagsOk_spec hok x hx
      exact x.2.mono hk0 (fun _ _ h => by cases h) (fun t ht h => by have := (e4 t ht).1; rw [List.mem_singleton.1 h] at this; omega) (fun h => by rw [List.mem_singleton.1 h] at e1; omega) (fun h => by cases h) (jtg x hx)
  refine CallsIn.mono (callsIn_wide.2 (hI.2 (w.heap.size + 1) J Jx hJ hJx hY w1 _ (yv (w.heap.size + 1) :: cs.toList) wf1 z1 ⟨rfl, ?_⟩ hj0)) ?_
  · exact dens_mono leN (by rw [hcd]; intro _ h; cases h) (by rw [hcc]; intro _ h; cases h) hcaps
  · rintro e w' ⟨r, M', he, wf', z', hor⟩
    subst he
    rcases hor with ⟨_, hj⟩ | ⟨_, hbr, hj⟩
    · refine ⟨none, _, run_endLoop hj.2.2.2.2.1 (by simp [R]), ?_⟩
      exact hdone _ _ (fin _ _ w' M' _ (htg _) wf' hj)
    · refine ⟨some .ret, _, run_endLoop hj.2.2.2.2.1 (by simp [R]), ?_⟩
      exact wpIn_ret (hret hbr _ _ (fin _ _ w' M' _ htr wf' hj))
end
section
variable {P : Program} {A : As} {fn : Func} {n : Nat} {w0 : World} {M0 : Tags} {F : List Nat}
theorem leaves_marks {R : Ending → World → Prop} {tm : Array Value} {s : Nat → Ty} {tgs : List (Nat × Cont)} {pass : List Nat} (fr : Fr)
    (hs0 : ∀ c, c < fr.n → ∀ t ∈ (s c).cdeps, t ≠ 0) (ht0 : ∀ x ∈ tgs, x.1 ≠ 0 ∧ ∀ t ∈ x.2.cdeps, t ≠ 0)
    (h : ∀ w M, Wf w M → fr.base w M → (∀ c, c < fr.n → (s c).den w M (tm.getD c undef)) → (∀ x ∈ tgs, x.2.den w M x.1) → ∃ v, (results fn tm).run P w = .ok v w ∧ R (.returned v) w) :
    ∀ (rs : List Nat) (w : World) (M : Tags), Wf w M → fr.base w M → (∀ c, c < fr.n → (s c).den w M (tm.getD c undef)) → (∀ x ∈ tgs, x.2.den w M x.1) → rs.Nodup → (∀ r ∈ rs, M r = some 0 ∧ fr.w0.heap.size ≤ r ∧ (∀ t, ¬ (1 ≤ t ∧ t ∉ fr.pass) → fr.M0 r ≠ some t) ∧ w.heap[r]? = some (.deferred (some []))) →
      LeavesInM Fence.wide 0 P fn tm R (rs.map markOf) .returning w
  | [], w, M, wf, hb, hs, ht, _, _ => h w M wf hb hs ht
  | r :: rs, w, M, wf, hb, hs, ht, hnd, hr => by
    obtain ⟨a, b, c, d⟩ := hr r List.mem_cons_self
    have le := le_put0 (w := w) (M := M) (o := .deferred none) a
    refine ⟨by simp, .inl ⟨r, _, rfl, run_takeDeferred d, ?_⟩⟩
    refine leaves_marks (pass := pass) fr hs0 ht0 h rs _ M ⟨fun b t h => by simpa using wf.lt b t h, wf.inj⟩ (base_put b c hb) (fun c hc => (s c).mono le (fun _ _ h => by cases h) (fun t ht h => hs0 c hc t ht (List.mem_singleton.1 h)) (hs c hc))
      (fun x hx => x.2.mono le (fun _ _ h => by cases h) (fun t htt h => (ht0 x hx).2 t htt (List.mem_singleton.1 h)) (fun h => (ht0 x hx).1 (List.mem_singleton.1 h)) (fun h => by cases h) (ht x hx)) (List.nodup_cons.1 hnd).2 (fun q hq => ?_)
    obtain ⟨a1, b1, c1, d1⟩ := hr q (List.mem_cons_of_mem _ hq)
    refine ⟨a1, b1, c1, ?_⟩
    rw [World.putObj_heap_other fun e => (List.nodup_cons.1 hnd).1 (by rw [← e]; exact hq)]; exact d1
def notZero (n : Nat) (A : As) : Bool := ((List.range n).all fun c => (A.slots c).cdeps.all fun t => Nat.ble 1 t) && A.tags.all fun x => Nat.ble 1 x.1 && x.2.cdeps.all fun t => Nat.ble 1 t
theorem m_ret {R : Ending → World → Prop} (hz : notZero n A = true) (h : Into ⟨n, w0, M0, F, .plain⟩ A (bodyPost P fn R .ret)) : Into ⟨n, w0, M0, F, .marks⟩ A (bodyPostM Fence.wide 0 P fn R .ret) := by
  intro a w ⟨M, ok, hsl, htg⟩
  obtain ⟨rs, e, g1, g2, g3⟩ := ok.defers
  simp only [notZero, Bool.and_eq_true, List.all_eq_true, List.mem_range, Nat.ble_eq] at hz
  show LeavesInM Fence.wide 0 P fn a.tmps R a.defers .returning w
  rw [e]
  refine leaves_marks (pass := []) (s := A.slots) (tgs := A.tags) ⟨n, w0, M0, F, .marks⟩ (fun c hc t ht => by have := hz.1 c hc t ht; omega) (fun x hx => ⟨by have := (hz.2 x hx).1; omega, fun t ht => by have := (hz.2 x hx).2 t ht; omega⟩) (fun w2 M2 wf hb hs ht => ?_) rs w M ok.wf ok.base hsl htg g2 (fun r hr => ?_)
  · exact (h { tmps := a.tmps, defers := [] } w2 ⟨M2, ⟨wf, hb, ok.size, Defs.nil⟩, hs, ht⟩).2
  · obtain ⟨a1, b1, c1⟩ := g3 r hr
    exact ⟨a1, b1.1, b1.2, c1⟩
theorem fnM_intro {f : FuncId} {fn : Func} {c : Code} {args : List Ty} {res : Ty} {n : Nat} (hf : P.funcs[f]? = some fn) (hb : fn.body = some c) (hn : (fn.name == "runtime.NumGoroutine") = false) (hnt : fn.ntmps = n) (hl : args.length ≤ n)
    (h : ∀ w0 M0, Tri P ⟨n, w0, M0, [], .marks⟩ c (entry args) (bodyPostM Fence.wide 0 P fn (retPost w0 M0 res))) : Ctr P f args res := by
  refine ⟨⟨fn, hf, hn, by rw [hb]; rfl⟩, fun w M vs wf hM hd => callsIn_wide.1 (callsIn_of_wp_marks (n := 0) hf hb trivial (h w M _ _ ?_))⟩
  have hlen := dens_len hd
  refine ⟨M, ⟨wf, Le.refl _ _ _ _, by simp [hnt, hlen]; omega, Defs.nil⟩, fun c hc => ?_, by simp [entry]⟩
  simp only [entry]
  cases ha : args[c]? with
  | none => trivial
  | some ty =>
    obtain ⟨v, hv, hdv⟩ := dens_get hd c ty ha
    have : (vs.toArray ++ Array.replicate (fn.ntmps - vs.toArray.size) undef).getD c undef = v := by
      have hlt : c < vs.length := (List.getElem?_eq_some_iff.1 hv).1
      rw [Array.getD_eq_getD_getElem?, Array.getElem?_append_left (by simpa using hlt)]
      simp [hv]
    rw [this]; exact hdv
theorem enc_get {α : Type} [Inhabited α] {xs : List α} {f : α → List Ty} {k : Nat} {t : List Ty} (h : (xs.map f)[k]? = some t) : k < xs.length ∧ t = f (nth xs k) := by
  rw [List.getElem?_map] at h
  obtain ⟨x, hx, rfl⟩ := Option.map_eq_some_iff.1 h
  obtain ⟨hk, e⟩ := List.getElem?_eq_some_iff.1 hx
  exact ⟨hk, by rw [nth_lt hk, e]⟩
theorem get_enc {α : Type} [Inhabited α] {xs : List α} {f : α → List Ty} {k : Nat} {t : List Ty} (h : k < xs.length) (e : f (nth xs k) = t) : (xs.map f)[k]? = some t := by
  rw [List.getElem?_map, List.getElem?_eq_getElem h, ← nth_lt h, ← e]; rfl
end
section
variable {P : Program} {fr : Fr} {A : As} {Q : Exit → Act → World → Prop}
theorem t_regionYn (n : Nat) {id : Nat} {l : List Oper} {o : Oper} (hl : l[n]? = some o) (hkd : fr.kd = .iter)
    (h : TOps P fr l.toArray (l.take n) A fun A1 _ => ∃ f g, OpY P fr l.toArray o A1 f g ∧ TOps P fr l.toArray (l.drop (n + 1)) (A1.after f) (fun A' _ => Into fr A' (Q .normal)) ∧ TOps P fr l.toArray (l.drop (n + 1)) (A1.after g) (fun A' _ => Into fr A' (Q .normal))) :
    Tri P fr (.region id l.toArray false) A Q := by
  have e : l.take n ++ o :: l.drop (n + 1) = l := by
    obtain ⟨hn, he⟩ := List.getElem?_eq_some_iff.1 hl
    rw [← he, List.getElem_cons_drop, List.take_append_drop]
  have := t_regionY (P := P) (fr := fr) (A := A) (Q := Q) (id := id) (l1 := l.take n) (l2 := l.drop (n + 1)) (o := o) hkd
  rw [e] at this
  exact this h
end
section
variable {P : Program} {fr : Fr} {ops : Array Oper} {A : As} {rest : List Oper} {K : As → List (As × Fx) → Prop} {d : Nat} {t ty' : TypeId} {p : String} {e : Array Edge} {x : Operand}
theorem mvM {tg : Nat} (hx : A.op fr x = .mp tg) (h : TOps P fr ops rest (A.set d (.mp tg)) fun A' l' => K A' ((A, { d := some d, ty := .mp tg, rs := opR x }) :: l')) : TOps P fr ops (⟨some d, .move x, t, p, e, none⟩ :: rest) A K := r_move hx h
theorem asM {tg : Nat} (hx : A.op fr x = .mp tg) (h : TOps P fr ops rest (A.set d (.mp tg)) fun A' l' => K A' ((A, { d := some d, ty := .mp tg, rs := opR x }) :: l')) : TOps P fr ops (⟨some d, .assign x, t, p, e, none⟩ :: rest) A K := r_assign hx h
theorem mvMP {κ β : Type} [DecidableEq κ] {enc : κ → Value} {V : VT β} {kvs : List (κ × β)} (hx : A.op fr x = .pm enc V kvs) (h : TOps P fr ops rest (A.set d (.pm enc V kvs)) fun A' l' => K A' ((A, { d := some d, ty := .pm enc V kvs, rs := opR x }) :: l')) : TOps P fr ops (⟨some d, .move x, t, p, e, none⟩ :: rest) A K := r_move hx h
theorem asMP {κ β : Type} [DecidableEq κ] {enc : κ → Value} {V : VT β} {kvs : List (κ × β)} (hx : A.op fr x = .pm enc V kvs) (h : TOps P fr ops rest (A.set d (.pm enc V kvs)) fun A' l' => K A' ((A, { d := some d, ty := .pm enc V kvs, rs := opR x }) :: l')) : TOps P fr ops (⟨some d, .assign x, t, p, e, none⟩ :: rest) A K := r_assign hx h
end
section
variable {P : Program} {A : As} {fn : Func} {n : Nat} {w0 : World} {M0 : Tags} [T : Tab P]
theorem i_rcella_eq {α : Type} {E : El α} {xs ys : List α} {tm ty tg Tb : Nat} {ti : TI} (e : xs = ys) (hr : fn.results = #[.cell tm ty]) (ht : Nat.blt tm n = true) (hx : A.slots tm = .ptr tg 0) (hc : A.tag tg = some (.vec E Tb xs)) (h1 : 1 ≤ tg) (hT : T.tab[ty]? = some ti) (ha : ti.k.agg = true) (hsz : xs.length * E.size = ti.size) (hne : xs ≠ []) : Into ⟨n, w0, M0, [], .plain⟩ A (bodyPost P fn (retPost w0 M0 (.arr E ys)) .ret) := by
  subst e; exact i_rcella hr ht hx hc h1 hT ha hsz hne
end
end Go.T

namespace Go.T
open Go Go.RowKit
section
variable {P : Program} {fr : Fr} {ops : Array Oper} {A : As} {rest : List Oper} {K : As → List (As × Fx) → Prop} {d : Nat} {t ty' : TypeId} {p : String} {e : Array Edge} [T : Tab P]
variable {α β : Type} {E : El α} {E' : El β} {x y : Operand} {tg off Tb : Nat} {ti te tf : TI} {ty : Ty} {o z : α}
theorem one_flat {α : Type} (E : El α) (o : α) : [o].flatMap E.tys = E.tys o := by simp
theorem r_load_ob (hx : A.op fr x = .ptr tg off) (hc : A.tag tg = some (.vec E Tb [o])) (h1 : 1 ≤ tg) (hT : T.tab[ty']? = some ti) (ha : ti.k.agg = false) (hl : (E.tys o)[off]? = some ty)
    (h : TOps P fr ops rest (A.set d ty) fun A' l => K A' ((A, { d := some d, ty := ty, rs := opR x, rt := [tg] }) :: l)) : TOps P fr ops (⟨some d, .load ty' x, t, p, e, none⟩ :: rest) A K :=
  tops_pure (opT_pure rfl rfl fun a w M wf hr ht => by
    have := op_den (x := x) (fun _ h => h) hr
    rw [hx] at this
    obtain ⟨b, hb, e⟩ := this
    obtain ⟨v, hv, hd⟩ := vec_cell wf h1 hb (vec_den hc w M ht) (by rw [one_flat]; exact hl)
    exact ⟨v, by simp [execOp, e, run_load1 hT ha hv], hd⟩) h
theorem cells_take {l : List Ty} {off n : Nat} {w : World} {M : Tags} {b q : Nat} (h : ∀ (i : Nat) (t : Ty), l[i]? = some t → ∃ v, w.cell? ⟨b, q + i, none⟩ = some v ∧ t.den w M v) {m : List Ty} (hm : (l.drop off).take n = m) (hn : m.length = n) :
    ∃ cs : List Value, cs.length = n ∧ dens w M m cs ∧ ∀ j v, cs[j]? = some v → w.cell? ⟨b, q + off + j, none⟩ = some v := by
  have hget : ∀ (i : Nat) (t : Ty), (l.drop off)[i]? = some t → ∃ u, w.cell? ⟨b, q + off + i, none⟩ = some u ∧ t.den w M u := fun i t hi => by
    rw [List.getElem?_drop] at hi
    obtain ⟨v, hv, hd⟩ := h _ _ hi
    exact ⟨v, by rw [Nat.add_assoc]; exact hv, hd⟩
  have hle : n ≤ (l.drop off).length := by
    have := congrArg List.length hm
    rw [List.length_take, hn] at this; omega
  obtain ⟨cs, h1, h2, h3⟩ := op_cells hget n hle
  exact ⟨cs, h1, hm ▸ h2, h3⟩
theorem r_store_ob (hx : A.op fr x = .ptr tg off) (hc : A.tag tg = some (.vec E Tb [o])) (h1 : 1 ≤ tg) (hT : T.tab[ty']? = some ti) (hsz : ti.size = 1) (hy : A.op fr y = ty) (ho : ty.one = true) (hoff : off < E.size) (hdt : disj ty.cdeps [tg] = true) (hl : (E.tys o).set off ty = E.tys z)
    (h : TOps P fr ops rest (A.after { d := none, S := [tg], sets := [(tg, .vec E Tb [z])], rs := opR x ++ opR y, rt := [tg] }) fun A' l'' => K A' ((A, { d := none, S := [tg], sets := [(tg, .vec E Tb [z])], rs := opR x ++ opR y, rt := [tg] }) :: l'')) :
    TOps P fr ops (⟨none, .store ty' x y, t, p, e, none⟩ :: rest) A K := by
  have hin : Inhabited α := ⟨o⟩
  exact r_store_vec (E := E) (xs := [o]) (i := 0) (o := off) (z := z) (by rw [hx]; congr 1; omega) hc h1 hT hsz hy ho (by simp) hoff hdt (by have : nth [o] 0 = o := rfl; rw [this]; exact hl) h
def dAo (E : El α) (o : α) (w : World) (M : Tags) (v : Value) : Prop := ∃ cs : Array Value, v = .agg cs ∧ dens w M (E.tys o) cs.toList
def Ty.ao (E : El α) (o : α) : Ty :=
  { den := dAo E o, mono := fun le _ _ ⟨cs, e, h⟩ => ⟨cs, e, dens_mono le (by rw [E.nodeps]; intro _ h; cases h) (by rw [E.nocdeps]; intro _ h; cases h) h⟩ }
theorem r_buildO (E : El α) (o : α) {parts : Array (Nat × Operand)} {fs : List (Nat × Nat)} {ls : List (Nat × List Ty)} (hT : T.tab[ty']? = some ti) (hk : ti.k = .struct fs) (hz : ti.zero ≠ []) (hfs : (fs.all fun f => (T.tab[f.2]?).isSome) = true) (hp : Parts A fr parts.toList ls) (hf : fillT (placesOf T.tab fs) (ti.zero.map Ty.ofVal) ls = some (E.tys o))
    (h : TOps P fr ops rest (A.set d (.ao E o)) fun A' l' => K A' ((A, { d := some d, ty := .ao E o, rs := parts.toList.flatMap fun x => opR x.2 }) :: l')) : TOps P fr ops (⟨some d, .build ty' parts, t, p, e, none⟩ :: rest) A K := by
  have key : TOps P fr ops [⟨some d, .build ty' parts, t, p, e, none⟩] A fun _ l => ∃ f, l = [(A, f)] ∧ f = { d := some d, ty := .agg (E.tys o), rs := parts.toList.flatMap fun x => opR x.2 } := r_build hT hk hz hfs hp hf (r_nil ⟨_, rfl, rfl⟩)
  obtain ⟨f, hop, f', hl, hf'⟩ := key
  have e1 : f = f' := by injection hl with h1 _; injection h1
  subst e1; subst hf'
  obtain ⟨a1, a2, a3, a4, a5⟩ := hop
  refine ⟨{ d := some d, ty := .ao E o, rs := parts.toList.flatMap fun x => opR x.2 }, ⟨a1, a2, a3, a4, fun a w M wf hs hr ht => ?_⟩, h⟩
  exact a5 a w M wf hs hr ht
theorem r_box_ob (o : α) (hx : A.op fr x = .ao E o) (hp : fr.pass.contains (d + 1) = false)
    (h : TOps P fr ops rest (A.after { d := some d, ty := .ptr (d + 1) 0, K := [d + 1], sets := [(d + 1, .vec E ty' [o])], rs := opR x }) fun A' l' => K A' ((A, { d := some d, ty := .ptr (d + 1) 0, K := [d + 1], sets := [(d + 1, .vec E ty' [o])], rs := opR x }) :: l')) :
    TOps P fr ops (⟨some d, .box ty' x, t, p, e, none⟩ :: rest) A K := by
  have _ := T
  refine ⟨_, opT_mem rfl rfl (by simp) (by simp) (by simp at hp ⊢; exact hp) fun a w M wf hr _ => ?_, h⟩
  have hd := op_den (x := x) (fun _ h => h) hr
  rw [hx] at hd
  obtain ⟨cs, ex, hds⟩ := hd
  obtain ⟨h1, h2, h3⟩ := le_alloc wf (.cells cs ty') (d + 1)
  refine ⟨.pointer (some ⟨w.heap.size, 0, none⟩), w.alloc (.cells cs ty'), ?_, _, h1, h2, ⟨_, h3, rfl⟩, ?_⟩
  · simp [execOp, Instr.box, newVar, newRow, newObj, Sem.run, ex, Value.cells]
  · intro x hx
    simp only [List.mem_singleton] at hx
    subst hx
    refine .inr ⟨w.heap.size, cs, h3, alloc_new _ _, ?_⟩
    have hlen := dens_len hds
    rw [one_flat, ← hlen, List.take_length]
    exact dens_mono h2 (by rw [E.nodeps]; intro _ h; cases h) (by intro _ _ h; cases h) hds
def dPe (E : El α) (o : α) (off : Nat) (w : World) (M : Tags) (v : Value) : Prop := ∃ b q, v = .pointer (some ⟨b, q + off, none⟩) ∧ pubAt w M b q (E.tys o)
def Ty.pe (E : El α) (o : α) (off : Nat) : Ty :=
  ⟨dPe E o off, [], [], fun le _ _ ⟨b, q, e, h⟩ => ⟨b, q, e, pubAt_mono le (by rw [E.nodeps]; intro _ h; cases h) (by rw [E.nocdeps]; intro _ h; cases h) h⟩, true, fun _ ⟨_, _, e, _⟩ => e ▸ rfl⟩
theorem r_load_pe (hx : A.op fr x = .pe E o off) (hT : T.tab[ty']? = some ti) (ha : ti.k.agg = false) (hl : (E.tys o)[off]? = some ty)
    (h : TOps P fr ops rest (A.set d ty) fun A' l => K A' ((A, { d := some d, ty := ty, rs := opR x }) :: l)) : TOps P fr ops (⟨some d, .load ty' x, t, p, e, none⟩ :: rest) A K :=
  tops_pure (opT_pure (rt := []) rfl rfl fun a w M _ hr _ => by
    have := op_den (x := x) (fun _ h => h) hr
    rw [hx] at this
    obtain ⟨b, q, e, hp⟩ := this
    obtain ⟨v, hv, hd⟩ := hp.2.2 off ty hl
    exact ⟨v, by simp [execOp, e, run_load1 hT ha hv], hd⟩) h
theorem r_load_peA {ys : List β} (hx : A.op fr x = .pe E o off) (hT : T.tab[ty']? = some ti) (ha : ti.k.agg = true) (hm : ((E.tys o).drop off).take ti.size = ys.flatMap E'.tys) (hn : (ys.flatMap E'.tys).length = ti.size)
    (h : TOps P fr ops rest (A.set d (.arr E' ys)) fun A' l => K A' ((A, { d := some d, ty := .arr E' ys, rs := opR x }) :: l)) : TOps P fr ops (⟨some d, .load ty' x, t, p, e, none⟩ :: rest) A K :=
  tops_pure (opT_pure (rt := []) rfl rfl fun a w M _ hr _ => by
    have := op_den (x := x) (fun _ h => h) hr
    rw [hx] at this
    obtain ⟨b, q, e, hp⟩ := this
    obtain ⟨cs, g1, g2, g3⟩ := cells_take hp.2.2 hm hn
    exact ⟨.agg cs.toArray, by simp only [execOp, e]; rw [Sem.run_bind, run_loadN (off := q + off) hT ha g1 g3]; rfl, cs.toArray, rfl, by simpa using g2⟩) h
theorem r_nilCheck_pe (hx : A.op fr x = .pe E o off) (h : TOps P fr ops rest (A.set d (.pe E o off)) fun A' l' => K A' ((A, { d := some d, ty := .pe E o off, rs := opR x }) :: l')) : TOps P fr ops (⟨some d, .nilCheck x, t, p, e, none⟩ :: rest) A K :=
  tops_pure (opT_pure (rt := []) rfl rfl fun a w M _ hr _ => by
    have _ := T
    have := op_den (x := x) (fun _ h => h) hr
    rw [hx] at this
    have hd := this
    obtain ⟨b, q, e, hp⟩ := this
    exact ⟨a.eval x, by simp [execOp, e], hd⟩) h
theorem r_field_pe {f : Nat} {fs : List (Nat × Nat)} {fo ft : Nat} (hx : A.op fr x = .pe E o off) (hT : T.tab[ty']? = some ti) (hk : ti.k = .struct fs) (hf : fs[f]? = some (fo, ft)) (hF : T.tab[ft]? = some tf) (h0 : tf.size ≠ 0)
    (h : TOps P fr ops rest (A.set d (.pe E o (off + fo))) fun A' l' => K A' ((A, { d := some d, ty := .pe E o (off + fo), rs := opR x }) :: l')) : TOps P fr ops (⟨some d, .fieldAddr ty' x f, t, p, e, none⟩ :: rest) A K :=
  tops_pure (opT_pure (rt := []) rfl rfl fun a w M _ hr _ => by
    have := op_den (x := x) (fun _ h => h) hr
    rw [hx] at this
    obtain ⟨b, q, ex, hp⟩ := this
    refine ⟨_, by simp only [execOp, ex, Sem.run_bind, run_field hT hk hf hF h0]; rfl, b, q, by simp [Nat.add_assoc], hp⟩) h
theorem r_index_pe {n : Nat} {k : IntKind} {i : Nat} {el : Nat} (hx : A.op fr x = .pe E o off) (hy : A.op fr y = .int k i) (hT : T.tab[ty']? = some ti) (hk : ti.k = .array n el) (hE : T.tab[el]? = some te) (h1 : i < n)
    (h : TOps P fr ops rest (A.set d (.pe E o (off + i * te.size))) fun A' l' => K A' ((A, { d := some d, ty := .pe E o (off + i * te.size), rs := opR x ++ opR y }) :: l')) : TOps P fr ops (⟨some d, .indexAddr ty' x y, t, p, e, none⟩ :: rest) A K :=
  tops_pure (opT_pure (rt := []) rfl rfl fun a w M _ hr _ => by
    obtain ⟨hdx, hdy⟩ := op2 hr
    rw [hx] at hdx; rw [hy] at hdy
    obtain ⟨b, q, ex, hp⟩ := hdx
    have ey : a.eval y = .int k i := hdy
    refine ⟨_, by simp only [execOp, ex, ey, Sem.run_bind, run_index_array hT hk hE (Int.natCast_nonneg i) (show (i : Int).toNat < n from h1)]; rfl, b, q, by simp [Nat.add_assoc], hp⟩) h
theorem mvPe (hx : A.op fr x = .pe E o off) (h : TOps P fr ops rest (A.set d (.pe E o off)) fun A' l' => K A' ((A, { d := some d, ty := .pe E o off, rs := opR x }) :: l')) : TOps P fr ops (⟨some d, .move x, t, p, e, none⟩ :: rest) A K := by
  have _ := T
  exact r_move hx h
theorem asPe (hx : A.op fr x = .pe E o off) (h : TOps P fr ops rest (A.set d (.pe E o off)) fun A' l' => K A' ((A, { d := some d, ty := .pe E o off, rs := opR x }) :: l')) : TOps P fr ops (⟨some d, .assign x, t, p, e, none⟩ :: rest) A K := by
  have _ := T
  exact r_assign hx h
theorem pub_ob {s : Nat} (hx : A.slots s = .ptr tg off) (hc : A.tag tg = some (.vec E Tb [o])) (h1 : 1 ≤ tg) : PubTo A tg s (.pe E o off) := by
  intro w M v wf ht hv
  rw [hx] at hv
  obtain ⟨b, hb, e⟩ := hv
  have hv := ht _ (tag_mem hc)
  refine ⟨b, 0, by simpa using e, by simp [pubTag, hb], wf.lt b _ hb, fun i t hi => ?_⟩
  obtain ⟨u, hu, hd⟩ := vec_cell (E := E) (Tb := Tb) (xs := [o]) wf h1 hb hv (by rw [one_flat]; exact hi)
  refine ⟨u, by rw [Nat.zero_add]; exact hu, t.mono (pubTag_le (w := w) (tg := tg)) ?_ ?_ hd⟩
  · intro u hu
    have : u ∈ depsOf (E.tys o) := List.mem_flatMap.2 ⟨t, List.mem_of_getElem? hi, hu⟩
    rw [E.nodeps] at this; cases this
  · intro u _ h; cases h
end
theorem Ctr.mono {P : Program} {f : FuncId} {args : List Ty} {r r' : Ty} (h : Ctr P f args r) (hs : r.Sub r') : Ctr P f args r' :=
  ⟨h.1, fun w M vs wf hM hd => (h.2 w M vs wf hM hd).mono fun _ _ ⟨v, M', e, a, b, c⟩ => ⟨v, M', e, a, b, hs _ _ _ c⟩⟩
section
variable {P : Program} {fr : Fr} {A : As} {Q : Exit → Act → World → Prop} {x y : Code}
theorem t_cond_tt {c : Operand} {b : Bool} (hc : A.op fr c = .bool b) (hb : b = true) (h1 : Tri P fr x A Q) : Tri P fr (.cond c x y) A Q := t_cond hc (fun _ => h1) (fun h => by rw [hb] at h; cases h)
theorem t_cond_ff {c : Operand} {b : Bool} (hc : A.op fr c = .bool b) (hb : b = false) (h1 : Tri P fr y A Q) : Tri P fr (.cond c x y) A Q := t_cond hc (fun h => by rw [hb] at h; cases h) (fun _ => h1)
end
end Go.T

namespace Go.T
open Go Go.RowKit
def Ty.nd (t : Ty) (h1 : t.deps = []) (h2 : t.cdeps = []) : Ty := ⟨t.den, [], [], fun le _ _ h => t.mono le (by rw [h1]; intro _ h; cases h) (by rw [h2]; intro _ h; cases h) h, t.one, t.isOne⟩
theorem cal_nd {P : Program} {t : Ty} {args : List Ty} {res : Ty} (h1 : t.deps = []) (h2 : t.cdeps = []) (h : Cal P t args res) : Cal P (t.nd h1 h2) args res := h
def dWhen (c : Bool) (t : Ty) (w : World) (M : Tags) (v : Value) : Prop := v.oneCell' = true ∧ (c = true → t.den w M v)
def Ty.when (c : Bool) (t : Ty) : Ty := { den := dWhen c t, deps := t.deps, cdeps := t.cdeps, mono := fun le hk hs h => ⟨h.1, fun hc => t.mono le hk hs (h.2 hc)⟩, one := true, isOne := fun _ h => h.1 }
theorem Ty.when_sub {c : Bool} {t : Ty} (h : c = true) : (Ty.when c t).Sub t := fun _ _ _ hd => hd.2 h
theorem Ty.sub_when {c : Bool} {s t : Ty} (ho : s.one = true) (h : c = true → s.Sub t) : s.Sub (Ty.when c t) := fun _ _ _ hd => ⟨s.isOne ho hd, fun hc => h hc _ _ _ hd⟩
theorem Ty.pp_sub1 {s t : Ty} (h : s.Sub t) : (Ty.pp [s]).Sub (Ty.pp [t]) := fun w M v ⟨b, off, e, h1, h2, h3⟩ => ⟨b, off, e, h1, h2, fun i u hu => by
  cases i with
  | zero =>
    simp at hu; subst hu
    obtain ⟨x, hx, hd⟩ := h3 0 s rfl
    exact ⟨x, hx, h _ _ _ hd⟩
  | succ i => simp at hu⟩
theorem Ty.tup2_sub {a b c d : Ty} (h1 : a.Sub c) (h2 : b.Sub d) : (Ty.tup [a, b]).Sub (Ty.tup [c, d]) := fun _ _ _ ⟨cs, e, hd⟩ => ⟨cs, e, by
  cases h : cs.toList with
  | nil => rw [h] at hd; exact hd.elim
  | cons x l => cases l with
    | nil => rw [h] at hd; exact hd.2.elim
    | cons y l => rw [h] at hd; exact ⟨h1 _ _ _ hd.1, h2 _ _ _ hd.2.1, hd.2.2⟩⟩
section
variable {P : Program} {fr : Fr} {ops : Array Oper} {A : As} {rest : List Oper} {K : As → List (As × Fx) → Prop} {d : Nat} {t ty' : TypeId} {p : String} {e : Array Edge}
variable {α β : Type} {E : El α} {E' : El β} {x y : Operand} {tg off Tb : Nat} {ti te tf : TI} {ty : Ty} {o z : α} {xs : List α}
def dPa (E : El α) (xs : List α) (off : Nat) (w : World) (M : Tags) (v : Value) : Prop := ∃ b q, v = .pointer (some ⟨b, q + off, none⟩) ∧ pubAt w M b q (xs.flatMap E.tys)
def Ty.pa (E : El α) (xs : List α) (off : Nat) : Ty :=
  ⟨dPa E xs off, [], [], fun le _ _ ⟨b, q, e, h⟩ => ⟨b, q, e, pubAt_mono le (by rw [E.flat_deps]; intro _ h; cases h) (by rw [E.flat_cdeps]; intro _ h; cases h) h⟩, true, fun _ ⟨_, _, e, _⟩ => e ▸ rfl⟩
theorem r_box_arr (hx : A.op fr x = .arr E xs) (h : TOps P fr ops rest (A.set d (.pa E xs 0)) fun A' l' => K A' ((A, { d := some d, ty := .pa E xs 0, rs := opR x }) :: l')) : TOps P fr ops (⟨some d, .box ty' x, t, p, e, none⟩ :: rest) A K := by
  refine ⟨_, opT_mem (f := { d := some d, ty := .pa E xs 0, rs := opR x }) rfl rfl (by simp) (by simp) (by simp) fun a w M wf hr _ => ?_, h⟩
  have hd := op_den (x := x) (fun _ h => h) hr
  rw [hx] at hd
  obtain ⟨cs, ex, hds⟩ := hd
  obtain ⟨h1, h2, _⟩ := le_new wf (.cells cs ty')
  refine ⟨.pointer (some ⟨w.heap.size, 0, none⟩), w.alloc (.cells cs ty'), ?_, M, h1, h2, ⟨_, 0, rfl, ?_⟩, by simp⟩
  · simp [execOp, Instr.box, newVar, newRow, newObj, Sem.run, ex, Value.cells]
  · exact pub_new (T := ty') wf hds
theorem asW {c : Bool} {ty : Ty} (hx : A.op fr x = .when c ty) (h : TOps P fr ops rest (A.set d (.when c ty)) fun A' l' => K A' ((A, { d := some d, ty := .when c ty, rs := opR x }) :: l')) : TOps P fr ops (⟨some d, .assign x, t, p, e, none⟩ :: rest) A K := r_assign hx h
variable [T : Tab P]
theorem r_load_pa [Inhabited α] {i : Nat} (hx : A.op fr x = .pa E xs off) (hT : T.tab[ty']? = some ti) (ha : ti.k.agg = false) (he : off = i * E.size) (hi : i < xs.length) (hl : (E.tys (nth xs i))[0]? = some ty)
    (h : TOps P fr ops rest (A.set d ty) fun A' l => K A' ((A, { d := some d, ty := ty, rs := opR x }) :: l)) : TOps P fr ops (⟨some d, .load ty' x, t, p, e, none⟩ :: rest) A K :=
  tops_pure (opT_pure (rt := []) rfl rfl fun a w M _ hr _ => by
    have := op_den (x := x) (fun _ h => h) hr
    rw [hx] at this
    obtain ⟨b, q, e, hp⟩ := this
    obtain ⟨v, hv, hd⟩ := hp.2.2 off ty (by rw [he]; exact flat_elem E xs hi 0 ty hl)
    exact ⟨v, by simp [execOp, e, run_load1 hT ha hv], hd⟩) h
theorem r_index_pa {n : Nat} {k : IntKind} {i : Nat} {el : Nat} (hx : A.op fr x = .pa E xs off) (hy : A.op fr y = .int k i) (hT : T.tab[ty']? = some ti) (hk : ti.k = .array n el) (hE : T.tab[el]? = some te) (h1 : i < n)
    (h : TOps P fr ops rest (A.set d (.pa E xs (off + i * te.size))) fun A' l' => K A' ((A, { d := some d, ty := .pa E xs (off + i * te.size), rs := opR x ++ opR y }) :: l')) : TOps P fr ops (⟨some d, .indexAddr ty' x y, t, p, e, none⟩ :: rest) A K :=
  tops_pure (opT_pure (rt := []) rfl rfl fun a w M _ hr _ => by
    obtain ⟨hdx, hdy⟩ := op2 hr
    rw [hx] at hdx; rw [hy] at hdy
    obtain ⟨b, q, ex, hp⟩ := hdx
    have ey : a.eval y = .int k i := hdy
    refine ⟨_, by simp only [execOp, ex, ey, Sem.run_bind, run_index_array hT hk hE (Int.natCast_nonneg i) (show (i : Int).toNat < n from h1)]; rfl, b, q, by simp [Nat.add_assoc], hp⟩) h
theorem r_index_peI {n : Nat} {k : IntKind} {i : Int} {el : Nat} (hx : A.op fr x = .pe E o off) (hy : A.op fr y = .int k i) (hT : T.tab[ty']? = some ti) (hk : ti.k = .array n el) (hE : T.tab[el]? = some te) (h0 : 0 ≤ i) (h1 : i.toNat < n)
    (h : TOps P fr ops rest (A.set d (.pe E o (off + i.toNat * te.size))) fun A' l' => K A' ((A, { d := some d, ty := .pe E o (off + i.toNat * te.size), rs := opR x ++ opR y }) :: l')) : TOps P fr ops (⟨some d, .indexAddr ty' x y, t, p, e, none⟩ :: rest) A K :=
  tops_pure (opT_pure (rt := []) rfl rfl fun a w M _ hr _ => by
    obtain ⟨hdx, hdy⟩ := op2 hr
    rw [hx] at hdx; rw [hy] at hdy
    obtain ⟨b, q, ex, hp⟩ := hdx
    have ey : a.eval y = .int k i := hdy
    refine ⟨_, by simp only [execOp, ex, ey, Sem.run_bind, run_index_array hT hk hE h0 h1]; rfl, b, q, by simp [Nat.add_assoc], hp⟩) h
theorem r_shrI {ty2 : TypeId} {a : Nat} {b : Int} (hx : A.op fr x = .int .i64 (a : Nat)) (hy : A.op fr y = .int .i64 b) (h0 : 0 ≤ b) (h1 : b ≤ 63)
    (h : TOps P fr ops rest (A.set d (.int .i64 ((a >>> b.toNat : Nat) : Int))) fun A' l' => K A' ((A, { d := some d, ty := .int .i64 ((a >>> b.toNat : Nat) : Int), rs := opR x ++ opR y }) :: l')) : TOps P fr ops (⟨some d, .binOp .shr ty' x y ty2, t, p, e, none⟩ :: rest) A K :=
  by
  have _ := T
  exact r_shrN (b := b.toNat) hx (by rw [hy, Int.toNat_of_nonneg h0]) (by omega) h
end
theorem ret_nil_eq {α : Type} {E : El α} {xs : List α} (e : xs = []) : RetSub (Ty.ex (.slice none 0 0)) (Ty.sl E xs) := e ▸ ret_nil
theorem vi64_zero (w : World) (M : Tags) : (VI64.ty 0).den w M (.int .i64 0) := rfl
def SubL : List Ty → List Ty → Prop
  | [], [] => True
  | s :: ss, t :: ts => s.Sub t ∧ SubL ss ts
  | _, _ => False
theorem subL_dens {w : World} {M : Tags} : ∀ {ss ts : List Ty} {vs : List Value}, SubL ss ts → dens w M ss vs → dens w M ts vs
  | [], [], [], _, _ => trivial
  | _ :: _, _ :: _, _ :: _, ⟨h, h'⟩, ⟨h1, h2⟩ => ⟨h _ _ _ h1, subL_dens h' h2⟩
theorem Ctr.args {P : Program} {f : FuncId} {a a' : List Ty} {r : Ty} (h : Ctr P f a r) (hs : SubL a' a) : Ctr P f a' r :=
  ⟨h.1, fun w M vs wf hM hd => h.2 w M vs wf hM (subL_dens hs hd)⟩
section
variable {P : Program} {A : As} {fn : Func} {n m : Nat} {w0 : World} {M0 : Tags} {J : Nat → World → Tags → Prop} {Jx : World → Tags → Prop} {resD resS : Ty}
theorem y_ret0e {k : Nat} {hJ : ∀ k, Cb (J k)} (e : k = m) (hr : fn.results = #[]) (ht : A.tag 0 = some (CJ (hJ k))) : Into ⟨n, w0, M0, [], .iter⟩ A (bodyPost P fn (iterPost m J Jx (Ty.tup []) resS) .ret) := by
  subst e; exact y_ret0 hr ht
end
end Go.T

namespace Go.Proofs.YtifgbnbkimcchaaGreat
open Go Go.T
attribute [local irreducible] dInt dBool dSl dPp dPtr dAgg dTup dClo dAny dEx dStr dGd dCells dVec dVs dRow dOp nth Tri Into TOps Ctr bodyPost Exit.then Exit.inBlock Code.wp Code.wpIn dWhen dPa dPe dAo dArr dMp dPm dMap dCJ CtrG CtrI OpY keepPost iterPost bodyPostM roundQ
set_option maxRecDepth 100000 in
theorem c_ahead (f : Flr) (hs : f.Small) (hf : f.Ruled) : Ctr Tryz.prog 81 [flrT f] (Ty.arr N64 (aheadP f)) := by
  refine fn_intro Tryz.func81 rfl (by decide) Tryz.ntmps81 (by exact Nat.le_of_ble_eq_true rfl) fun w0 M0 => ?_
  have hs1 := hs.bears; have hs2 := hs.bins; have hs3 := hs.turnings; have hs4 := hs.rules
  refine t_seq ?_
  refine t_region ?_
  refine r_box_agg rfl ?_
  refine r_alloc rfl (by exact List.cons_ne_nil _ _) rfl ?_
  refine r_nil ?_
  refine i_then ?_
  refine t_seq ?_
  refine t_region ?_
  refine r_allocV (E := N64) (xs := List.replicate 8 0) rfl (by exact List.cons_ne_nil _ _) rfl rfl ?_
  refine r_nil ?_
  refine i_then ?_
  refine t_block ?_
  refine t_loop (fun (x : {x : Nat × List Nat // iterR f x.1 x.2 = aheadP f ∧ Sets x.2 ∧ 2040 < x.1 + x.2.sum}) => live [(1, Ty.pp (flrTys f)), (2, Ty.ptr 3 0), (3, Ty.ptr 4 0)] [(3, Cont.cells 110 [Ty.int .i64 0, Ty.int .i64 0, Ty.int .i64 0, Ty.int .i64 0, Ty.int .i64 0, Ty.int .i64 0, Ty.int .i64 0, Ty.int .i64 0]), (4, Cont.vec N64 110 x.1.2)]) (fun x => x.1.1) (⟨(2041, List.replicate 8 0), rfl, sets_start, by decide⟩) ?_ fun x => ?_
  · (refine Ent.mk' ?_ ?_ <;> (repeat' (first | exact allSub_zero | exact allTags_nil | refine allSub_succ' ?_ (Ty.sub_any _) | refine allSub_succ' ?_ (Ty.sub_refl _) | refine allTags_cons rfl (Cont.sub_refl _) ?_)))
  ·
    obtain ⟨hx1, hx2, hx3⟩ := x.2
    have hxl := hx2.len
    refine t_block ?_
    refine t_seq ?_
    refine t_region ?_
    refine r_load_vecN rfl rfl (by decide) rfl rfl (by rw [hxl]; rfl) (fun e => by rw [e] at hxl; cases hxl) ?_
    refine r_alloc rfl (by exact List.cons_ne_nil _ _) rfl ?_
    refine r_store_arr rfl rfl (by decide) rfl rfl (by rw [hxl]; rfl) rfl ?_
    refine r_nil ?_
    refine i_then ?_
    refine t_seq ?_
    refine t_seq ?_
    refine t_region ?_
    refine r_field_pp rfl rfl rfl rfl rfl (by decide) ?_
    refine r_load_pp rfl rfl rfl rfl ?_
    refine r_len rfl rfl rfl ?_
    refine mvI rfl ?_
    refine r_nil ?_
    refine i_then ?_
    refine t_block ?_
    refine t_loop (fun (k : Nat) => live [(1, Ty.pp (flrTys f)), (2, Ty.ptr 3 0), (3, Ty.ptr 4 0), (4, Ty.ptr 5 0), (9, Ty.sl RulE f.rules), (10, Ty.int .i64 f.rules.length), (11, Ty.int .i64 (k : Nat))] [(3, Cont.cells 110 [Ty.int .i64 0, Ty.int .i64 0, Ty.int .i64 0, Ty.int .i64 0, Ty.int .i64 0, Ty.int .i64 0, Ty.int .i64 0, Ty.int .i64 0]), (4, Cont.vec N64 110 ((f.rules.take k).foldl stepR x.1.2)), (5, Cont.vec N64 110 x.1.2)]) (fun k => f.rules.length - k) (0) ?_ fun k => ?_
    · (refine Ent.mk' ?_ ?_ <;> (repeat' (first | exact allSub_zero | exact allTags_nil | refine allSub_succ' ?_ (Ty.sub_any _) | refine allSub_succ' ?_ (Ty.sub_refl _) | refine allTags_cons rfl (Cont.sub_refl _) ?_)))
    ·
      refine t_seq ?_
      refine t_region ?_
      refine r_bin rfl rfl rfl ?_
      refine r_nil ?_
      refine i_then ?_
      refine t_seq ?_
      refine t_cond_dec rfl (fun hc1 => ?_) (fun hc1 => ?_)
      ·
        refine t_skip ?_
        refine i_then ?_
        refine t_seq ?_
        refine t_block ?_
        refine t_seq ?_
        refine t_region ?_
        refine r_index_slN rfl rfl rfl rfl rfl rfl (by omega) ?_
        refine r_load_ppN rfl rfl rfl (by exact Nat.le_of_ble_eq_true rfl) ?_
        refine r_alloc rfl (by exact List.cons_ne_nil _ _) rfl ?_
        refine r_storeN rfl rfl (by decide) rfl rfl rfl rfl rfl rfl ?_
        refine r_nil ?_
        refine i_then ?_
        have hrk := hf.2 _ (nth_mem (xs := f.rules) (k := k) (by omega))
        have h8 := hf.1
        have hsk := (fold_grow (f.rules.take k) x.1.2 hx2 fun r hr => ruled8 hf r (List.mem_of_mem_take hr)).1
        have hlk := hsk.len
        have hb1 := hsk.nth (nth f.rules k).nxt.toNat
        have hb2 := hsk.nth (nth f.rules k).fst.toNat
        have hsh : 1 <<< (nth f.rules k).fst.toNat < 256 := by rw [Nat.shiftLeft_eq, Nat.one_mul]; exact (Nat.pow_lt_pow_right (by decide) (show (nth f.rules k).fst.toNat < 8 by omega) : 2 ^ _ < 2 ^ 8)
        have hor : nth ((f.rules.take k).foldl stepR x.1.2) (nth f.rules k).fst.toNat ||| 1 <<< (nth f.rules k).fst.toNat < 256 := Nat.or_lt_two_pow (n := 8) hb2 hsh
        refine t_draw mixed rfl ?_
        refine r_field_ptr rfl rfl rfl rfl rfl (by decide) ?_
        refine r_load_ptr rfl rfl (by decide) rfl rfl rfl ?_
        refine r_index_ptrI (n := 8) rfl rfl rfl rfl rfl (by omega) (by omega) ?_
        refine r_load_vecA rfl rfl rfl (by decide) rfl rfl (by omega) rfl ?_
        refine r_field_ptr rfl rfl rfl rfl rfl (by decide) ?_
        refine r_load_ptr rfl rfl (by decide) rfl rfl rfl ?_
        refine r_index_ptrI (n := 8) rfl rfl rfl rfl rfl (by omega) (by omega) ?_
        refine r_load_vecA rfl rfl rfl (by decide) rfl rfl (by omega) rfl ?_
        refine r_field_ptr rfl rfl rfl rfl rfl (by decide) ?_
        refine r_load_ptr rfl rfl (by decide) rfl rfl rfl ?_
        refine r_shlI (a := 1) rfl rfl (by omega) (by omega) (one_shl (by omega)) ?_
        refine r_orN rfl rfl (by omega) (Nat.lt_trans hsh (by decide)) ?_
        refine r_orN rfl rfl (by omega) (Nat.lt_trans hor (by decide)) ?_
        refine r_index_ptrI (n := 8) rfl rfl rfl rfl rfl (by omega) (by omega) ?_
        refine r_store_vecA (z := nth ((f.rules.take k).foldl stepR x.1.2) (nth f.rules k).nxt.toNat ||| (nth ((f.rules.take k).foldl stepR x.1.2) (nth f.rules k).fst.toNat ||| 1 <<< (nth f.rules k).fst.toNat)) rfl rfl rfl (by decide) rfl rfl (by exact (rfl : _ = Ty.int _ _)) rfl (by omega) (by decide) rfl rfl ?_
        refine r_nil ?_
        refine ⟨by kernel_rfl, ?_⟩
        refine i_block ?_
        refine i_then ?_
        refine t_region ?_
        refine r_add rfl rfl (by omega) (by omega) ?_
        refine mvI rfl ?_
        refine r_nil ?_
        refine i_round (k + 1) ?_ (by omega)
        (refine Ent.mk' ?_ ?_ <;> (repeat' (first | exact allSub_zero | exact allTags_nil | refine allSub_succ' ?_ (Ty.sub_any _) | refine allSub_succ' ?_ (Ty.sub_refl _) | refine allTags_cons rfl (Cont.sub_refl _) ?_ | refine allTags_cons rfl ?_ ?_)))
        all_goals skip
        exact Cont.sub_vec (by rw [take_nth (by omega), List.foldl_append]; rfl)
      ·
        refine t_exit ?_
        refine i_then_exit ?_
        refine i_then_exit ?_
        refine i_block_exit rfl ?_
        refine i_then ?_
        refine t_seq ?_
        have hsk := (fold_grow (f.rules.take k) x.1.2 hx2 fun r hr => ruled8 hf r (List.mem_of_mem_take hr)).1
        have hlk := hsk.len
        refine t_region ?_
        refine r_load_vecN rfl rfl (by decide) rfl rfl (by rw [hlk]; rfl) (fun e => by rw [e] at hlk; cases hlk) ?_
        refine r_load_vecN rfl rfl (by decide) rfl rfl (by rw [hxl]; rfl) (fun e => by rw [e] at hxl; cases hxl) ?_
        refine r_eqla (eqn110 _ _ hlk hxl) rfl rfl ?_
        refine r_nil ?_
        refine i_then ?_
        refine t_cond_dec rfl (fun hc2 => ?_) (fun hc2 => ?_)
        ·
          refine t_seq ?_
          refine t_region ?_
          refine r_load_vecN rfl rfl (by decide) rfl rfl (by rw [hlk]; rfl) (fun e => by rw [e] at hlk; cases hlk) ?_
          refine r_store_arr rfl rfl (by decide) rfl rfl (by rw [hlk]; rfl) rfl ?_
          refine r_nil ?_
          refine i_then ?_
          refine t_ret ?_
          refine i_block_ret ?_
          refine i_then_ret ?_
          refine i_block_ret ?_
          refine i_rcella_eq (hc2.trans ((iter_end hx2 hx3 (by have h := hc2; rw [List.take_of_length_le (by omega)] at h; exact h)).symm.trans hx1)) rfl rfl rfl rfl (by decide) rfl rfl (by rw [hlk]; rfl) (fun e => by rw [e] at hlk; cases hlk)
        ·
          refine t_skip ?_
          refine i_block ?_
          refine i_round (⟨(x.1.1 - 1, roundR f x.1.2), by obtain ⟨m, e1, e2, e3, e4⟩ := iter_next hf hx2 hx3 (fun e => hc2 (by rw [List.take_of_length_le (by omega)]; exact e)); exact ⟨by show iterR f (x.1.1 - 1) _ = _; rw [show x.1.1 - 1 = m by omega, ← e2]; exact hx1, e3, by show 2040 < x.1.1 - 1 + (roundR f x.1.2).sum; omega⟩⟩) ?_ (by show x.1.1 - 1 < x.1.1; have := sets_sum hx2; omega)
          (refine Ent.mk' ?_ ?_ <;> (repeat' (first | exact allSub_zero | exact allTags_nil | refine allSub_succ' ?_ (Ty.sub_any _) | refine allSub_succ' ?_ (Ty.sub_refl _) | refine allTags_cons rfl (Cont.sub_refl _) ?_ | refine allTags_cons rfl ?_ ?_)))
          all_goals skip
          exact Cont.sub_vec (congrArg (fun l => l.foldl stepR x.1.2) (List.take_of_length_le (by omega)))
end Go.Proofs.YtifgbnbkimcchaaGreat

namespace Go.Proofs.YtifgbnbkimcchaaGreat
open Go Go.T
structure Brd where
  f : Flr
  before : List Nat
  adds : List Int
  first : List Int
def brdTys (b : Brd) : List Ty := flrTys b.f ++ (b.before.flatMap N64.tys ++ (b.adds.flatMap I64.tys ++ b.first.flatMap I64.tys))
structure Brd.Sized (b : Brd) : Prop where
  before : b.before.length = 8
  adds : b.adds.length = 32
  first : b.first.length = 4
theorem n64_map : ∀ xs : List Nat, xs.flatMap N64.tys = xs.map fun n => Ty.int .i64 (n : Nat)
  | [] => rfl
  | x :: xs => by rw [List.flatMap_cons, n64_map xs]; rfl
theorem i64_map : ∀ xs : List Int, xs.flatMap I64.tys = xs.map fun n => Ty.int .i64 n
  | [] => rfl
  | x :: xs => by rw [List.flatMap_cons, i64_map xs]; rfl
theorem brdTys_eq (b : Brd) : brdTys b = flrTys b.f ++ ((b.before.map fun n => Ty.int .i64 (n : Nat)) ++ ((b.adds.map fun n => Ty.int .i64 n) ++ b.first.map fun n => Ty.int .i64 n)) := by
  unfold brdTys; rw [n64_map, i64_map, i64_map]
theorem map_nth {α : Type} [Inhabited α] {l : List α} (g : α → Ty) {k : Nat} (h : k < l.length) : (l.map g)[k]? = some (g (nth l k)) := by
  rw [List.getElem?_map, List.getElem?_eq_getElem h, nth_lt h]; rfl
theorem flrTys_len (f : Flr) : (flrTys f).length = 4 := rfl
theorem brd_before {b : Brd} (h : b.Sized) {i : Nat} (hi : i < 8) : (brdTys b)[4 + i]? = some (Ty.int .i64 (nth b.before i : Nat)) := by
  rw [brdTys_eq, List.getElem?_append_right (by rw [flrTys_len]; omega), flrTys_len, List.getElem?_append_left (by simp [h.before]; omega), show 4 + i - 4 = i by omega]
  exact map_nth _ (by rw [h.before]; exact hi)
theorem brd_adds {b : Brd} (h : b.Sized) {i : Nat} (hi : i < 32) : (brdTys b)[12 + i]? = some (Ty.int .i64 (nth b.adds i)) := by
  rw [brdTys_eq, List.getElem?_append_right (by rw [flrTys_len]; omega), flrTys_len, List.getElem?_append_right (by simp [h.before]; omega), List.getElem?_append_left (by simp [h.before, h.adds]; omega)]
  simp only [List.length_map, h.before]
  rw [show 12 + i - 4 - 8 = i by omega]
  exact map_nth _ (by rw [h.adds]; exact hi)
theorem brd_first {b : Brd} (h : b.Sized) {i : Nat} (hi : i < 4) : (brdTys b)[44 + i]? = some (Ty.int .i64 (nth b.first i)) := by
  rw [brdTys_eq, List.getElem?_append_right (by rw [flrTys_len]; omega), flrTys_len, List.getElem?_append_right (by simp [h.before]; omega), List.getElem?_append_right (by simp [h.before, h.adds]; omega)]
  simp only [List.length_map, h.before, h.adds]
  rw [show 44 + i - 4 - 8 - 32 = i by omega]
  exact map_nth _ (by rw [h.first]; exact hi)
theorem brd_len {b : Brd} (h : b.Sized) : (brdTys b).length = 48 := by rw [brdTys_eq]; simp [flrTys_len, h.before, h.adds, h.first]
theorem brd_set_adds {b : Brd} (h : b.Sized) {i : Nat} (hi : i < 32) (v : Int) : (brdTys b).set (12 + i) (Ty.int .i64 v) = brdTys { b with adds := b.adds.set i v } := by
  rw [brdTys_eq, brdTys_eq, List.set_append_right _ _ (by rw [flrTys_len]; omega), flrTys_len, List.set_append_right _ _ (by simp [h.before]; omega), List.set_append_left _ _ (by simp [h.before, h.adds]; omega)]
  simp only [List.length_map, h.before]
  rw [show 12 + i - 4 - 8 = i by omega, List.map_set]
theorem brd_set_first {b : Brd} (h : b.Sized) {i : Nat} (hi : i < 4) (v : Int) : (brdTys b).set (44 + i) (Ty.int .i64 v) = brdTys { b with first := b.first.set i v } := by
  rw [brdTys_eq, brdTys_eq, List.set_append_right _ _ (by rw [flrTys_len]; omega), flrTys_len, List.set_append_right _ _ (by simp [h.before]; omega), List.set_append_right _ _ (by simp [h.before, h.adds]; omega)]
  simp only [List.length_map, h.before, h.adds]
  rw [show 44 + i - 4 - 8 - 32 = i by omega, List.map_set]
def clashP (f : Flr) : Bool := (List.range 8).any fun t => (nth (aheadP f) t).testBit t
def checkP (f : Flr) : Int := if rightM f ≠ 0 then rightM f else if clashP f then 7 else 0
def openE (f : Flr) (bad : Bool) : Int := if checkP f ≠ 0 then checkP f else if bad then 1 else 0
structure Flr.Right (f : Flr) : Prop where
  ranged : f.Ranged
  named : f.Named
  ruled : f.Ruled
theorem right_right {f : Flr} (h : rightM f = 0) : f.Right := by
  unfold rightM at h
  split at h
  · cases h
  rename_i h1
  split at h
  · cases h
  rename_i h2
  split at h
  · cases h
  rename_i h3
  split at h
  · cases h
  rename_i h4
  have hr := ranged_right (Bool.eq_false_iff.2 h1) (Bool.eq_false_iff.2 h2) (Bool.eq_false_iff.2 h3)
  have h4 := Bool.eq_false_iff.2 h4
  simp only [right4, Bool.or_eq_false_iff, Bool.not_eq_false', List.all_eq_true, Bool.and_eq_true] at h4
  refine ⟨hr, fun t ht => ?_, ⟨hr.turnings, fun r hr => ?_⟩⟩
  · have := inB_true (h4.1 t ht).1; have := inB_true (h4.1 t ht).2; omega
  · have := inB_true (h4.2 r hr).1; have := inB_true (h4.2 r hr).2; omega
theorem check_right {f : Flr} (h : checkP f = 0) : f.Right := by
  unfold checkP at h
  split at h
  · exact absurd h ‹_›
  · exact right_right (Classical.byContradiction fun e => ‹¬ rightM f ≠ 0› e)
theorem sets_ahead {f : Flr} (hf : f.Ruled) : Sets (aheadP f) := by
  have : ∀ n out, Sets out → Sets (iterR f n out) := by
    intro n
    induction n with
    | zero => intro out h; exact h
    | succ n ih => intro out h; rw [iterR]; split
                   · exact h
                   · exact ih _ (fold_grow f.rules out h (ruled8 hf)).1
  exact this _ _ sets_start
def shareP (f : Flr) (bin : Int) (b : Nat) : Int := if bin = -1 then 0 else nth (nth f.bins bin.toNat).shares b
def addS (f : Flr) (t b : Nat) : Int := (nth f.turnings t).sacks * (shareP f (nth f.turnings t).dst b - shareP f (nth f.turnings t).src b)
def firstS (f : Flr) (b q : Nat) : Int := ((f.bins.take q).map fun x => x.has * nth x.shares b).sum
def addF (f : Flr) (k a j : Nat) : Int := if j / 4 < f.turnings.length ∧ (j % 4 < k ∨ (j % 4 = k ∧ j / 4 < a)) then addS f (j / 4) (j % 4) else 0
def firstF (f : Flr) (k q j : Nat) : Int := if j < k then firstS f j f.bins.length else if j = k then firstS f k q else 0
def brdS (f : Flr) (k q a : Nat) : Brd := { f := f, before := aheadP f, adds := (List.range 32).map (addF f k a), first := (List.range 4).map (firstF f k q) }
def brdM (f : Flr) : Brd := brdS f f.bears.length 0 0
theorem brdS_sized {f : Flr} (hf : f.Ruled) (k q a : Nat) : (brdS f k q a).Sized := ⟨(sets_ahead hf).len, by simp [brdS], by simp [brdS]⟩
theorem range_set {α : Type} (n i : Nat) (g g' : Nat → α) (v : α) (h : ∀ j, j < n → g' j = if j = i then v else g j) : ((List.range n).map g).set i v = (List.range n).map g' := by
  apply List.ext_getElem?
  intro j
  rw [List.getElem?_set]
  by_cases e : i = j
  · subst e
    by_cases hi : i < n
    · simp [hi, h i hi]
    · simp [hi]
  · rw [if_neg e]
    simp only [List.getElem?_map]
    by_cases hj : j < n
    · rw [List.getElem?_range hj]; simp only [Option.map_some]; rw [h j hj, if_neg (fun x => e x.symm)]
    · rw [List.getElem?_eq_none (by simpa using hj)]; rfl
theorem firstS_succ (f : Flr) (b : Nat) {q : Nat} (h : q < f.bins.length) : firstS f b (q + 1) = firstS f b q + (nth f.bins q).has * nth (nth f.bins q).shares b := by
  unfold firstS
  rw [take_nth h, List.map_append, List.sum_append]; simp
theorem brdS_first {f : Flr} {k q a : Nat} (hk : k < 4) : nth (brdS f k q a).first k = firstS f k q := by
  show nth ((List.range 4).map (firstF f k q)) k = _
  rw [nth_map_range _ hk]; simp [firstF]
theorem brdS_set_first {f : Flr} (hf : f.Ruled) {k q a : Nat} (hk : k < 4) (hq : q < f.bins.length) :
    (brdTys (brdS f k q a)).set (44 + k) (Ty.int .i64 (firstS f k q + (nth f.bins q).has * nth (nth f.bins q).shares k)) = brdTys (brdS f k (q + 1) a) := by
  rw [brd_set_first (brdS_sized hf k q a) hk, ← firstS_succ f k hq]
  have e : (brdS f k q a).first.set k (firstS f k (q + 1)) = (brdS f k (q + 1) a).first := range_set 4 k (firstF f k q) (firstF f k (q + 1)) _ fun j _ => by
    unfold firstF
    by_cases e : j = k
    · subst e; simp
    · simp [e]
  show brdTys ⟨f, aheadP f, _, (brdS f k q a).first.set k (firstS f k (q + 1))⟩ = _
  rw [e]; rfl
theorem brdS_set_adds {f : Flr} (hf : f.Ruled) {k q a : Nat} (hk : k < 4) (ha : a < f.turnings.length) :
    (brdTys (brdS f k q a)).set (12 + (a * 4 + k)) (Ty.int .i64 (addS f a k)) = brdTys (brdS f k q (a + 1)) := by
  have h8 := hf.1
  rw [brd_set_adds (brdS_sized hf k q a) (by omega)]
  have e : (brdS f k q a).adds.set (a * 4 + k) (addS f a k) = (brdS f k q (a + 1)).adds := range_set 32 (a * 4 + k) (addF f k a) (addF f k (a + 1)) _ fun j _ => by
    unfold addF
    by_cases e : j = a * 4 + k
    · subst e
      rw [if_pos rfl, if_pos ⟨by omega, .inr ⟨by omega, by omega⟩⟩, show (a * 4 + k) / 4 = a by omega, show (a * 4 + k) % 4 = k by omega]
    · rw [if_neg e]
      by_cases h1 : j / 4 < f.turnings.length ∧ (j % 4 < k ∨ (j % 4 = k ∧ j / 4 < a))
      · rw [if_pos h1, if_pos (by omega)]
      · rw [if_neg h1, if_neg (by omega)]
  unfold brdS at e ⊢
  simp only at e ⊢
  rw [e]
theorem brdS_next (f : Flr) (k : Nat) : brdS f k f.bins.length f.turnings.length = brdS f (k + 1) 0 0 := by
  unfold brdS
  congr 1
  · refine List.map_congr_left fun j _ => ?_
    unfold addF
    by_cases h1 : j / 4 < f.turnings.length ∧ (j % 4 < k ∨ (j % 4 = k ∧ j / 4 < f.turnings.length))
    · rw [if_pos h1, if_pos (by omega)]
    · rw [if_neg h1, if_neg (by omega)]
  · refine List.map_congr_left fun j _ => ?_
    unfold firstF
    by_cases h1 : j < k
    · rw [if_pos h1, if_pos (by omega)]
    · rw [if_neg h1]
      by_cases h2 : j = k
      · subst h2; rw [if_pos rfl, if_pos (by omega)]
      · rw [if_neg h2, if_neg (by omega)]
        by_cases h3 : j = k + 1
        · subst h3; rw [if_pos rfl]; simp [firstS]
        · rw [if_neg h3]
theorem brdS_zero (f : Flr) : brdS f 0 0 0 = { f := f, before := aheadP f, adds := List.replicate 32 0, first := List.replicate 4 0 } := by
  unfold brdS
  congr 1
  · refine List.ext_getElem? fun j => ?_
    simp only [List.getElem?_map, List.getElem?_replicate]
    by_cases h : j < 32
    · rw [List.getElem?_range h, if_pos h]; simp [addF]
    · rw [List.getElem?_eq_none (by simpa using h), if_neg h]; rfl
theorem mul4 {a c : Int} {A : Int} (ha : 0 ≤ a ∧ a ≤ A) (hc : 0 ≤ c ∧ c ≤ 4) : 0 ≤ a * c ∧ a * c ≤ 4 * A := by
  have : c = 0 ∨ c = 1 ∨ c = 2 ∨ c = 3 ∨ c = 4 := by omega
  rcases this with rfl | rfl | rfl | rfl | rfl <;> omega
theorem mul4' {a c : Int} {A : Int} (ha : 0 ≤ a ∧ a ≤ A) (hc : -4 ≤ c ∧ c ≤ 4) : -(4 * A) ≤ a * c ∧ a * c ≤ 4 * A := by
  have : c = -4 ∨ c = -3 ∨ c = -2 ∨ c = -1 ∨ c = 0 ∨ c = 1 ∨ c = 2 ∨ c = 3 ∨ c = 4 := by omega
  rcases this with rfl | rfl | rfl | rfl | rfl | rfl | rfl | rfl | rfl <;> omega
theorem firstS_bound {f : Flr} (hr : f.Ranged) (b : Nat) : ∀ q, q ≤ f.bins.length → 0 ≤ firstS f b q ∧ firstS f b q ≤ 1200 * q
  | 0, _ => by simp [firstS]
  | q + 1, h => by
    rw [firstS_succ f b h]
    have h1 := firstS_bound hr b q (by omega)
    have h2 := mul4 (hr.hasR _ (nth_mem h)) (share_bound hr (b := b) h)
    omega
theorem shareP_bound {f : Flr} (hr : f.Ranged) {i : Int} (hi : -1 ≤ i ∧ i < f.bins.length) (b : Nat) : 0 ≤ shareP f i b ∧ shareP f i b ≤ 4 := by
  unfold shareP
  split
  · omega
  · exact share_bound hr (by omega)
theorem addS_bound {f : Flr} (hr : f.Ranged) (hn : f.Named) {t : Nat} (ht : t < f.turnings.length) (b : Nat) : -1200 ≤ addS f t b ∧ addS f t b ≤ 1200 := by
  have h1 := hn _ (nth_mem ht)
  have h2 := shareP_bound hr h1.1 b
  have h3 := shareP_bound hr h1.2 b
  have h4 := hr.sacksR _ (nth_mem ht)
  exact mul4' (A := 300) (by omega) (by omega)
abbrev SB := { b : Brd // b.Sized }
theorem depsOf_app2 {l l' : List Ty} : depsOf (l ++ l') = depsOf l ++ depsOf l' := by simp [depsOf]
theorem cdepsOf_app2 {l l' : List Ty} : cdepsOf (l ++ l') = cdepsOf l ++ cdepsOf l' := by simp [cdepsOf]
theorem brd_deps (b : Brd) : depsOf (brdTys b) = [] := by unfold brdTys; rw [depsOf_app2, depsOf_app2, depsOf_app2, El.flat_deps, El.flat_deps, El.flat_deps]; rfl
theorem brd_cdeps (b : Brd) : cdepsOf (brdTys b) = [] := by unfold brdTys; rw [cdepsOf_app2, cdepsOf_app2, cdepsOf_app2, El.flat_cdeps, El.flat_cdeps, El.flat_cdeps]; rfl
def BrdE : El SB := ⟨48, fun b => brdTys b.1, fun b => brd_len b.2, fun b => brd_deps b.1, fun b => brd_cdeps b.1, fun b => by
  rw [List.all_eq_true]
  intro t ht
  unfold brdTys at ht
  simp only [List.mem_append] at ht
  rcases ht with h | h | h | h
  · simp only [flrTys, List.mem_cons, List.not_mem_nil, or_false] at h
    rcases h with rfl | rfl | rfl | rfl <;> rfl
  · exact flat_ones _ _ t h
  · exact flat_ones _ _ t h
  · exact flat_ones _ _ t h⟩
def sbS (f : Flr) (hf : f.Ruled) (k q a : Nat) : SB := ⟨brdS f k q a, brdS_sized hf k q a⟩
def sbM (f : Flr) (hf : f.Ruled) : SB := sbS f hf f.bears.length 0 0
theorem sb_load_first {f : Flr} {hf : f.Ruled} {k q a : Nat} (hk : k < 4) : (BrdE.tys (sbS f hf k q a))[0 + 44 + k * 1]? = some (Ty.int .i64 (firstS f k q)) := by
  rw [show 0 + 44 + k * 1 = 44 + k by omega]
  exact (brd_first (brdS_sized hf k q a) hk).trans (by rw [brdS_first hk])
theorem sb_set_first {f : Flr} {hf : f.Ruled} {k q a : Nat} (hk : k < 4) (hq : q < f.bins.length) :
    (BrdE.tys (sbS f hf k q a)).set (0 + 44 + k * 1) (Ty.int .i64 (firstS f k q + (nth f.bins q).has * nth (nth f.bins q).shares k)) = BrdE.tys (sbS f hf k (q + 1) a) := by
  rw [show 0 + 44 + k * 1 = 44 + k by omega]
  exact brdS_set_first hf hk hq
theorem sb_set_adds {f : Flr} {hf : f.Ruled} {k q a : Nat} (hk : k < 4) (ha : a < f.turnings.length) :
    (BrdE.tys (sbS f hf k q a)).set (0 + 12 + a * 4 + k * 1) (Ty.int .i64 (addS f a k)) = BrdE.tys (sbS f hf k q (a + 1)) := by
  rw [show 0 + 12 + a * 4 + k * 1 = 12 + (a * 4 + k) by omega]
  exact brdS_set_adds hf hk ha
theorem sb_next (f : Flr) (hf : f.Ruled) (k : Nat) : sbS f hf k f.bins.length f.turnings.length = sbS f hf (k + 1) 0 0 := Subtype.ext (brdS_next f k)
theorem len8 {α : Type} {l : List α} (h : l.length = 8) : ∃ a b c d e f g i, l = [a, b, c, d, e, f, g, i] := by
  match l, h with
  | [a, b, c, d, e, f, g, i], _ => exact ⟨a, b, c, d, e, f, g, i, rfl⟩
theorem fill_brd (f : Flr) (hf : f.Ruled) (place : Nat → Option (Nat × Nat)) (h0 : place 0 = some (0, 4)) (h1 : place 1 = some (4, 8)) :
    fillT place ((List.replicate 4 (Ty.ex (.slice none 0 0))) ++ List.replicate 44 (Ty.int .i64 0)) [(0, flrTys f), (1, (aheadP f).flatMap N64.tys)] = some (BrdE.tys (sbS f hf 0 0 0)) := by
  have hl : ((aheadP f).flatMap N64.tys).length = 8 := by rw [n64_map, List.length_map, (sets_ahead hf).len]
  have e : BrdE.tys (sbS f hf 0 0 0) = flrTys f ++ ((aheadP f).flatMap N64.tys ++ (List.replicate 36 (Ty.int .i64 0))) := by
    show brdTys (brdS f 0 0 0) = _
    rw [brdS_zero]; rfl
  rw [e]
  obtain ⟨a, b, c, d, x, y, g, i, h⟩ := len8 hl
  rw [h]
  simp only [fillT, h0, h1]
  rfl
end Go.Proofs.YtifgbnbkimcchaaGreat

namespace Go.Proofs.YtifgbnbkimcchaaGreat
open Go Go.T
structure Fine (b : SB) : Prop where
  nb1 : 1 ≤ b.1.f.bears.length
  nb : b.1.f.bears.length ≤ 4
  nt : b.1.f.turnings.length ≤ 8
  bears : ∀ k, 0 ≤ nth b.1.f.bears k ∧ nth b.1.f.bears k ≤ 4000
  before : ∀ k, nth b.1.before k < 256
  adds : ∀ k, -1200 ≤ nth b.1.adds k ∧ nth b.1.adds k ≤ 1200
  first : ∀ k, 0 ≤ nth b.1.first k ∧ nth b.1.first k ≤ 7200
theorem nth_out' {α : Type} [Inhabited α] {l : List α} {k : Nat} (h : l.length ≤ k) : nth l k = default := by
  show l.getD k default = default
  rw [List.getD_eq_getElem?_getD, List.getElem?_eq_none h]; rfl
theorem fine_sb {f : Flr} (h : f.Right) : Fine (sbM f h.ruled) := by
  have hr := h.ranged
  have h4 := hr.bears
  have h6 := hr.bins
  refine ⟨hr.bears1, hr.bears, hr.turnings, fun k => bear_bound hr k, fun k => (sets_ahead h.ruled).nth k, fun k => ?_, fun k => ?_⟩
  · show -1200 ≤ nth ((List.range 32).map (addF f f.bears.length 0)) k ∧ nth ((List.range 32).map (addF f f.bears.length 0)) k ≤ 1200
    rcases Nat.lt_or_ge k 32 with hk | hk
    · rw [nth_map_range _ hk]
      unfold addF
      split
      · rename_i hc; exact addS_bound hr h.named hc.1 _
      · omega
    · rw [nth_out (by simpa using hk)]; omega
  · show 0 ≤ nth ((List.range 4).map (firstF f f.bears.length 0)) k ∧ nth ((List.range 4).map (firstF f f.bears.length 0)) k ≤ 7200
    rcases Nat.lt_or_ge k 4 with hk | hk
    · rw [nth_map_range _ hk]
      unfold firstF
      split
      · have := firstS_bound hr k f.bins.length (Nat.le_refl _); omega
      · split
        · have := firstS_bound hr f.bears.length 0 (Nat.zero_le _); omega
        · omega
    · rw [nth_out (by simpa using hk)]; omega
def loadAt (b : SB) (ms : List Int) (i : Nat) : Int := nth b.1.first i + (ms.map fun t => nth b.1.adds (t.toNat * 4 + i)).sum
def loadP (b : SB) (s : Nat) : List Int := (List.range 4).map (loadAt b (membersM s))
def partL (b : SB) (ms : List Int) (k j : Nat) : List Int := (List.range 4).map fun i => if i < j then loadAt b (ms.take (k + 1)) i else loadAt b (ms.take k) i
theorem loadAt_succ (b : SB) {ms : List Int} {k : Nat} (h : k < ms.length) (i : Nat) : loadAt b (ms.take (k + 1)) i = loadAt b (ms.take k) i + nth b.1.adds ((nth ms k).toNat * 4 + i) := by
  unfold loadAt
  rw [take_nth h, List.map_append, List.sum_append]; simp; omega
theorem loadAt_bound {b : SB} (h : Fine b) (ms : List Int) (i : Nat) : -(1200 * ms.length) ≤ loadAt b ms i ∧ loadAt b ms i ≤ 7200 + 1200 * ms.length := by
  have h1 := h.first i
  have h2 := sum_bound (l := ms.map fun t => nth b.1.adds (t.toNat * 4 + i)) (lo := -1200) (hi := 1200) fun n hn => by
    obtain ⟨t, _, rfl⟩ := List.mem_map.1 hn
    exact h.adds _
  rw [List.length_map] at h2
  unfold loadAt; omega
theorem members_len (s : Nat) : (membersM s).length ≤ 8 := bitsUp_len s 8
theorem partL_len (b : SB) (ms : List Int) (k j : Nat) : (partL b ms k j).length = 4 := by simp [partL]
theorem partL_nth (b : SB) (ms : List Int) (k : Nat) {j : Nat} (h : j < 4) : nth (partL b ms k j) j = loadAt b (ms.take k) j := by
  rw [partL, nth_map_range _ h]; simp
theorem partL_set (b : SB) {ms : List Int} {k j : Nat} (hk : k < ms.length) (hj : j < 4) : (partL b ms k j).set j (nth (partL b ms k j) j + nth b.1.adds ((nth ms k).toNat * 4 + j)) = partL b ms k (j + 1) := by
  rw [partL_nth b ms k hj, ← loadAt_succ b hk]
  exact range_set 4 j (fun i => if i < j then loadAt b (ms.take (k + 1)) i else loadAt b (ms.take k) i) (fun i => if i < j + 1 then loadAt b (ms.take (k + 1)) i else loadAt b (ms.take k) i) _ fun i _ => by
    by_cases e : i = j
    · subst e; simp
    · by_cases h1 : i < j
      · rw [if_pos (by omega), if_neg e, if_pos h1]
      · rw [if_neg (by omega), if_neg e, if_neg h1]
theorem partL_next (b : SB) (ms : List Int) (k : Nat) : partL b ms k 4 = partL b ms (k + 1) 0 := List.map_congr_left fun i hi => by
  have := List.mem_range.1 hi
  rw [if_pos this, if_neg (by omega)]
theorem partL_start (b : SB) (ms : List Int) : b.1.first = partL b ms 0 0 := by
  apply List.ext_getElem?
  intro i
  have h4 := b.2.first
  by_cases h : i < 4
  · rw [List.getElem?_eq_getElem (by omega), partL, List.getElem?_map, List.getElem?_range h]
    simp only [Option.map_some, Nat.not_lt_zero, if_false]
    simp [loadAt, nth_lt (show i < b.1.first.length by omega)]
  · rw [List.getElem?_eq_none (by omega), List.getElem?_eq_none (by rw [partL_len]; omega)]
theorem partL_end (b : SB) (s k : Nat) (h : (membersM s).length ≤ k) : partL b (membersM s) k 0 = loadP b s := List.map_congr_left fun i _ => by
  rw [if_neg (by omega), List.take_of_length_le h]
theorem loadP_len (b : SB) (s : Nat) : (loadP b s).length = 4 := by simp [loadP]
theorem loadP_nth (b : SB) (s : Nat) {i : Nat} (h : i < 4) : nth (loadP b s) i = loadAt b (membersM s) i := nth_map_range _ h
theorem loadP_bound {b : SB} (h : Fine b) (s i : Nat) : -20000 ≤ nth (loadP b s) i ∧ nth (loadP b s) i ≤ 20000 := by
  rcases Nat.lt_or_ge i 4 with hi | hi
  · rw [loadP_nth b s hi]
    have := loadAt_bound h (membersM s) i
    have := members_len s
    omega
  · rw [nth_out (by rw [loadP_len]; exact hi)]; omega
def marginP (b : SB) (l : List Int) : Int := minRow b.1.f l b.1.f.bears.length (nth b.1.f.bears 0 - nth l 0)
def keepsP (b : SB) (s : Nat) : Bool := decide (marginP b (loadP b s) ≥ 0)
def wholeP (b : SB) (s : Nat) : Bool := (membersM s).all fun t => decide (andNotN (nth b.1.before t.toNat) s = 0)
theorem members_lt {s : Nat} : ∀ t ∈ membersM s, 0 ≤ t ∧ t < 8 := by
  intro t ht
  obtain ⟨i, hi, rfl⟩ := List.mem_map.1 ht
  have := List.mem_range.1 (List.mem_filter.1 hi).1
  omega
def setsUp (b : SB) (k : Nat) : List Nat := (List.range k).filter (wholeP b)
def setsP (b : SB) : List Nat := setsUp b (1 <<< b.1.f.turnings.length)
theorem setsUp_yes {b : SB} {k : Nat} (h : wholeP b k = true) : setsUp b (k + 1) = setsUp b k ++ [k] := by simp [setsUp, List.range_succ, List.filter_append, h]
theorem setsUp_no {b : SB} {k : Nat} (h : wholeP b k = false) : setsUp b (k + 1) = setsUp b k := by simp [setsUp, List.range_succ, List.filter_append, h]
theorem setsUp_nth {b : SB} {k m : Nat} (hk : k < m) (h : wholeP b k = true) : nth (setsUp b m) (setsUp b k).length = k ∧ (setsUp b k).length < (setsUp b m).length := by
  have : ∀ m, k + 1 ≤ m → ∃ r, setsUp b m = (setsUp b k ++ [k]) ++ r := by
    intro m hm
    induction m with
    | zero => omega
    | succ m ih =>
      rcases Nat.lt_or_ge m (k + 1) with h1 | h1
      · rw [show m + 1 = k + 1 by omega]; exact ⟨[], by rw [setsUp_yes h, List.append_nil]⟩
      · obtain ⟨r, hr⟩ := ih h1
        cases hw : wholeP b m with
        | true => exact ⟨r ++ [m], by rw [setsUp_yes hw, hr, List.append_assoc]⟩
        | false => exact ⟨r, by rw [setsUp_no hw, hr]⟩
  obtain ⟨r, hr⟩ := this m hk
  refine ⟨?_, ?_⟩
  · rw [hr, nth_lt (by simp)]; simp
  · rw [hr]; simp
theorem shl_pow (n : Nat) : 1 <<< n = 2 ^ n := by rw [Nat.shiftLeft_eq, Nat.one_mul]
theorem shl_le {n : Nat} (h : n ≤ 8) : 1 <<< n ≤ 256 ∧ 1 ≤ 1 <<< n := by
  rw [shl_pow]
  exact ⟨Nat.pow_le_pow_right (n := 2) (by omega) h, Nat.one_le_two_pow⟩
def heavyS (b : SB) (bay : Nat) (st : Int × Int) (s : Nat) : Int × Int := if nth (loadP b s) bay > st.2 then ((s : Int), nth (loadP b s) bay) else st
def heavyUp (b : SB) (bay k : Nat) : Int × Int := ((setsP b).take k).foldl (heavyS b bay) (0, nth b.1.first bay)
def heavyP (b : SB) (bay : Nat) : Int × Int := (setsP b).foldl (heavyS b bay) (0, nth b.1.first bay)
theorem heavyUp_succ {b : SB} {bay k : Nat} (h : k < (setsP b).length) : heavyUp b bay (k + 1) = heavyS b bay (heavyUp b bay k) (nth (setsP b) k) := by
  unfold heavyUp; rw [take_nth h, List.foldl_append]; rfl
abbrev KV := List (Int × Int)
def mg (m : KV) (k : Int) : Int := (mget m k).getD 0
def wayT (b : SB) (s : Nat) (m : KV) (t : Nat) : KV := if s.testBit t then m else mput m s (mg m s + mg m ((s ||| 1 <<< t : Nat) : Int))
def wayIn (b : SB) (s : Nat) (m : KV) (j : Nat) : KV := (List.range j).foldl (wayT b s) m
def wayTop (b : SB) (s : Nat) (m : KV) : KV := if (s : Int) = (1 <<< b.1.f.turnings.length : Nat) - 1 then mput m s 1 else m
def wayS (b : SB) (q : Nat → Bool) (s : Nat) (m : KV) : KV := if !wholeP b s || !q s then m else wayIn b s (wayTop b s m) b.1.f.turnings.length
def waysDn (b : SB) (q : Nat → Bool) (n : Nat) : Nat → KV
  | 0 => []
  | k + 1 => wayS b q (n - (k + 1)) (waysDn b q n k)
def waysP (b : SB) (q : Nat → Bool) : KV := waysDn b q (1 <<< b.1.f.turnings.length) (1 <<< b.1.f.turnings.length)
theorem wayIn_succ (b : SB) (s : Nat) (m : KV) (j : Nat) : wayIn b s m (j + 1) = wayT b s (wayIn b s m j) j := by simp [wayIn, List.range_succ]
theorem mg_mput (m : KV) (k v k' : Int) : mg (mput m k v) k' = if k = k' then v else mg m k' := by
  unfold mg; rw [mget_mput]; split <;> rfl
def pop (s : Nat) : Nat := (membersM s).length
theorem pop_or_all : ((List.range 256).all fun s => (List.range 8).all fun t => s.testBit t || (pop (s ||| 1 <<< t) == pop s + 1 && Nat.blt (s ||| 1 <<< t) 256)) = true := by decide +kernel
theorem pop_or {s t : Nat} (hs : s < 256) (ht : t < 8) (h : s.testBit t = false) : pop (s ||| 1 <<< t) = pop s + 1 ∧ (s ||| 1 <<< t) < 256 := by
  have h1 := List.all_eq_true.1 (List.all_eq_true.1 pop_or_all s (List.mem_range.2 hs)) t (List.mem_range.2 ht)
  rw [h, Bool.false_or, Bool.and_eq_true, beq_iff_eq, Nat.blt_eq] at h1
  exact h1
def Small (m : KV) : Prop := ∀ s : Nat, s < 256 → 0 ≤ mg m s ∧ mg m s ≤ 8 ^ (8 - pop s)
theorem pop_le (s : Nat) : pop s ≤ 8 := members_len s
theorem bit_ne {s t : Nat} (h : s.testBit t = false) : (s ||| 1 <<< t) ≠ s := fun e => by
  have : (s ||| 1 <<< t).testBit t = true := by rw [Nat.testBit_or, shl_pow, Nat.testBit_two_pow_self]; simp
  rw [e, h] at this; cases this
def SmallAt (m : KV) (s j : Nat) : Prop := (∀ s' : Nat, s' < 256 → s' ≠ s → 0 ≤ mg m s' ∧ mg m s' ≤ 8 ^ (8 - pop s')) ∧ 0 ≤ mg m s ∧ mg m s ≤ (if pop s = 8 then (1 : Int) else (j : Int) * 8 ^ (7 - pop s))
theorem smallAt_step {b : SB} {m : KV} {s j : Nat} (hs : s < 256) (hj : j < 8) (h : SmallAt m s j) : SmallAt (wayT b s m j) s (j + 1) ∧ (s.testBit j = false → 0 ≤ mg m s + mg m ((s ||| 1 <<< j : Nat) : Int) ∧ mg m s + mg m ((s ||| 1 <<< j : Nat) : Int) ≤ 8 ^ 8 + 8 ^ 8) := by
  obtain ⟨h1, h2, h3⟩ := h
  have hp8 : ∀ e, e ≤ 8 → (8 : Int) ^ e ≤ 8 ^ 8 := fun e he => by
    have : (8 : Nat) ^ e ≤ 8 ^ 8 := Nat.pow_le_pow_right (by omega) he
    exact_mod_cast this
  have hpos : ∀ e : Nat, (0 : Int) ≤ 8 ^ e := fun e => Int.le_of_lt (Int.pow_pos (by omega))
  unfold wayT
  cases hb : s.testBit j with
  | true =>
    simp only [if_true]
    refine ⟨⟨h1, h2, ?_⟩, fun h => by cases h⟩
    split at h3
    · rw [if_pos ‹_›]; exact h3
    · rw [if_neg ‹_›]
      have := hpos (7 - pop s)
      have e : ((j + 1 : Nat) : Int) * 8 ^ (7 - pop s) = j * 8 ^ (7 - pop s) + 8 ^ (7 - pop s) := by rw [Int.natCast_add, Int.add_mul]; simp
      omega
  | false =>
    obtain ⟨p1, p2⟩ := pop_or hs hj hb
    have hne := bit_ne hb
    obtain ⟨g1, g2⟩ := h1 _ p2 hne
    have hlt : pop s ≤ 7 := by have := pop_le (s ||| 1 <<< j); omega
    rw [p1, show 8 - (pop s + 1) = 7 - pop s by omega] at g2
    rw [if_neg (by omega)] at h3
    have hj8 : (j : Int) * 8 ^ (7 - pop s) ≤ 7 * 8 ^ (7 - pop s) := Int.mul_le_mul_of_nonneg_right (by omega) (hpos _)
    have h87 : (8 : Int) * 8 ^ (7 - pop s) ≤ 8 ^ 8 := by
      have := hp8 (7 - pop s + 1) (by omega)
      rw [Int.pow_succ, Int.mul_comm] at this; exact this
    have := hpos (7 - pop s)
    simp only [Bool.false_eq_true, if_false]
    refine ⟨⟨fun s' hs' hn => ?_, ?_⟩, fun _ => ⟨by omega, by omega⟩⟩
    · rw [mg_mput, if_neg (fun e => hn (by exact_mod_cast e.symm))]; exact h1 s' hs' hn
    · rw [mg_mput, if_pos rfl, if_neg (by omega)]
      have e : ((j + 1 : Nat) : Int) * 8 ^ (7 - pop s) = j * 8 ^ (7 - pop s) + 8 ^ (7 - pop s) := by rw [Int.natCast_add, Int.add_mul]; simp
      omega
theorem wayT_other (b : SB) {s s' : Nat} (h : s' ≠ s) (m : KV) (t : Nat) : mg (wayT b s m t) s' = mg m s' := by
  unfold wayT
  split
  · rfl
  · rw [mg_mput, if_neg (fun e => h (by exact_mod_cast e.symm))]
theorem wayIn_other (b : SB) {s s' : Nat} (h : s' ≠ s) (m : KV) (j : Nat) : mg (wayIn b s m j) s' = mg m s' := by
  induction j with
  | zero => rfl
  | succ j ih => rw [wayIn_succ, wayT_other b h, ih]
theorem wayTop_other (b : SB) {s s' : Nat} (h : s' ≠ s) (m : KV) : mg (wayTop b s m) s' = mg m s' := by
  unfold wayTop
  split
  · rw [mg_mput, if_neg (fun e => h (by exact_mod_cast e.symm))]
  · rfl
theorem wayS_other (b : SB) (q : Nat → Bool) {s s' : Nat} (h : s' ≠ s) (m : KV) : mg (wayS b q s m) s' = mg m s' := by
  unfold wayS
  split
  · rfl
  · rw [wayIn_other b h, wayTop_other b h]
theorem full_bit {n j : Nat} (h : j < n) : (1 <<< n - 1).testBit j = true := by rw [shl_pow, Nat.testBit_two_pow_sub_one]; simpa using h
theorem wayIn_full (b : SB) {s n : Nat} (hs : s = 1 <<< n - 1) (m : KV) {j : Nat} (hj : j ≤ n) : wayIn b s m j = m := by
  induction j with
  | zero => rfl
  | succ j ih => rw [wayIn_succ, ih (by omega), wayT, hs, full_bit (by omega)]; rfl
structure Clean (n k : Nat) (m : KV) : Prop where
  small : ∀ s : Nat, s < 256 → 0 ≤ mg m s ∧ mg m s ≤ 8 ^ (8 - pop s)
  zero : ∀ s : Nat, s + k < n → mg m s = 0
theorem not_top {b : SB} {s : Nat} {m : KV} (h : s ≠ 1 <<< b.1.f.turnings.length - 1) (h1 : 1 ≤ 1 <<< b.1.f.turnings.length) : wayTop b s m = m := by
  unfold wayTop; rw [if_neg (by omega)]
theorem is_top {b : SB} {s : Nat} {m : KV} (h : s = 1 <<< b.1.f.turnings.length - 1) (h1 : 1 ≤ 1 <<< b.1.f.turnings.length) : wayTop b s m = mput m s 1 := by
  unfold wayTop; rw [if_pos (by omega)]
theorem smallAt_in {b : SB} (hb : Fine b) {s n k : Nat} {m : KV} (hn : n = 1 <<< b.1.f.turnings.length) (hs : s + (k + 1) = n) (hc : Clean n k m) (hne : s ≠ n - 1) : ∀ j, j ≤ b.1.f.turnings.length → SmallAt (wayIn b s m j) s j
  | 0, _ => by
    refine ⟨fun s' hs' _ => hc.small s' hs', ?_, ?_⟩
    · show 0 ≤ mg m s; rw [hc.zero s (by omega)]; exact Int.le_refl _
    · show mg m s ≤ _
      rw [hc.zero s (by omega)]; split <;> simp
  | j + 1, hj => by
    rw [wayIn_succ]
    have := shl_le hb.nt
    exact (smallAt_step (by omega) (by have := hb.nt; omega) (smallAt_in hb hn hs hc hne j (by omega))).1
theorem way_bound {b : SB} (hb : Fine b) {s n k : Nat} {m : KV} (hn : n = 1 <<< b.1.f.turnings.length) (hs : s + (k + 1) = n) (hc : Clean n k m) {j : Nat} (hj : j < b.1.f.turnings.length) (h : s.testBit j = false) :
    let m' := wayIn b s (wayTop b s m) j
    0 ≤ mg m' s + mg m' ((s ||| 1 <<< j : Nat) : Int) ∧ mg m' s + mg m' ((s ||| 1 <<< j : Nat) : Int) ≤ 8 ^ 8 + 8 ^ 8 := by
  have h1 := shl_le hb.nt
  have hne : s ≠ n - 1 := fun e => by rw [e, hn, full_bit hj] at h; cases h
  rw [not_top (by omega) (by omega)]
  exact (smallAt_step (b := b) (by omega) (by have := hb.nt; omega) (smallAt_in hb hn hs hc hne j (by omega))).2 h
theorem clean_step {b : SB} (hb : Fine b) {q : Nat → Bool} {s n k : Nat} {m : KV} (hn : n = 1 <<< b.1.f.turnings.length) (hs : s + (k + 1) = n) (hc : Clean n k m) : Clean n (k + 1) (wayS b q s m) := by
  have h1 := shl_le hb.nt
  have hpos : ∀ e : Nat, (1 : Int) ≤ 8 ^ e := fun e => by have : (0 : Int) < 8 ^ e := Int.pow_pos (by omega); omega
  refine ⟨fun s' hs' => ?_, fun s' h => ?_⟩
  · by_cases e : s' = s
    · subst e
      unfold wayS
      split
      · exact hc.small s' hs'
      · by_cases ht : s' = n - 1
        · rw [is_top (by omega) (by omega), wayIn_full b (by omega) _ (Nat.le_refl _), mg_mput, if_pos rfl]
          exact ⟨by omega, hpos _⟩
        · rw [not_top (by omega) (by omega)]
          obtain ⟨_, g2, g3⟩ := smallAt_in hb hn hs hc ht _ (Nat.le_refl _)
          refine ⟨g2, ?_⟩
          split at g3
          · exact Int.le_trans g3 (hpos _)
          · rename_i hp
            have hp7 : pop s' ≤ 7 := by have := pop_le s'; omega
            have e8 : (8 : Int) ^ (8 - pop s') = 8 ^ (7 - pop s') * 8 := by rw [show 8 - pop s' = 7 - pop s' + 1 by omega, Int.pow_succ]
            have : (b.1.f.turnings.length : Int) * 8 ^ (7 - pop s') ≤ 8 * 8 ^ (7 - pop s') := Int.mul_le_mul_of_nonneg_right (by have := hb.nt; omega) (Int.le_trans (by omega) (hpos _))
            rw [e8, Int.mul_comm (8 ^ (7 - pop s')) 8]; omega
    · rw [wayS_other b q e]; exact hc.small s' hs'
  · rw [wayS_other b q (by omega)]; exact hc.zero s' (by omega)
theorem clean_all {b : SB} (hb : Fine b) (q : Nat → Bool) {n : Nat} (hn : n = 1 <<< b.1.f.turnings.length) : ∀ k, k ≤ n → Clean n k (waysDn b q n k)
  | 0, _ => ⟨fun s _ => ⟨Int.le_refl _, Int.le_of_lt (Int.pow_pos (by omega))⟩, fun _ _ => rfl⟩
  | k + 1, h => clean_step hb hn (by omega) (clean_all hb q hn k (by omega))
end Go.Proofs.YtifgbnbkimcchaaGreat
