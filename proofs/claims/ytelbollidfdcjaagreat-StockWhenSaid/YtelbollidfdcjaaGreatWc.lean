/- Lemmas: the program and the reference walked, plain laws. -/
import Derived.Test.YtelbollidfdcjaaGreatWb
namespace Go.Proofs.YtelbollidfdcjaaGreat
open Go Go.T
set_option maxHeartbeats 2000000
structure Yard.Small (y : Yard) : Prop where
  bins : y.bins.length ≤ 1000
  moves : y.moves.length ≤ 1000
  levels : y.levels.length ≤ 1000
def finM (y : Yard) : Ty := Ty.mth 135 [yardT y]
def endT (y : Yard) : Ty := Ty.pp [Ty.clo 142 [Ty.pp [finM y]]]
theorem many_days {y : Yard} (h : manyY y = false) : 1 ≤ y.days ∧ y.days ≤ 5 := by
  unfold manyY at h
  simp only [Bool.or_eq_false_iff, Bool.not_eq_false', inB_true] at h
  exact h.1.1.1
def knownE (y : Yard) (k : Int) : Int := if checkY y = 0 then if y.bin k = true then 0 else 1 else checkY y
theorem known_not {y : Yard} {k : Int} (h : (decide (checkY y = 0) && !y.bin k) = true) : 1 = knownE y k := by
  rw [Bool.and_eq_true, decide_eq_true_eq, Bool.not_eq_true'] at h
  unfold knownE; rw [if_pos h.1, if_neg (by rw [h.2]; decide)]
theorem known_chk {y : Yard} {k : Int} (h : (decide (checkY y = 0) && !y.bin k) = false) : checkY y = knownE y k := by
  unfold knownE
  by_cases e : checkY y = 0
  · rw [decide_eq_true e, Bool.true_and, Bool.not_eq_false'] at h
    rw [if_pos e, if_pos h, e]
  · rw [if_neg e]
attribute [local irreducible] dInt dBool dSl dPp dPtr dAgg dTup dClo dAny dEx dStr dGd dCells dVec dVs dRow dOp nth Tri Into TOps Ctr bodyPost Exit.then Exit.inBlock Code.wp Code.wpIn dWhen dPa dPe dAo dArr dMp dPm dMap dCJ CtrG CtrI OpY keepPost iterPost bodyPostM roundQ
set_option maxRecDepth 100000 in
theorem c_in (n lo hi : Int) : Ctr Tryz.prog 111 [Ty.int .i64 n, Ty.int .i64 lo, Ty.int .i64 hi] (Ty.bool (inB n lo hi)) := by
  refine fn_intro Tryz.func111 rfl (by decide) Tryz.ntmps111 (by exact Nat.le_of_ble_eq_true rfl) fun w0 M0 => ?_
  refine t_seq ?_
  refine t_region ?_
  refine asB rfl ?_
  refine r_nil ?_
  refine i_then ?_
  refine t_seq ?_
  refine t_region ?_
  refine mvI rfl ?_
  refine mvI rfl ?_
  refine r_bin rfl rfl rfl ?_
  refine mvB rfl ?_
  apply r_guard (s := 10) rfl rfl rfl
  · intro hg; apply opT_of; (refine mvI rfl ?_); refine r_nil ?_; exact rfl
  · exact rfl
  · exact rfl
  apply r_guard (s := 10) rfl rfl rfl
  · intro hg; apply opT_of; (refine mvI rfl ?_); refine r_nil ?_; exact rfl
  · exact rfl
  · exact rfl
  apply r_guard (s := 10) rfl rfl rfl
  · intro hg; apply opT_strip (s := 11) rfl (by (rw [hg]; rfl)); apply opT_strip (s := 12) rfl (by (rw [hg]; rfl)); apply opT_of; (refine r_bin rfl rfl rfl ?_); refine r_nil ?_; exact rfl
  · exact rfl
  · exact rfl
  refine r_and rfl rfl ?_
  refine asB rfl ?_
  refine r_nil ?_
  refine i_then ?_
  refine t_ret ?_
  refine i_rp1 rfl rfl ?_
  all_goals exact ret_refl rfl rfl
set_option maxRecDepth 100000 in
theorem c_bin (y : Yard) (hs : y.Small) (n : Int) : Ctr Tryz.prog 135 [yardT y, Ty.int .i64 n] (Ty.bool (y.bin n)) := by
  refine fn_intro Tryz.func135 rfl (by decide) Tryz.ntmps135 (by exact Nat.le_of_ble_eq_true rfl) fun w0 M0 => ?_
  have hs1 := hs.bins
  refine t_seq ?_
  refine t_region ?_
  refine r_box_agg rfl ?_
  refine asB rfl ?_
  refine r_nil ?_
  refine i_then ?_
  refine t_seq ?_
  refine t_region ?_
  refine mvI rfl ?_
  refine r_field_pp rfl rfl rfl rfl rfl (by decide) ?_
  refine r_load_pp rfl rfl rfl rfl ?_
  refine r_len rfl rfl rfl ?_
  refine r_sub rfl rfl (by omega) (by omega) ?_
  refine r_call (c_in _ _ _) rfl rfl rfl rfl rfl ?_
  refine asB rfl ?_
  refine r_nil ?_
  refine i_then ?_
  refine t_ret ?_
  refine i_rp1 rfl rfl ?_
  all_goals exact ret_refl rfl rfl
set_option maxRecDepth 100000 in
theorem c_time (y : Yard) (n : Int) : Ctr Tryz.prog 122 [yardT y, Ty.int .i64 n] (Ty.bool (y.time n)) := by
  refine fn_intro Tryz.func122 rfl (by decide) Tryz.ntmps122 (by exact Nat.le_of_ble_eq_true rfl) fun w0 M0 => ?_
  refine t_seq ?_
  refine t_region ?_
  refine r_box_agg rfl ?_
  refine asB rfl ?_
  refine r_nil ?_
  refine i_then ?_
  refine t_seq ?_
  refine t_region ?_
  refine mvI rfl ?_
  refine r_field_pp rfl rfl rfl rfl rfl (by decide) ?_
  refine r_load_pp rfl rfl rfl rfl ?_
  refine r_call (c_in _ _ _) rfl rfl rfl rfl rfl ?_
  refine asB rfl ?_
  refine r_nil ?_
  refine i_then ?_
  refine t_ret ?_
  refine i_rp1 rfl rfl ?_
  all_goals exact ret_refl rfl rfl
set_option maxRecDepth 100000 in
theorem c_allowed (s : Span) : Ctr Tryz.prog 145 [Ty.agg (SpanE.tys s)] (Ty.bool (allowedB s)) := by
  refine fn_intro Tryz.func145 rfl (by decide) Tryz.ntmps145 (by exact Nat.le_of_ble_eq_true rfl) fun w0 M0 => ?_
  refine t_seq ?_
  refine t_region ?_
  refine r_box_agg rfl ?_
  refine asB rfl ?_
  refine r_nil ?_
  refine i_then ?_
  refine t_seq ?_
  refine t_region ?_
  refine r_field_pp rfl rfl rfl rfl rfl (by decide) ?_
  refine r_load_pp rfl rfl rfl rfl ?_
  refine r_call (c_in _ _ _) rfl rfl rfl rfl rfl ?_
  refine mvB rfl ?_
  apply r_guard (s := 6) rfl rfl rfl
  · intro hg; apply opT_of; (refine r_field_pp rfl rfl rfl rfl rfl (by decide) ?_); refine r_nil ?_; exact rfl
  · exact rfl
  · exact rfl
  apply r_guard (s := 6) rfl rfl rfl
  · intro hg; apply opT_strip (s := 7) rfl (by (rw [hg]; rfl)); apply opT_of; (refine r_load_pp rfl rfl rfl rfl ?_); refine r_nil ?_; exact rfl
  · exact rfl
  · exact rfl
  apply r_guard (s := 6) rfl rfl rfl
  · intro hg; apply opT_strip (s := 8) rfl (by (rw [hg]; rfl)); apply opT_of; (refine r_call (c_in _ _ _) rfl rfl rfl rfl rfl ?_); refine r_nil ?_; exact rfl
  · exact rfl
  · exact rfl
  refine r_and rfl rfl ?_
  refine asB rfl ?_
  refine r_nil ?_
  refine i_then ?_
  refine t_ret ?_
  refine i_rp1 rfl rfl ?_
  all_goals exact ret_refl rfl rfl
set_option maxRecDepth 100000 in
theorem c_rising (s : Span) : Ctr Tryz.prog 154 [Ty.agg (SpanE.tys s)] (Ty.bool (risingB s)) := by
  refine fn_intro Tryz.func154 rfl (by decide) Tryz.ntmps154 (by exact Nat.le_of_ble_eq_true rfl) fun w0 M0 => ?_
  refine t_seq ?_
  refine t_region ?_
  refine r_box_agg rfl ?_
  refine asB rfl ?_
  refine r_nil ?_
  refine i_then ?_
  refine t_seq ?_
  refine t_region ?_
  refine r_field_pp rfl rfl rfl rfl rfl (by decide) ?_
  refine r_load_pp rfl rfl rfl rfl ?_
  refine r_field_pp rfl rfl rfl rfl rfl (by decide) ?_
  refine r_load_pp rfl rfl rfl rfl ?_
  refine r_bin rfl rfl rfl ?_
  refine asB rfl ?_
  refine r_nil ?_
  refine i_then ?_
  refine t_ret ?_
  refine i_rp1 rfl rfl ?_
  all_goals exact ret_refl rfl rfl
set_option maxRecDepth 100000 in
theorem c_Check1 (y : Yard) (hs : y.Small) (n : Int) : Ctr Tryz.prog 142 [Ty.int .i64 n, Ty.pp [finM y]] (Ty.bool (y.fin n)) := by
  refine fn_intro Tryz.func142 rfl (by decide) Tryz.ntmps142 (by exact Nat.le_of_ble_eq_true rfl) fun w0 M0 => ?_
  refine t_seq ?_
  refine t_region ?_
  refine asB rfl ?_
  refine r_nil ?_
  refine i_then ?_
  refine t_seq ?_
  refine t_region ?_
  refine mvI rfl ?_
  refine r_bin rfl rfl rfl ?_
  refine mvB rfl ?_
  apply r_guard (s := 6) rfl rfl rfl
  · intro hg; apply opT_of; (refine r_load_pp rfl rfl rfl rfl ?_); refine r_nil ?_; exact rfl
  · exact rfl
  · exact rfl
  apply r_guard (s := 6) rfl rfl rfl
  · intro hg; apply opT_of; (refine mvI rfl ?_); refine r_nil ?_; exact rfl
  · exact rfl
  · exact rfl
  apply r_guard (s := 6) rfl rfl rfl
  · intro hg; apply opT_strip (s := 7) rfl (by (rw [hg]; rfl)); apply opT_strip (s := 8) rfl (by (rw [hg]; rfl)); apply opT_of; (refine r_callc rfl (cal_mth (c_bin y hs n) rfl rfl rfl rfl rfl rfl) rfl ?_); refine r_nil ?_; exact rfl
  · exact rfl
  · exact rfl
  refine r_or rfl rfl ?_
  refine asB rfl ?_
  refine r_nil ?_
  refine i_then ?_
  refine t_ret ?_
  refine i_rp1 rfl rfl ?_
  all_goals exact ret_refl rfl rfl
set_option maxRecDepth 100000 in
theorem c_Check2 (b : Bin) : Ctr Tryz.prog 144 [Ty.agg (BinE.tys b)] (Ty.bool (inB b.holds 0 300 && allowedB b.first)) := by
  refine fn_intro Tryz.func144 rfl (by decide) Tryz.ntmps144 (by exact Nat.le_of_ble_eq_true rfl) fun w0 M0 => ?_
  refine t_seq ?_
  refine t_region ?_
  refine r_box_agg rfl ?_
  refine asB rfl ?_
  refine r_nil ?_
  refine i_then ?_
  refine t_seq ?_
  refine t_region ?_
  refine r_field_pp rfl rfl rfl rfl rfl (by decide) ?_
  refine r_load_pp rfl rfl rfl rfl ?_
  refine r_call (c_in _ _ _) rfl rfl rfl rfl rfl ?_
  refine mvB rfl ?_
  apply r_guard (s := 6) rfl rfl rfl
  · intro hg; apply opT_of; (refine r_field_pp rfl rfl rfl rfl rfl (by decide) ?_); refine r_nil ?_; exact rfl
  · exact rfl
  · exact rfl
  apply r_guard (s := 6) rfl rfl rfl
  · intro hg; apply opT_strip (s := 7) rfl (by (rw [hg]; rfl)); apply opT_of; (refine r_load_ppN rfl rfl rfl (by exact Nat.le_of_ble_eq_true rfl) ?_); refine r_nil ?_; exact rfl
  · exact rfl
  · exact rfl
  apply r_guard (s := 6) rfl rfl rfl
  · intro hg; apply opT_strip (s := 8) rfl (by (rw [hg]; rfl)); apply opT_of; (refine r_call (c_allowed _) rfl rfl rfl rfl rfl ?_); refine r_nil ?_; exact rfl
  · exact rfl
  · exact rfl
  refine r_and rfl rfl ?_
  refine asB rfl ?_
  refine r_nil ?_
  refine i_then ?_
  refine t_ret ?_
  refine i_rp1 rfl rfl ?_
  all_goals exact ret_refl rfl rfl
set_option maxRecDepth 100000 in
theorem c_Check3 (m : Move) : Ctr Tryz.prog 147 [Ty.agg (MoveE.tys m)] (Ty.bool (allowedB m.sacks)) := by
  refine fn_intro Tryz.func147 rfl (by decide) Tryz.ntmps147 (by exact Nat.le_of_ble_eq_true rfl) fun w0 M0 => ?_
  refine t_seq ?_
  refine t_region ?_
  refine r_box_agg rfl ?_
  refine asB rfl ?_
  refine r_nil ?_
  refine i_then ?_
  refine t_seq ?_
  refine t_region ?_
  refine r_field_pp rfl rfl rfl rfl rfl (by decide) ?_
  refine r_load_ppN rfl rfl rfl (by exact Nat.le_of_ble_eq_true rfl) ?_
  refine r_call (c_allowed _) rfl rfl rfl rfl rfl ?_
  refine asB rfl ?_
  refine r_nil ?_
  refine i_then ?_
  refine t_ret ?_
  refine i_rp1 rfl rfl ?_
  all_goals exact ret_refl rfl rfl
set_option maxRecDepth 100000 in
theorem c_Check4 (l : Level) : Ctr Tryz.prog 149 [Ty.agg (LevelE.tys l)] (Ty.bool (allowedB l.sacks)) := by
  refine fn_intro Tryz.func149 rfl (by decide) Tryz.ntmps149 (by exact Nat.le_of_ble_eq_true rfl) fun w0 M0 => ?_
  refine t_seq ?_
  refine t_region ?_
  refine r_box_agg rfl ?_
  refine asB rfl ?_
  refine r_nil ?_
  refine i_then ?_
  refine t_seq ?_
  refine t_region ?_
  refine r_field_pp rfl rfl rfl rfl rfl (by decide) ?_
  refine r_load_ppN rfl rfl rfl (by exact Nat.le_of_ble_eq_true rfl) ?_
  refine r_call (c_allowed _) rfl rfl rfl rfl rfl ?_
  refine asB rfl ?_
  refine r_nil ?_
  refine i_then ?_
  refine t_ret ?_
  refine i_rp1 rfl rfl ?_
  all_goals exact ret_refl rfl rfl
set_option maxRecDepth 100000 in
theorem c_Check5 (y : Yard) (hs : y.Small) (hd : 1 ≤ y.days ∧ y.days ≤ 5) (m : Move) : Ctr Tryz.prog 150 [Ty.agg (MoveE.tys m), Ty.pp (yardTys y), endT y] (Ty.bool ((inB m.day 0 (y.days - 1) && y.fin m.src) && y.fin m.dst)) := by
  refine fn_intro Tryz.func150 rfl (by decide) Tryz.ntmps150 (by exact Nat.le_of_ble_eq_true rfl) fun w0 M0 => ?_
  refine t_seq ?_
  refine t_region ?_
  refine r_box_agg rfl ?_
  refine asB rfl ?_
  refine r_nil ?_
  refine i_then ?_
  refine t_seq ?_
  refine t_region ?_
  refine r_field_pp rfl rfl rfl rfl rfl (by decide) ?_
  refine r_load_pp rfl rfl rfl rfl ?_
  refine r_field_pp rfl rfl rfl rfl rfl (by decide) ?_
  refine r_load_pp rfl rfl rfl rfl ?_
  refine r_sub rfl rfl (by omega) (by omega) ?_
  refine r_call (c_in _ _ _) rfl rfl rfl rfl rfl ?_
  refine mvB rfl ?_
  apply r_guard (s := 11) rfl rfl rfl
  · intro hg; apply opT_of; (refine r_load_pp rfl rfl rfl rfl ?_); refine r_nil ?_; exact rfl
  · exact rfl
  · exact rfl
  apply r_guard (s := 11) rfl rfl rfl
  · intro hg; apply opT_of; (refine r_field_pp rfl rfl rfl rfl rfl (by decide) ?_); refine r_nil ?_; exact rfl
  · exact rfl
  · exact rfl
  apply r_guard (s := 11) rfl rfl rfl
  · intro hg; apply opT_strip (s := 13) rfl (by (rw [hg]; rfl)); apply opT_of; (refine r_load_pp rfl rfl rfl rfl ?_); refine r_nil ?_; exact rfl
  · exact rfl
  · exact rfl
  apply r_guard (s := 11) rfl rfl rfl
  · intro hg; apply opT_strip (s := 12) rfl (by (rw [hg]; rfl)); apply opT_strip (s := 14) rfl (by (rw [hg]; rfl)); apply opT_of; (refine r_callc rfl (cal_clo (c_Check1 y hs m.src) rfl rfl rfl rfl rfl rfl) rfl ?_); refine r_nil ?_; exact rfl
  · exact rfl
  · exact rfl
  refine r_and rfl rfl ?_
  refine mvB rfl ?_
  apply r_guard (s := 17) rfl rfl rfl
  · intro hg; apply opT_of; (refine r_load_pp rfl rfl rfl rfl ?_); refine r_nil ?_; exact rfl
  · exact rfl
  · exact rfl
  apply r_guard (s := 17) rfl rfl rfl
  · intro hg; apply opT_of; (refine r_field_pp rfl rfl rfl rfl rfl (by decide) ?_); refine r_nil ?_; exact rfl
  · exact rfl
  · exact rfl
  apply r_guard (s := 17) rfl rfl rfl
  · intro hg; apply opT_strip (s := 19) rfl (by (rw [hg]; rfl)); apply opT_of; (refine r_load_pp rfl rfl rfl rfl ?_); refine r_nil ?_; exact rfl
  · exact rfl
  · exact rfl
  apply r_guard (s := 17) rfl rfl rfl
  · intro hg; apply opT_strip (s := 18) rfl (by (rw [hg]; rfl)); apply opT_strip (s := 20) rfl (by (rw [hg]; rfl)); apply opT_of; (refine r_callc rfl (cal_clo (c_Check1 y hs m.dst) rfl rfl rfl rfl rfl rfl) rfl ?_); refine r_nil ?_; exact rfl
  · exact rfl
  · exact rfl
  refine r_and rfl rfl ?_
  refine asB rfl ?_
  refine r_nil ?_
  refine i_then ?_
  refine t_ret ?_
  refine i_rp1 rfl rfl ?_
  all_goals exact ret_refl rfl rfl
set_option maxRecDepth 100000 in
theorem c_Check6 (y : Yard) (hs : y.Small) (l : Level) : Ctr Tryz.prog 151 [Ty.agg (LevelE.tys l), Ty.pp (yardTys y), Ty.pp [finM y]] (Ty.bool (y.time l.day && y.bin l.bin)) := by
  refine fn_intro Tryz.func151 rfl (by decide) Tryz.ntmps151 (by exact Nat.le_of_ble_eq_true rfl) fun w0 M0 => ?_
  refine t_seq ?_
  refine t_region ?_
  refine r_box_agg rfl ?_
  refine asB rfl ?_
  refine r_nil ?_
  refine i_then ?_
  refine t_seq ?_
  refine t_region ?_
  refine r_load_ppN rfl rfl rfl (by exact Nat.le_of_ble_eq_true rfl) ?_
  refine r_field_pp rfl rfl rfl rfl rfl (by decide) ?_
  refine r_load_pp rfl rfl rfl rfl ?_
  refine r_call (c_time y _) rfl rfl rfl rfl rfl ?_
  refine mvB rfl ?_
  apply r_guard (s := 9) rfl rfl rfl
  · intro hg; apply opT_of; (refine r_load_pp rfl rfl rfl rfl ?_); refine r_nil ?_; exact rfl
  · exact rfl
  · exact rfl
  apply r_guard (s := 9) rfl rfl rfl
  · intro hg; apply opT_of; (refine r_field_pp rfl rfl rfl rfl rfl (by decide) ?_); refine r_nil ?_; exact rfl
  · exact rfl
  · exact rfl
  apply r_guard (s := 9) rfl rfl rfl
  · intro hg; apply opT_strip (s := 11) rfl (by (rw [hg]; rfl)); apply opT_of; (refine r_load_pp rfl rfl rfl rfl ?_); refine r_nil ?_; exact rfl
  · exact rfl
  · exact rfl
  apply r_guard (s := 9) rfl rfl rfl
  · intro hg; apply opT_strip (s := 10) rfl (by (rw [hg]; rfl)); apply opT_strip (s := 12) rfl (by (rw [hg]; rfl)); apply opT_of; (refine r_callc rfl (cal_mth (c_bin y hs l.bin) rfl rfl rfl rfl rfl rfl) rfl ?_); refine r_nil ?_; exact rfl
  · exact rfl
  · exact rfl
  refine r_and rfl rfl ?_
  refine asB rfl ?_
  refine r_nil ?_
  refine i_then ?_
  refine t_ret ?_
  refine i_rp1 rfl rfl ?_
  all_goals exact ret_refl rfl rfl
set_option maxRecDepth 100000 in
theorem c_Check7 (m : Move) : Ctr Tryz.prog 152 [Ty.agg (MoveE.tys m)] (Ty.bool (!decide (m.src = m.dst))) := by
  refine fn_intro Tryz.func152 rfl (by decide) Tryz.ntmps152 (by exact Nat.le_of_ble_eq_true rfl) fun w0 M0 => ?_
  refine t_seq ?_
  refine t_region ?_
  refine r_box_agg rfl ?_
  refine asB rfl ?_
  refine r_nil ?_
  refine i_then ?_
  refine t_seq ?_
  refine t_region ?_
  refine r_field_pp rfl rfl rfl rfl rfl (by decide) ?_
  refine r_load_pp rfl rfl rfl rfl ?_
  refine r_field_pp rfl rfl rfl rfl rfl (by decide) ?_
  refine r_load_pp rfl rfl rfl rfl ?_
  refine r_bin rfl rfl rfl ?_
  refine asB rfl ?_
  refine r_nil ?_
  refine i_then ?_
  refine t_ret ?_
  refine i_rp1 rfl rfl ?_
  all_goals exact ret_refl rfl rfl
set_option maxRecDepth 100000 in
theorem c_Check8 (b : Bin) : Ctr Tryz.prog 153 [Ty.agg (BinE.tys b)] (Ty.bool (risingB b.first)) := by
  refine fn_intro Tryz.func153 rfl (by decide) Tryz.ntmps153 (by exact Nat.le_of_ble_eq_true rfl) fun w0 M0 => ?_
  refine t_seq ?_
  refine t_region ?_
  refine r_box_agg rfl ?_
  refine asB rfl ?_
  refine r_nil ?_
  refine i_then ?_
  refine t_seq ?_
  refine t_region ?_
  refine r_field_pp rfl rfl rfl rfl rfl (by decide) ?_
  refine r_load_ppN rfl rfl rfl (by exact Nat.le_of_ble_eq_true rfl) ?_
  refine r_call (c_rising _) rfl rfl rfl rfl rfl ?_
  refine asB rfl ?_
  refine r_nil ?_
  refine i_then ?_
  refine t_ret ?_
  refine i_rp1 rfl rfl ?_
  all_goals exact ret_refl rfl rfl
set_option maxRecDepth 100000 in
theorem c_Check9 (m : Move) : Ctr Tryz.prog 155 [Ty.agg (MoveE.tys m)] (Ty.bool (risingB m.sacks)) := by
  refine fn_intro Tryz.func155 rfl (by decide) Tryz.ntmps155 (by exact Nat.le_of_ble_eq_true rfl) fun w0 M0 => ?_
  refine t_seq ?_
  refine t_region ?_
  refine r_box_agg rfl ?_
  refine asB rfl ?_
  refine r_nil ?_
  refine i_then ?_
  refine t_seq ?_
  refine t_region ?_
  refine r_field_pp rfl rfl rfl rfl rfl (by decide) ?_
  refine r_load_ppN rfl rfl rfl (by exact Nat.le_of_ble_eq_true rfl) ?_
  refine r_call (c_rising _) rfl rfl rfl rfl rfl ?_
  refine asB rfl ?_
  refine r_nil ?_
  refine i_then ?_
  refine t_ret ?_
  refine i_rp1 rfl rfl ?_
  all_goals exact ret_refl rfl rfl
set_option maxRecDepth 100000 in
theorem c_Check10 (l : Level) : Ctr Tryz.prog 156 [Ty.agg (LevelE.tys l)] (Ty.bool (risingB l.sacks)) := by
  refine fn_intro Tryz.func156 rfl (by decide) Tryz.ntmps156 (by exact Nat.le_of_ble_eq_true rfl) fun w0 M0 => ?_
  refine t_seq ?_
  refine t_region ?_
  refine r_box_agg rfl ?_
  refine asB rfl ?_
  refine r_nil ?_
  refine i_then ?_
  refine t_seq ?_
  refine t_region ?_
  refine r_field_pp rfl rfl rfl rfl rfl (by decide) ?_
  refine r_load_ppN rfl rfl rfl (by exact Nat.le_of_ble_eq_true rfl) ?_
  refine r_call (c_rising _) rfl rfl rfl rfl rfl ?_
  refine asB rfl ?_
  refine r_nil ?_
  refine i_then ?_
  refine t_ret ?_
  refine i_rp1 rfl rfl ?_
  all_goals exact ret_refl rfl rfl
set_option maxRecDepth 100000 in
theorem c_Check (y : Yard) (hs : y.Small) : Ctr Tryz.prog 70 [yardT y] (Ty.int .i64 (checkY y)) := by
  refine fn_intro Tryz.func70 rfl (by decide) Tryz.ntmps70 (by exact Nat.le_of_ble_eq_true rfl) fun w0 M0 => ?_
  have hs1 := hs.bins
  have hs2 := hs.moves
  have hs3 := hs.levels
  refine t_seq ?_
  refine t_region ?_
  refine r_box_agg rfl ?_
  refine asI rfl ?_
  refine r_nil ?_
  refine i_then ?_
  refine t_seq ?_
  refine t_region ?_
  refine r_load_ppN rfl rfl rfl (by exact Nat.le_of_ble_eq_true rfl) ?_
  refine r_makeMth (l := [yardT y]) rfl ?_
  refine r_alloc rfl (by exact List.cons_ne_nil _ _) rfl ?_
  refine r_store1 rfl rfl (by decide) rfl rfl (by exact (rfl : _ = Ty.mth _ _)) rfl (by exact Nat.le_of_ble_eq_true rfl) rfl rfl (by exact (rfl : _ = [_])) ?_
  refine r_nil ?_
  refine i_then ?_
  refine t_seq ?_
  refine t_pub (tg := 4) [(3, Ty.pp [finM y])] (by decide) rfl ⟨pub_ptr (T := 118) (tg := 4) (off := 0) (l := [finM y]) rfl rfl rfl (by decide), trivial⟩ ?_
  refine t_region ?_
  refine r_makeFunc rfl ?_
  refine r_alloc rfl (by exact List.cons_ne_nil _ _) rfl ?_
  refine r_store1 rfl rfl (by decide) rfl rfl (by exact (rfl : _ = Ty.clo _ _)) rfl (by exact Nat.le_of_ble_eq_true rfl) rfl rfl (by exact (rfl : _ = [_])) ?_
  refine r_nil ?_
  refine i_then ?_
  refine t_seq ?_
  refine t_block ?_
  refine t_seq ?_
  refine t_pub (tg := 5) [(4, endT y)] (by decide) rfl ⟨pub_ptr (T := 118) (tg := 5) (off := 0) (l := [Ty.clo 142 [Ty.pp [finM y]]]) rfl rfl rfl (by decide), trivial⟩ ?_
  refine t_region ?_
  refine r_field_pp rfl rfl rfl rfl rfl (by decide) ?_
  refine r_load_pp rfl rfl rfl rfl ?_
  refine r_call (c_in _ _ _) rfl rfl rfl rfl rfl ?_
  refine r_not rfl ?_
  refine mvB rfl ?_
  apply r_guard (s := 13) rfl rfl rfl
  · intro hg; apply opT_of; (refine r_field_pp rfl rfl rfl rfl rfl (by decide) ?_); refine r_nil ?_; exact rfl
  · exact rfl
  · exact rfl
  apply r_guard (s := 13) rfl rfl rfl
  · intro hg; apply opT_strip (s := 14) rfl (by (rw [hg]; rfl)); apply opT_of; (refine r_load_pp rfl rfl rfl rfl ?_); refine r_nil ?_; exact rfl
  · exact rfl
  · exact rfl
  apply r_guard (s := 13) rfl rfl rfl
  · intro hg; apply opT_strip (s := 15) rfl (by (rw [hg]; rfl)); apply opT_of; (refine r_len rfl rfl rfl ?_); refine r_nil ?_; exact rfl
  · exact rfl
  · exact rfl
  apply r_guard (s := 13) rfl rfl rfl
  · intro hg; apply opT_strip (s := 16) rfl (by (rw [hg]; rfl)); apply opT_of; (refine r_call (c_in _ _ _) rfl rfl rfl rfl rfl ?_); refine r_nil ?_; exact rfl
  · exact rfl
  · exact rfl
  apply r_guard (s := 13) rfl rfl rfl
  · intro hg; apply opT_strip (s := 17) rfl (by (rw [hg]; rfl)); apply opT_of; (refine r_not rfl ?_); refine r_nil ?_; exact rfl
  · exact rfl
  · exact rfl
  refine r_or rfl rfl ?_
  refine mvB rfl ?_
  apply r_guard (s := 20) rfl rfl rfl
  · intro hg; apply opT_of; (refine r_field_pp rfl rfl rfl rfl rfl (by decide) ?_); refine r_nil ?_; exact rfl
  · exact rfl
  · exact rfl
  apply r_guard (s := 20) rfl rfl rfl
  · intro hg; apply opT_strip (s := 21) rfl (by (rw [hg]; rfl)); apply opT_of; (refine r_load_pp rfl rfl rfl rfl ?_); refine r_nil ?_; exact rfl
  · exact rfl
  · exact rfl
  apply r_guard (s := 20) rfl rfl rfl
  · intro hg; apply opT_strip (s := 22) rfl (by (rw [hg]; rfl)); apply opT_of; (refine r_len rfl rfl rfl ?_); refine r_nil ?_; exact rfl
  · exact rfl
  · exact rfl
  apply r_guard (s := 20) rfl rfl rfl
  · intro hg; apply opT_strip (s := 23) rfl (by (rw [hg]; rfl)); apply opT_of; (refine r_bin rfl rfl rfl ?_); refine r_nil ?_; exact rfl
  · exact rfl
  · exact rfl
  refine r_or rfl rfl ?_
  refine mvB rfl ?_
  apply r_guard (s := 26) rfl rfl rfl
  · intro hg; apply opT_of; (refine r_field_pp rfl rfl rfl rfl rfl (by decide) ?_); refine r_nil ?_; exact rfl
  · exact rfl
  · exact rfl
  apply r_guard (s := 26) rfl rfl rfl
  · intro hg; apply opT_strip (s := 27) rfl (by (rw [hg]; rfl)); apply opT_of; (refine r_load_pp rfl rfl rfl rfl ?_); refine r_nil ?_; exact rfl
  · exact rfl
  · exact rfl
  apply r_guard (s := 26) rfl rfl rfl
  · intro hg; apply opT_strip (s := 28) rfl (by (rw [hg]; rfl)); apply opT_of; (refine r_len rfl rfl rfl ?_); refine r_nil ?_; exact rfl
  · exact rfl
  · exact rfl
  apply r_guard (s := 26) rfl rfl rfl
  · intro hg; apply opT_strip (s := 29) rfl (by (rw [hg]; rfl)); apply opT_of; (refine r_bin rfl rfl rfl ?_); refine r_nil ?_; exact rfl
  · exact rfl
  · exact rfl
  refine r_or rfl rfl ?_
  refine asB rfl ?_
  refine r_nil ?_
  refine i_then ?_
  refine t_cond rfl (fun hc1 => ?_) (fun hc1 => ?_)
  ·
    refine t_seq ?_
    refine t_region ?_
    refine asI rfl ?_
    refine r_nil ?_
    refine i_then ?_
    refine t_ret ?_
    refine i_block_ret ?_
    refine i_then_ret ?_
    refine i_rp1 rfl rfl ?_
    all_goals skip
    exact ret_eq rfl rfl (congrArg (Ty.int .i64) (by rw [checkY, if_pos (show manyY y = true from hc1)]))
  ·
    refine t_seq ?_
    refine t_forget (B := live [(1, Ty.pp (yardTys y)), (3, Ty.pp [finM y]), (4, endT y)] []) ?_ ?_
    · (refine Ent.mk' ?_ ?_ <;> (repeat' (first | exact allSub_zero | exact allTags_nil | refine allSub_succ' ?_ (Ty.sub_any _) | refine allSub_succ' ?_ (Ty.sub_refl _))))
    refine t_region ?_
    refine r_field_pp rfl rfl rfl rfl rfl (by decide) ?_
    refine r_load_pp rfl rfl rfl rfl ?_
    refine r_call (c_every_bin y.bins (Ty.clo _ []) rfl (fun b => inB b.holds 0 300 && allowedB b.first) rfl rfl fun b _ => cal_clo (c_Check2 b) rfl rfl rfl rfl rfl rfl) rfl rfl rfl rfl rfl ?_
    refine r_not rfl ?_
    refine asB rfl ?_
    refine r_nil ?_
    refine i_then ?_
    refine t_cond rfl (fun hc2 => ?_) (fun hc2 => ?_)
    ·
      refine t_seq ?_
      refine t_region ?_
      refine asI rfl ?_
      refine r_nil ?_
      refine i_then ?_
      refine t_ret ?_
      refine i_block_ret ?_
      refine i_then_ret ?_
      refine i_rp1 rfl rfl ?_
      all_goals skip
      exact ret_eq rfl rfl (congrArg (Ty.int .i64) (by rw [checkY, if_neg (ng (show manyY y = false from hc1)), if_pos (show rangeY y = true from hc2)]))
    ·
      refine t_seq ?_
      refine t_region ?_
      refine r_field_pp rfl rfl rfl rfl rfl (by decide) ?_
      refine r_load_pp rfl rfl rfl rfl ?_
      refine r_call (c_every_mov y.moves (Ty.clo _ []) rfl (fun m => allowedB m.sacks) rfl rfl fun m _ => cal_clo (c_Check3 m) rfl rfl rfl rfl rfl rfl) rfl rfl rfl rfl rfl ?_
      refine r_not rfl ?_
      refine mvB rfl ?_
      apply r_guard (s := 42) rfl rfl rfl
      · intro hg; apply opT_of; (refine r_field_pp rfl rfl rfl rfl rfl (by decide) ?_); refine r_nil ?_; exact rfl
      · exact rfl
      · exact rfl
      apply r_guard (s := 42) rfl rfl rfl
      · intro hg; apply opT_strip (s := 43) rfl (by (rw [hg]; rfl)); apply opT_of; (refine r_load_pp rfl rfl rfl rfl ?_); refine r_nil ?_; exact rfl
      · exact rfl
      · exact rfl
      apply r_guard (s := 42) rfl rfl rfl
      · intro hg; apply opT_strip (s := 44) rfl (by (rw [hg]; rfl)); apply opT_of; (refine r_call (c_every_lev y.levels (Ty.clo _ []) rfl (fun l => allowedB l.sacks) rfl rfl fun l _ => cal_clo (c_Check4 l) rfl rfl rfl rfl rfl rfl) rfl rfl rfl rfl rfl ?_); refine r_nil ?_; exact rfl
      · exact rfl
      · exact rfl
      apply r_guard (s := 42) rfl rfl rfl
      · intro hg; apply opT_strip (s := 45) rfl (by (rw [hg]; rfl)); apply opT_of; (refine r_not rfl ?_); refine r_nil ?_; exact rfl
      · exact rfl
      · exact rfl
      refine r_or rfl rfl ?_
      refine asB rfl ?_
      refine r_nil ?_
      refine i_then ?_
      refine t_cond rfl (fun hc3 => ?_) (fun hc3 => ?_)
      ·
        refine t_seq ?_
        refine t_region ?_
        refine asI rfl ?_
        refine r_nil ?_
        refine i_then ?_
        refine t_ret ?_
        refine i_block_ret ?_
        refine i_then_ret ?_
        refine i_rp1 rfl rfl ?_
        all_goals skip
        exact ret_eq rfl rfl (congrArg (Ty.int .i64) (by rw [checkY, if_neg (ng (show manyY y = false from hc1)), if_neg (ng (show rangeY y = false from hc2)), if_pos (show range2Y y = true from hc3)]))
      ·
        refine t_seq ?_
        refine t_forget (B := live [(1, Ty.pp (yardTys y)), (3, Ty.pp [finM y]), (4, endT y)] []) ?_ ?_
        · (refine Ent.mk' ?_ ?_ <;> (repeat' (first | exact allSub_zero | exact allTags_nil | refine allSub_succ' ?_ (Ty.sub_any _) | refine allSub_succ' ?_ (Ty.sub_refl _))))
        have hd := many_days hc1
        refine t_region ?_
        refine r_field_pp rfl rfl rfl rfl rfl (by decide) ?_
        refine r_load_pp rfl rfl rfl rfl ?_
        refine r_makeFunc rfl ?_
        refine r_call (c_every_mov y.moves (Ty.clo _ [Ty.pp (yardTys y), endT y]) rfl (fun m => (inB m.day 0 (y.days - 1) && y.fin m.src) && y.fin m.dst) rfl rfl fun m _ => cal_clo (c_Check5 y hs hd m) rfl rfl rfl rfl rfl rfl) rfl rfl rfl rfl rfl ?_
        refine r_not rfl ?_
        refine asB rfl ?_
        refine r_nil ?_
        refine i_then ?_
        refine t_cond rfl (fun hc4 => ?_) (fun hc4 => ?_)
        ·
          refine t_seq ?_
          refine t_region ?_
          refine asI rfl ?_
          refine r_nil ?_
          refine i_then ?_
          refine t_ret ?_
          refine i_block_ret ?_
          refine i_then_ret ?_
          refine i_rp1 rfl rfl ?_
          all_goals skip
          exact ret_eq rfl rfl (congrArg (Ty.int .i64) (by rw [checkY, if_neg (ng (show manyY y = false from hc1)), if_neg (ng (show rangeY y = false from hc2)), if_neg (ng (show range2Y y = false from hc3)), if_pos (show notY y = true from hc4)]))
        ·
          refine t_seq ?_
          refine t_region ?_
          refine r_field_pp rfl rfl rfl rfl rfl (by decide) ?_
          refine r_load_pp rfl rfl rfl rfl ?_
          refine r_makeFunc rfl ?_
          refine r_call (c_every_lev y.levels (Ty.clo _ [Ty.pp (yardTys y), Ty.pp [finM y]]) rfl (fun l => y.time l.day && y.bin l.bin) rfl rfl fun l _ => cal_clo (c_Check6 y hs l) rfl rfl rfl rfl rfl rfl) rfl rfl rfl rfl rfl ?_
          refine r_not rfl ?_
          refine asB rfl ?_
          refine r_nil ?_
          refine i_then ?_
          refine t_cond rfl (fun hc5 => ?_) (fun hc5 => ?_)
          ·
            refine t_seq ?_
            refine t_region ?_
            refine asI rfl ?_
            refine r_nil ?_
            refine i_then ?_
            refine t_ret ?_
            refine i_block_ret ?_
            refine i_then_ret ?_
            refine i_rp1 rfl rfl ?_
            all_goals skip
            exact ret_eq rfl rfl (congrArg (Ty.int .i64) (by rw [checkY, if_neg (ng (show manyY y = false from hc1)), if_neg (ng (show rangeY y = false from hc2)), if_neg (ng (show range2Y y = false from hc3)), if_neg (ng (show notY y = false from hc4)), if_pos (show not2Y y = true from hc5)]))
          ·
            refine t_seq ?_
            refine t_forget (B := live [(1, Ty.pp (yardTys y)), (3, Ty.pp [finM y]), (4, endT y)] []) ?_ ?_
            · (refine Ent.mk' ?_ ?_ <;> (repeat' (first | exact allSub_zero | exact allTags_nil | refine allSub_succ' ?_ (Ty.sub_any _) | refine allSub_succ' ?_ (Ty.sub_refl _))))
            refine t_region ?_
            refine r_field_pp rfl rfl rfl rfl rfl (by decide) ?_
            refine r_load_pp rfl rfl rfl rfl ?_
            refine r_call (c_every_mov y.moves (Ty.clo _ []) rfl (fun m => !decide (m.src = m.dst)) rfl rfl fun m _ => cal_clo (c_Check7 m) rfl rfl rfl rfl rfl rfl) rfl rfl rfl rfl rfl ?_
            refine r_not rfl ?_
            refine asB rfl ?_
            refine r_nil ?_
            refine i_then ?_
            refine t_cond rfl (fun hc6 => ?_) (fun hc6 => ?_)
            ·
              refine t_seq ?_
              refine t_region ?_
              refine asI rfl ?_
              refine r_nil ?_
              refine i_then ?_
              refine t_ret ?_
              refine i_block_ret ?_
              refine i_then_ret ?_
              refine i_rp1 rfl rfl ?_
              all_goals skip
              exact ret_eq rfl rfl (congrArg (Ty.int .i64) (by rw [checkY, if_neg (ng (show manyY y = false from hc1)), if_neg (ng (show rangeY y = false from hc2)), if_neg (ng (show range2Y y = false from hc3)), if_neg (ng (show notY y = false from hc4)), if_neg (ng (show not2Y y = false from hc5)), if_pos (show twiceY y = true from hc6)]))
            ·
              refine t_seq ?_
              refine t_region ?_
              refine r_field_pp rfl rfl rfl rfl rfl (by decide) ?_
              refine r_load_pp rfl rfl rfl rfl ?_
              refine r_call (c_every_bin y.bins (Ty.clo _ []) rfl (fun b => risingB b.first) rfl rfl fun b _ => cal_clo (c_Check8 b) rfl rfl rfl rfl rfl rfl) rfl rfl rfl rfl rfl ?_
              refine r_not rfl ?_
              refine mvB rfl ?_
              apply r_guard (s := 70) rfl rfl rfl
              · intro hg; apply opT_of; (refine r_field_pp rfl rfl rfl rfl rfl (by decide) ?_); refine r_nil ?_; exact rfl
              · exact rfl
              · exact rfl
              apply r_guard (s := 70) rfl rfl rfl
              · intro hg; apply opT_strip (s := 71) rfl (by (rw [hg]; rfl)); apply opT_of; (refine r_load_pp rfl rfl rfl rfl ?_); refine r_nil ?_; exact rfl
              · exact rfl
              · exact rfl
              apply r_guard (s := 70) rfl rfl rfl
              · intro hg; apply opT_strip (s := 72) rfl (by (rw [hg]; rfl)); apply opT_of; (refine r_call (c_every_mov y.moves (Ty.clo _ []) rfl (fun m => risingB m.sacks) rfl rfl fun m _ => cal_clo (c_Check9 m) rfl rfl rfl rfl rfl rfl) rfl rfl rfl rfl rfl ?_); refine r_nil ?_; exact rfl
              · exact rfl
              · exact rfl
              apply r_guard (s := 70) rfl rfl rfl
              · intro hg; apply opT_strip (s := 73) rfl (by (rw [hg]; rfl)); apply opT_of; (refine r_not rfl ?_); refine r_nil ?_; exact rfl
              · exact rfl
              · exact rfl
              refine r_or rfl rfl ?_
              refine mvB rfl ?_
              apply r_guard (s := 76) rfl rfl rfl
              · intro hg; apply opT_of; (refine r_field_pp rfl rfl rfl rfl rfl (by decide) ?_); refine r_nil ?_; exact rfl
              · exact rfl
              · exact rfl
              apply r_guard (s := 76) rfl rfl rfl
              · intro hg; apply opT_strip (s := 77) rfl (by (rw [hg]; rfl)); apply opT_of; (refine r_load_pp rfl rfl rfl rfl ?_); refine r_nil ?_; exact rfl
              · exact rfl
              · exact rfl
              apply r_guard (s := 76) rfl rfl rfl
              · intro hg; apply opT_strip (s := 78) rfl (by (rw [hg]; rfl)); apply opT_of; (refine r_call (c_every_lev y.levels (Ty.clo _ []) rfl (fun l => risingB l.sacks) rfl rfl fun l _ => cal_clo (c_Check10 l) rfl rfl rfl rfl rfl rfl) rfl rfl rfl rfl rfl ?_); refine r_nil ?_; exact rfl
              · exact rfl
              · exact rfl
              apply r_guard (s := 76) rfl rfl rfl
              · intro hg; apply opT_strip (s := 79) rfl (by (rw [hg]; rfl)); apply opT_of; (refine r_not rfl ?_); refine r_nil ?_; exact rfl
              · exact rfl
              · exact rfl
              refine r_or rfl rfl ?_
              refine asB rfl ?_
              refine r_nil ?_
              refine i_then ?_
              refine t_cond rfl (fun hc7 => ?_) (fun hc7 => ?_)
              ·
                refine t_seq ?_
                refine t_region ?_
                refine asI rfl ?_
                refine r_nil ?_
                refine i_then ?_
                refine t_ret ?_
                refine i_block_ret ?_
                refine i_then_ret ?_
                refine i_rp1 rfl rfl ?_
                all_goals skip
                exact ret_eq rfl rfl (congrArg (Ty.int .i64) (by rw [checkY, if_neg (ng (show manyY y = false from hc1)), if_neg (ng (show rangeY y = false from hc2)), if_neg (ng (show range2Y y = false from hc3)), if_neg (ng (show notY y = false from hc4)), if_neg (ng (show not2Y y = false from hc5)), if_neg (ng (show twiceY y = false from hc6)), if_pos (show orderY y = true from hc7)]))
              ·
                refine t_skip ?_
                refine i_block ?_
                refine i_then ?_
                refine t_seq ?_
                refine t_region ?_
                refine asI rfl ?_
                refine r_nil ?_
                refine i_then ?_
                refine t_ret ?_
                refine i_rp1 rfl rfl ?_
                all_goals skip
                exact ret_eq rfl rfl (congrArg (Ty.int .i64) (by rw [checkY, if_neg (ng (show manyY y = false from hc1)), if_neg (ng (show rangeY y = false from hc2)), if_neg (ng (show range2Y y = false from hc3)), if_neg (ng (show notY y = false from hc4)), if_neg (ng (show not2Y y = false from hc5)), if_neg (ng (show twiceY y = false from hc6)), if_neg (ng (show orderY y = false from hc7))]))
set_option maxRecDepth 100000 in
theorem c_known (y : Yard) (hs : y.Small) (k : Int) : Ctr Tryz.prog 90 [yardT y, Ty.int .i64 k] (Ty.int .i64 (knownE y k)) := by
  refine fn_intro Tryz.func90 rfl (by decide) Tryz.ntmps90 (by exact Nat.le_of_ble_eq_true rfl) fun w0 M0 => ?_
  refine t_seq ?_
  refine t_region ?_
  refine r_box_agg rfl ?_
  refine asI rfl ?_
  refine r_nil ?_
  refine i_then ?_
  refine t_seq ?_
  refine t_region ?_
  refine r_load_ppN rfl rfl rfl (by exact Nat.le_of_ble_eq_true rfl) ?_
  refine r_call (c_Check y hs) rfl rfl rfl rfl rfl ?_
  refine asI rfl ?_
  refine r_nil ?_
  refine i_then ?_
  refine t_seq ?_
  refine t_seq ?_
  refine t_region ?_
  refine mvI rfl ?_
  refine r_bin rfl rfl rfl ?_
  refine mvB rfl ?_
  apply r_guard (s := 10) rfl rfl rfl
  · intro hg; apply opT_of; (refine r_load_ppN rfl rfl rfl (by exact Nat.le_of_ble_eq_true rfl) ?_); refine r_nil ?_; exact rfl
  · exact rfl
  · exact rfl
  apply r_guard (s := 10) rfl rfl rfl
  · intro hg; apply opT_of; (refine mvI rfl ?_); refine r_nil ?_; exact rfl
  · exact rfl
  · exact rfl
  apply r_guard (s := 10) rfl rfl rfl
  · intro hg; apply opT_strip (s := 11) rfl (by (rw [hg]; rfl)); apply opT_strip (s := 12) rfl (by (rw [hg]; rfl)); apply opT_of; (refine r_call (c_bin y hs _) rfl rfl rfl rfl rfl ?_); refine r_nil ?_; exact rfl
  · exact rfl
  · exact rfl
  apply r_guard (s := 10) rfl rfl rfl
  · intro hg; apply opT_strip (s := 13) rfl (by (rw [hg]; rfl)); apply opT_of; (refine r_not rfl ?_); refine r_nil ?_; exact rfl
  · exact rfl
  · exact rfl
  refine r_and rfl rfl ?_
  refine r_nil ?_
  refine i_then ?_
  refine t_cond rfl (fun hc1 => ?_) (fun hc1 => ?_)
  ·
    refine t_region ?_
    refine asI rfl ?_
    refine r_nil ?_
    refine i_then ?_
    refine t_seq ?_
    refine t_region ?_
    refine mvI rfl ?_
    refine asI rfl ?_
    refine r_nil ?_
    refine i_then ?_
    refine t_ret ?_
    refine i_rp1 rfl rfl ?_
    all_goals skip
    all_goals exact ret_eq rfl rfl (congrArg (Ty.int .i64) (known_not hc1))
  ·
    refine t_skip ?_
    refine i_then ?_
    refine t_seq ?_
    refine t_region ?_
    refine mvI rfl ?_
    refine asI rfl ?_
    refine r_nil ?_
    refine i_then ?_
    refine t_ret ?_
    refine i_rp1 rfl rfl ?_
    all_goals skip
    all_goals exact ret_eq rfl rfl (congrArg (Ty.int .i64) (known_chk hc1))
end Go.Proofs.YtelbollidfdcjaaGreat

namespace Go.T
open Go Go.RowKit
def LendC (A : As) (L : List Nat) (s t : Ty) : Prop := ∀ w M v, Wf w M → (∀ x ∈ A.tags, x.1 ∈ L → x.2.den w M x.1) → s.den w M v → t.den w (lend M L) v
def LendCs (A : As) (L : List Nat) : List Ty → List Ty → Prop
  | [], [] => True
  | s :: ss, t :: ts => LendC A L s t ∧ LendCs A L ss ts
  | _, _ => False
theorem lendcs_nil {A : As} {L : List Nat} : LendCs A L [] [] := trivial
theorem lendcs_cons {A : As} {L : List Nat} {s t : Ty} {ss ts : List Ty} (h : LendC A L s t) (h' : LendCs A L ss ts) : LendCs A L (s :: ss) (t :: ts) := ⟨h, h'⟩
theorem lendcs_dens {A : As} {L : List Nat} {w : World} {M : Tags} (wf : Wf w M) (ht : ∀ x ∈ A.tags, x.1 ∈ L → x.2.den w M x.1) : ∀ {ss ts : List Ty} {vs : List Value}, LendCs A L ss ts → dens w M ss vs → dens w (lend M L) ts vs
  | [], [], [], _, _ => trivial
  | _ :: _, _ :: _, _ :: _, ⟨h, h'⟩, ⟨h1, h2⟩ => ⟨h _ _ _ wf ht h1, lendcs_dens wf ht h' h2⟩
theorem lendc_of {A : As} {L : List Nat} {s t : Ty} (h : Lend L s t) : LendC A L s t := fun w M v wf _ hd => h w M v wf hd
theorem lendc_agg {A : As} {L : List Nat} {ss ts : List Ty} (h : LendCs A L ss ts) : LendC A L (Ty.agg ss) (Ty.agg ts) := fun _ _ _ wf ht ⟨cs, e, hd⟩ => ⟨cs, e, lendcs_dens wf ht h hd⟩
theorem lendc_vs {A : As} {L : List Nat} {α : Type} {E : El α} {T tg n : Nat} {xs : List α} (hc : A.tag tg = some (.vec E T xs)) (hn : xs.length = n) (h1 : Tag1 tg) (hL : L.contains tg = true) : LendC A L (.vs tg n) (.sl E xs) := fun w M v wf ht hd => by
  have hL' : tg ∈ L := by simpa using hL
  have hv : dVec E T xs w M tg := ht _ (tag_mem hc) hL'
  subst hn
  rcases hd with ⟨h0, rfl⟩ | ⟨b, cc, hb, e, hn1, hn2⟩
  · exact ⟨none, 0, by rw [h0], by omega, by simp [maxLen], fun h => absurd h (by omega)⟩
  refine ⟨_, cc, e, hn1, hn2, fun _ => ⟨b, 0, rfl, lend_in hb hL', wf.lt b _ hb, fun i t hi => ?_⟩⟩
  obtain ⟨u, hu, hdu⟩ := vec_cell wf h1 hb hv hi
  refine ⟨u, by rw [Nat.zero_add]; exact hu, t.mono (S := fun _ => True) (K := fun _ => True) (w := w) ⟨Nat.le_refl _, rfl, rfl, rfl, fun b _ hm => ⟨lend_none hm, rfl⟩, fun b t _ h => absurd trivial h⟩ ?_ ?_ hdu⟩
  · intro u hu
    have : u ∈ depsOf (xs.flatMap E.tys) := List.mem_flatMap.2 ⟨t, List.mem_of_getElem? hi, hu⟩
    rw [E.flat_deps] at this; cases this
  · intro u hu
    have : u ∈ cdepsOf (xs.flatMap E.tys) := List.mem_flatMap.2 ⟨t, List.mem_of_getElem? hi, hu⟩
    rw [E.flat_cdeps] at this; cases this
section
variable {P : Program} {fr : Fr} {ops : Array Oper} {A : As} {rest : List Oper} {K : As → List (As × Fx) → Prop} {d : Nat} {t ty' : TypeId} {p : String} {e : Array Edge} {Q : Exit → Act → World → Prop} {c : Code}
theorem r_callLC (L : List Nat) {f : FuncId} {args : List Ty} {res : Ty} (hF : Ctr P f args res) {xs : List Operand} {ats : Array TypeId} {ss : List Ty} (hx : opsTy A fr xs = ss) (hl : LendCs A L ss args) (hp : res.Plain)
    (h : TOps P fr ops rest (A.set d res) fun A' l => K A' ((A, { d := some d, ty := res, rs := xs.flatMap opR, rt := L }) :: l)) : TOps P fr ops (⟨some d, .call ⟨.value (.func f), xs.toArray, ats⟩, t, p, e, none⟩ :: rest) A K := by
  refine ⟨{ d := some d, ty := res, rs := xs.flatMap opR, rt := L }, ⟨rfl, by simp, by simp, by simp, fun a w M wf _ hrd htg => ?_⟩, h⟩
  rw [if_pos (by simp [Region.wanted])]
  have hv : dens w M ss (xs.map a.eval) := hx ▸ opsTy_dens hrd fun x hx c hc => List.mem_flatMap.2 ⟨x, hx, hc⟩
  have hc := hF.2 w _ _ (lend_wf (L := L) wf) lend_zero (lendcs_dens wf htg hl hv)
  have hrun : (execOp a.eval ⟨some d, .call ⟨.value (.func f), xs.toArray, ats⟩, t, p, e, none⟩).run P w = .ok (.enter f (xs.map a.eval).toArray) w := by
    simp [execOp, resolve, Act.eval, Deferred.ofValue, invoke, run_callFunc hF]
  refine wp_in_enter hrun ?_
  refine hc.mono fun en w' ⟨r, M', he, wf', le, hden⟩ => ?_
  obtain ⟨h1, h2, h3⟩ := callL_left wf le hp hden
  exact ⟨r, he, r, rfl, _, h1, h2, h3, by simp⟩
end
section
open Go.RowKit
variable {P : Program} {A : As} {fn : Func} {n : Nat} {w0 : World} {M0 : Tags} {F : List Nat} {post : List (Nat × Cont)} [T : Tab P]
end
section
variable {P : Program} {fr : Fr} {ops : Array Oper} {A : As} {rest : List Oper} {K : As → List (As × Fx) → Prop} {d : Nat} {t ty' : TypeId} {p : String} {e : Array Edge} [T : Tab P]
def dFit (w : World) (M : Tags) (J : Nat) (v : Value) : Prop := v = .slice none 0 0 ∨ ∃ g n c cur T, v = .slice (some ⟨g, 0, none⟩) n c ∧ M g = some J ∧ w.heap[g]? = some (.cells cur T (0, 0)) ∧ n ≤ cur.size
def Cont.fit (vs : List Value) : Cont :=
  { den := fun w M J => ∀ v ∈ vs, dFit w M J v
    mono := fun le _ _ hs hk h v hv => (h v hv).imp id fun ⟨g, n, c, cur, T, e, hg, hh, hn⟩ => let ⟨h1, h2⟩ := le.own g _ hg hk
      ⟨g, n, c, cur, T, e, h1, (h2 hs).trans hh, hn⟩ }
end
def XE : El (Int × {v : Value // v.oneCell' = true}) := ⟨2, fun y => [Ty.int .i64 y.1, Ty.ex y.2.1], fun _ => rfl, fun _ => rfl, fun _ => rfl, fun y => by
  have : (Ty.ex y.2.1).one = true := y.2.2
  simp [this, Ty.int]⟩
instance : Inhabited {v : Value // v.oneCell' = true} := ⟨⟨.bool true, rfl⟩⟩
section
variable {P : Program} {fr : Fr} {A : As} {Q : Exit → Act → World → Prop} {code : Code}
end
def ElJ.intRow {α : Type} (E : El α) (has : α → Int) (sh : α → List Int) (Ti : Nat) (hE : ∀ x, E.tys x = [Ty.int .i64 (has x), Ty.sl I64 (sh x)]) (hs : E.size = 2) : ElJ α where
  E := E
  own J x := [Ty.int .i64 (has x), Ty.row I64 Ti J (sh x)]
  olen _ _ := hs.symm
  deps J x u hu := by simpa [depsOf, Ty.int, Ty.row] using hu
  cdeps J x u hu := by simpa [cdepsOf, Ty.int, Ty.row] using hu
  oones _ _ := rfl
  pub J x w M M' vs wf h1 h2 h := by
    rw [hE x]
    match vs, h with
    | [_, _], ⟨a, b, _⟩ => exact ⟨a, row_sl wf b h1 h2, trivial⟩
  ren J J' x w M M' vs h1 h2 h := by
    match vs, h with
    | [_, _], ⟨a, b, _⟩ => exact ⟨a, row_tags b h1 h2, trivial⟩
  mine J x w M vs h g hg := by
    match vs, h with
    | [v1, v2], ⟨a, ⟨_, _, _, hM⟩, _⟩ =>
      have e1 : v1.ownBlock = none := by
        have : v1 = .int .i64 (has x) := a
        rw [this]; rfl
      cases e2 : v2.ownBlock with
      | none => simp [e1, e2] at hg
      | some b => simp [e1, e2] at hg; subst hg; exact hM _ e2
end Go.T

namespace Go.T
open Go Go.RowKit
def dRowO {α : Type} (E : El α) (T J : Nat) (xs : List α) (w : World) (M : Tags) (v : Value) : Prop :=
  (xs = [] ∧ v = .slice none 0 0) ∨ ∃ g off c cur, v = .slice (some ⟨g, off, none⟩) xs.length c ∧ M g = some J ∧ w.heap[g]? = some (.cells cur T (0, 0)) ∧ xs.length ≤ c ∧ c ≤ maxLen ∧ off + c * E.size ≤ cur.size ∧ dens w M (xs.flatMap E.tys) ((cur.toList.drop off).take (xs.length * E.size))
def Ty.rowO {α : Type} (E : El α) (T J : Nat) (xs : List α) : Ty :=
  ⟨dRowO E T J xs, [J], [J], fun le hk hs h => h.imp id fun ⟨g, off, c, cur, e, hg, hh, h1, h2, h3, h4⟩ =>
    let ⟨a, b⟩ := le.own g J hg (hk J (by simp))
    ⟨g, off, c, cur, e, a, (b (hs J (by simp))).trans hh, h1, h2, h3, dens_mono le (by rw [E.flat_deps]; intro _ h; cases h) (by rw [E.flat_cdeps]; intro _ h; cases h) h4⟩, true, fun _ h => by
      rcases h with ⟨_, rfl⟩ | ⟨_, _, _, _, rfl, _⟩ <;> rfl⟩
def endOf (size : Nat) : Value → Option (Nat × Nat)
  | .slice (some a) n _ => some (a.block, a.off + n * size)
  | _ => none
def roomy : Value → Bool
  | .slice _ n c => Nat.blt n c
  | _ => false
section
variable {κ α : Type} [DecidableEq κ]
def Apart (size : Nat) (vs : List Value) : Prop := ∀ (i j : Nat) (v u : Value) (g e e' : Nat), vs[i]? = some v → vs[j]? = some u → endOf size v = some (g, e) → endOf size u = some (g, e') → i = j
def dMr (enc : κ → Value) (E : El α) (T J : Nat) (q : List (κ × List α)) (w : World) (M : Tags) (t : Nat) : Prop :=
  (q.map Prod.fst).Nodup ∧ ∃ b es clock, M b = some t ∧ w.heap[b]? = some (.map es clock) ∧ es.toList.map (·.key) = q.map (fun x => enc x.1) ∧ dens w M (q.map fun x => Ty.rowO E T J x.2) (es.toList.map (·.val)) ∧ Apart E.size (es.toList.map (·.val))
omit [DecidableEq κ] in
theorem rows_deps {E : El α} {T J : Nat} {q : List (κ × List α)} : (∀ u ∈ depsOf (q.map fun x => Ty.rowO E T J x.2), u = J) ∧ ∀ u ∈ cdepsOf (q.map fun x => Ty.rowO E T J x.2), u = J := by
  constructor <;>
  · intro u hu
    simp only [depsOf, cdepsOf, List.mem_flatMap, List.mem_map] at hu
    obtain ⟨t, ⟨x, _, rfl⟩, hu⟩ := hu
    simpa [Ty.rowO] using hu
def Cont.mr (enc : κ → Value) (E : El α) (T J : Nat) (q : List (κ × List α)) : Cont :=
  { den := dMr enc E T J q, deps := [J], cdeps := [J]
    mono := fun le hk hs hst hkt ⟨hn, b, es, clock, h1, h2, h3, h4, h5⟩ => let ⟨a, c⟩ := le.own b _ h1 hkt
      ⟨hn, b, es, clock, a, (c hst).trans h2, h3, dens_mono le (fun u hu => by rw [rows_deps.1 u hu]; exact hk J (by simp)) (fun u hu => by rw [rows_deps.2 u hu]; exact hs J (by simp)) h4, h5⟩ }
omit [DecidableEq κ] in
theorem Cont.sub_mr {enc : κ → Value} {E : El α} {T J : Nat} {q q' : List (κ × List α)} (h : q = q') : (Cont.mr enc E T J q).Sub (Cont.mr enc E T J q') := h ▸ Cont.sub_refl _
def Own1 (size t : Nat) (q : List (κ × List α)) (k : κ) (w : World) (M : Tags) (v : Value) : Prop :=
  ∀ (g e0 : Nat), endOf size v = some (g, e0) → ∃ (b : Nat) (es : Array MapEntry) (clock : Nat), M b = some t ∧ w.heap[b]? = some (.map es clock) ∧ ∀ (j : Nat) (u : Value) (e1 : Nat), (es.toList.map (·.val))[j]? = some u → endOf size u = some (g, e1) → (q[j]?).map Prod.fst = some k ∧ (roomy v = true → e1 ≤ e0)
def dQv (E : El α) (T t J : Nat) (q : List (κ × List α)) (k : κ) (xs : List α) (w : World) (M : Tags) (v : Value) : Prop := dRowO E T J xs w M v ∧ Own1 E.size t q k w M v
def Ty.qv (E : El α) (T t J : Nat) (q : List (κ × List α)) (k : κ) (xs : List α) : Ty :=
  ⟨dQv E T t J q k xs, [t, J], [t, J], fun le hk hs ⟨h, h'⟩ => ⟨(Ty.rowO E T J xs).mono le (fun u hu => hk u (by simp [Ty.rowO] at hu ⊢; exact .inr hu)) (fun u hu => hs u (by simp [Ty.rowO] at hu ⊢; exact .inr hu)) h, fun g e0 he =>
    let ⟨b, es, clock, h1, h2, h3⟩ := h' g e0 he
    let ⟨a, c⟩ := le.own b t h1 (hk t (by simp))
    ⟨b, es, clock, a, (c (hs t (by simp))).trans h2, h3⟩⟩, true, fun ho h => (Ty.rowO E T J xs).isOne ho h.1⟩
omit [DecidableEq κ] in
theorem mpos_fst (q : List (κ × List α)) (hn : (q.map Prod.fst).Nodup) {i j : Nat} {k : κ} (hi : (q[i]?).map Prod.fst = some k) (hj : (q[j]?).map Prod.fst = some k) : i = j := by
  rw [← List.getElem?_map] at hi hj
  obtain ⟨h1, e1⟩ := List.getElem?_eq_some_iff.1 hi
  obtain ⟨h2, e2⟩ := List.getElem?_eq_some_iff.1 hj
  exact (List.getElem_inj hn).1 (e1.trans e2.symm)
theorem find_at {q : List (κ × List α)} {k : κ} {i : Nat} (h : (q.map Prod.fst).findIdx? (fun x => decide (x = k)) = some i) : (q[i]?).map Prod.fst = some k := by
  obtain ⟨v, hv, _⟩ := mget_pos q k i h
  rw [hv]; rfl
def mdel (q : List (κ × List α)) (k : κ) : List (κ × List α) := q.eraseIdx ((q.map Prod.fst).findIdx? (fun x => decide (x = k)) |>.getD q.length)
theorem mput_keys (q : List (κ × List α)) (k : κ) (v : List α) (hn : (q.map Prod.fst).Nodup) : ((mput q k v).map Prod.fst).Nodup := by
  cases hi : (q.map Prod.fst).findIdx? (fun x => decide (x = k)) with
  | some i =>
    obtain ⟨u, hu, _, hp⟩ := mget_pos q k i hi
    rw [hp, List.map_set]
    have : (q.map Prod.fst).set i k = q.map Prod.fst := by
      apply List.ext_getElem?
      intro j
      rw [List.getElem?_set]
      by_cases e : i = j
      · subst e
        have hlt := (List.getElem?_eq_some_iff.1 hu).1
        rw [if_pos rfl, if_pos (by simpa using hlt), List.getElem?_map, hu]; rfl
      · rw [if_neg e]
    rw [this]; exact hn
  | none =>
    obtain ⟨_, hp⟩ := mget_none q k hi
    rw [hp, List.map_append, List.nodup_append]
    refine ⟨hn, by simp, fun a ha b hb => ?_⟩
    simp only [List.map_cons, List.map_nil, List.mem_singleton] at hb
    subst hb
    intro e
    subst e
    rw [List.findIdx?_eq_none_iff] at hi
    have := hi a ha
    simp at this
end
section
variable {P : Program} {fr : Fr} {ops : Array Oper} {A : As} {rest : List Oper} {K : As → List (As × Fx) → Prop} {d : Nat} {t ty' mt kt et : TypeId} {p : String} {e : Array Edge}
variable {κ α : Type} [DecidableEq κ] {E : El α} {Tb J tg : Nat} {q : List (κ × List α)} {k : κ} {xs ys : List α}
omit [DecidableEq κ] in
theorem mr_at {x : Operand} {enc : κ → Value} (hx : A.op fr x = .mp tg) (hc : A.tag tg = some (.mr enc E Tb J q)) (h1 : Tag1 tg) {a : Act} {w : World} {M : Tags} {rs : List Nat} (wf : Wf w M) (hr : ∀ c ∈ opR x, c ∈ rs) (hrd : ∀ c ∈ rs, c < fr.n → (A.slots c).den w M (a.tmps.getD c undef)) (htg : ∀ y ∈ A.tags, y.1 ∈ [tg] → y.2.den w M y.1) :
    (q.map Prod.fst).Nodup ∧ ∃ b es clock, a.eval x = .map (some b) ∧ M b = some tg ∧ w.heap[b]? = some (.map es clock) ∧ es.toList.map (·.key) = q.map (fun x => enc x.1) ∧ dens w M (q.map fun x => Ty.rowO E Tb J x.2) (es.toList.map (·.val)) ∧ Apart E.size (es.toList.map (·.val)) := by
  have hxd := op_den hr hrd
  rw [hx] at hxd
  obtain ⟨b, e1, e2⟩ := hxd
  obtain ⟨hn, b', es, clock, h2, h3⟩ := htg _ (tag_mem hc) (by simp)
  obtain ⟨u, rfl⟩ : ∃ u, tg = u + 1 := ⟨tg - 1, by omega⟩
  have : b = b' := wf.inj b b' u (by omega) e2 h2
  subst this
  exact ⟨hn, b, es, clock, e1, e2, h3⟩
theorem vals_get {es : Array MapEntry} {i : Nat} {en : MapEntry} (h : es[i]? = some en) : (es.toList.map (·.val))[i]? = some en.val := by
  rw [List.getElem?_map, Array.getElem?_toList, h]; rfl
omit [DecidableEq κ] in
theorem r_makeMapQ (enc : κ → Value) (E : El α) (Tb J : Nat) (hm : mapOf P mt = some (kt, et)) (hp : fr.pass.contains (d + 1) = false)
    (h : TOps P fr ops rest (A.after { d := some d, ty := .mp (d + 1), K := [d + 1], sets := [(d + 1, .mr enc E Tb J [])] }) fun A' l' => K A' ((A, { d := some d, ty := .mp (d + 1), K := [d + 1], sets := [(d + 1, .mr enc E Tb J [])] }) :: l')) :
    TOps P fr ops (⟨some d, .makeMap mt none, t, p, e, none⟩ :: rest) A K := by
  refine ⟨_, opT_mem rfl rfl (by simp) (by simp) (by simp at hp ⊢; exact hp) fun a w M wf _ _ => ?_, h⟩
  have hrun : (execOp a.eval ⟨some d, .makeMap mt none, t, p, e, none⟩).run P w = .ok (.value (.map (some w.heap.size))) (w.alloc (.map #[] 0)) := by
    simp [execOp, Instr.makeMap, newObj, Sem.run]
  obtain ⟨h1, h2, h3⟩ := le_alloc wf (.map #[] 0) (d + 1)
  refine ⟨_, _, hrun, _, h1, h2, ⟨_, rfl, h3⟩, fun x hx => ?_⟩
  rw [List.mem_singleton.1 hx]
  exact ⟨by simp, w.heap.size, #[], 0, h3, alloc_new _ _, rfl, trivial, fun i j v u g e e' hi => by simp at hi⟩
theorem r_lookupQ {x y : Operand} {kty : Ty} (KK : KeyK P kt κ) (hx : A.op fr x = .mp tg) (hc : A.tag tg = some (.mr KK.enc E Tb J q)) (h1 : Tag1 tg) (hy : A.op fr y = kty) (hk : KeyAt kty (KK.enc k)) (hm : mapOf P mt = some (kt, et)) (hz : zeroOf P et = some (.slice none 0 0))
    (h : TOps P fr ops rest (A.set d (.qv E Tb tg J q k ((mget q k).getD []))) fun A' l' => K A' ((A, { d := some d, ty := .qv E Tb tg J q k ((mget q k).getD []), rs := opR x ++ opR y, rt := [tg] }) :: l')) :
    TOps P fr ops (⟨some d, .lookup mt x y false, t, p, e, none⟩ :: rest) A K :=
  tops_pure (opT_pure rfl rfl fun a w M wf hrd htg => by
    obtain ⟨hn, b, es, clock, e1, e2, h3, h4, h5, h6⟩ := mr_at hx hc h1 wf (fun c hc => List.mem_append_left _ hc) hrd htg
    have hyd := op_den (fun c hc => List.mem_append_right (opR x) hc) hrd
    rw [hy] at hyd
    have hu := mapOf_und hm
    rcases run_find KK h4 h5 k with ⟨i, v, en, hi, hg, hen, _, hd, hf⟩ | ⟨_, hg, hf⟩
    · refine ⟨en.val, ?_, by rw [hg]; exact hd, fun g e0 he => ⟨b, es, clock, e2, h3, fun j u e1 hj hju => ?_⟩⟩
      · simp only [execOp, e1, hk _ _ _ hyd]
        simp [Instr.lookup, underlying, hu, getObj, Sem.run, h3, KK.check, hf]
      · have hij := h6 i j en.val u g e0 e1 (vals_get hen) hj he hju
        subst hij
        rw [vals_get hen] at hj
        injection hj with hj
        subst hj
        rw [he] at hju
        injection hju with hju
        injection hju with _ hju
        exact ⟨find_at hi, fun _ => by omega⟩
    · refine ⟨.slice none 0 0, ?_, by rw [hg]; exact .inl ⟨rfl, rfl⟩, fun g e0 he => by simp [endOf] at he⟩
      simp only [execOp, e1, hk _ _ _ hyd]
      simp [Instr.lookup, underlying, hu, getObj, Sem.run, h3, KK.check, hf, run_zeroOf hz]) h
theorem r_updateQ {x y z : Operand} {kty : Ty} (KK : KeyK P kt κ) (hx : A.op fr x = .mp tg) (hc : A.tag tg = some (.mr KK.enc E Tb J q)) (h1 : Tag1 tg) (hy : A.op fr y = kty) (hk : KeyAt kty (KK.enc k)) (hz : A.op fr z = .qv E Tb tg J q k xs) (hm : mapOf P mt = some (kt, et)) (hJ : Nat.beq J tg = false)
    (h : TOps P fr ops rest (A.after { d := none, S := [tg], sets := [(tg, .mr KK.enc E Tb J (mput q k xs))], rs := opR x ++ (opR y ++ opR z), rt := [tg] }) fun A' l' => K A' ((A, { d := none, S := [tg], sets := [(tg, .mr KK.enc E Tb J (mput q k xs))], rs := opR x ++ (opR y ++ opR z), rt := [tg] }) :: l')) :
    TOps P fr ops (⟨none, .mapUpdate mt x y z, t, p, e, none⟩ :: rest) A K := by
  have hJ' : J ≠ tg := fun h => by subst h; simp at hJ
  refine ⟨_, opT_unit rfl rfl rfl (by simp) (by simpa using h1.1) (by simp) fun a w M wf hrd htg => ?_, h⟩
  obtain ⟨hn, b, es, clock, e1, e2, h3, h4, h5, h6⟩ := mr_at hx hc h1 wf (fun c hc => List.mem_append_left _ hc) hrd htg
  have hyd := op_den (fun c hc => List.mem_append_right (opR x) (List.mem_append_left (opR z) hc)) hrd
  have hzd := op_den (fun c hc => List.mem_append_right (opR x) (List.mem_append_right (opR y) hc)) hrd
  rw [hy] at hyd
  rw [hz] at hzd
  obtain ⟨hrow, hown⟩ := hzd
  have hu := mapOf_und hm
  have hblt : b < w.heap.size := wf.lt b _ e2
  have own' : ∀ (g e0 : Nat), endOf E.size (a.eval z) = some (g, e0) → ∀ (j : Nat) (u : Value) (e' : Nat), (es.toList.map (·.val))[j]? = some u → endOf E.size u = some (g, e') → (q[j]?).map Prod.fst = some k := fun g e0 he j u e' hj hju => by
    obtain ⟨b', es', c', g1, g2, g3⟩ := hown g e0 he
    obtain ⟨u', rfl⟩ : ∃ u, tg = u + 1 := ⟨tg - 1, by omega⟩
    have : b = b' := wf.inj b b' u' (by omega) e2 g1
    subst this
    rw [h3] at g2
    injection g2 with g2
    injection g2 with g2 g4
    subst g2
    exact (g3 j u e' hj hju).1
  have fin : ∀ (es' : Array MapEntry) (clock' : Nat), es'.toList.map (·.key) = (mput q k xs).map (fun x => KK.enc x.1) → dens w M ((mput q k xs).map fun x => Ty.rowO E Tb J x.2) (es'.toList.map (·.val)) → Apart E.size (es'.toList.map (·.val)) →
      (Instr.mapUpdate mt (.map (some b)) (KK.enc k) (a.eval z)).run P w = .ok () { w with heap := w.heap.setIfInBounds b (.map es' clock') } →
      ∃ w', (execOp a.eval ⟨none, .mapUpdate mt x y z, t, p, e, none⟩).run P w = .ok .skip w' ∧ Fx.left { d := none, S := [tg], sets := [(tg, .mr KK.enc E Tb J (mput q k xs))], rs := opR x ++ (opR y ++ opR z), rt := [tg] } w M w' undef := by
    intro es' clock' hk' hd' hap hrun
    have hr : (execOp a.eval ⟨none, .mapUpdate mt x y z, t, p, e, none⟩).run P w = .ok .skip { w with heap := w.heap.setIfInBounds b (.map es' clock') } := by
      simp only [execOp, e1, hk _ _ _ hyd]
      simp [hrun]
    have le : Le (· ∈ [tg]) (· ∈ ([] : List Nat)) w M { w with heap := w.heap.setIfInBounds b (.map es' clock') } M := by
      refine ⟨by simp, rfl, rfl, rfl, fun b2 hlt hm2 => ⟨hm2, ?_⟩, fun b2 u hm2 _ => ⟨hm2, fun hs => ?_⟩⟩
      · have : b ≠ b2 := fun h => by subst h; rw [e2] at hm2; cases hm2
        simp [Array.getElem?_setIfInBounds, this]
      · have : b ≠ b2 := fun h => by subst h; rw [e2] at hm2; injection hm2 with hm2; exact hs (by simp [hm2])
        simp [Array.getElem?_setIfInBounds, this]
    refine ⟨_, hr, M, ⟨fun b2 u h => by simpa using wf.lt b2 u h, wf.inj⟩, le, trivial, fun x hx => ?_⟩
    rw [List.mem_singleton.1 hx]
    refine ⟨mput_keys q k xs hn, b, es', clock', e2, by simp [hblt], hk', ?_, hap⟩
    exact dens_mono le (fun _ _ => by simp) (fun u hu => by rw [rows_deps.2 u hu]; simpa using hJ') hd'
  rcases run_find KK h4 h5 k with ⟨i, v0, en, hi, hg, hen, hkey, hd, hf⟩ | ⟨hi, hg, hf⟩
  · obtain ⟨v1, hv1, _, hput⟩ := mget_pos q k i hi
    have hil : i < es.size := (Array.getElem?_eq_some_iff.1 hen).1
    have hes : (es.modify i fun e => { e with key := KK.enc k, val := a.eval z }).toList = es.toList.set i { en with key := KK.enc k, val := a.eval z } := by
      rw [Array.toList_modify, List.modify_eq_set, Array.getElem?_toList, hen]; rfl
    refine fin (es.modify i fun e => { e with key := KK.enc k, val := a.eval z }) clock ?_ ?_ ?_ ?_
    · rw [hput, List.map_set, hes, List.map_set, h4]
    · rw [hput, List.map_set, hes, List.map_set]
      exact dens_set h5 hrow
    · rw [hes, List.map_set]
      intro i1 j1 v u g e' e'' hi1 hj1 hv hu
      rw [List.getElem?_set] at hi1 hj1
      by_cases c1 : i = i1 <;> by_cases c2 : i = j1
      · omega
      · rw [if_pos c1] at hi1; rw [if_neg c2] at hj1
        split at hi1
        · injection hi1 with hi1
          have hi1 : a.eval z = v := hi1
          subst hi1
          have := mpos_fst q hn (own' g e' hv j1 u e'' hj1 hu) (find_at hi)
          omega
        · cases hi1
      · rw [if_neg c1] at hi1; rw [if_pos c2] at hj1
        split at hj1
        · injection hj1 with hj1
          have hj1 : a.eval z = u := hj1
          subst hj1
          have := mpos_fst q hn (own' g e'' hu i1 v e' hi1 hv) (find_at hi)
          omega
        · cases hj1
      · rw [if_neg c1] at hi1; rw [if_neg c2] at hj1
        exact h6 i1 j1 v u g e' e'' hi1 hj1 hv hu
    · simp [Instr.mapUpdate, underlying, hu, getObj, setObj, Sem.run, h3, KK.check, hf, hen, hkey, Instr.keyThatStays, KK.same]
  · obtain ⟨_, hput⟩ := mget_none q k hi
    have hlen : (es.toList.map (·.val)).length = q.length := by have := congrArg List.length h4; simpa using this
    have hno : ∀ j, (q[j]?).map Prod.fst ≠ some k := fun j hj => by
      rw [List.findIdx?_eq_none_iff] at hi
      rw [← List.getElem?_map] at hj
      have := hi k (List.mem_of_getElem? hj)
      simp at this
    refine fin (es.push { key := KK.enc k, val := a.eval z, born := clock }) (clock + 1) ?_ ?_ ?_ ?_
    · rw [hput]; simp [h4]
    · rw [hput]; simp only [Array.toList_push, List.map_append, List.map_cons, List.map_nil]
      exact dens_append h5 ⟨hrow, trivial⟩
    · simp only [Array.toList_push, List.map_append, List.map_cons, List.map_nil]
      intro i1 j1 v u g e' e'' hi1 hj1 hv hu
      rw [List.getElem?_append] at hi1 hj1
      split at hi1 <;> split at hj1
      · exact h6 i1 j1 v u g e' e'' hi1 hj1 hv hu
      · rw [List.getElem?_singleton] at hj1
        split at hj1
        · injection hj1 with hj1
          subst hj1
          exact absurd (own' g e'' hu i1 v e' hi1 hv) (hno i1)
        · cases hj1
      · rw [List.getElem?_singleton] at hi1
        split at hi1
        · injection hi1 with hi1
          subst hi1
          exact absurd (own' g e' hv j1 u e'' hj1 hu) (hno j1)
        · cases hi1
      · rw [List.getElem?_singleton] at hi1 hj1
        split at hi1 <;> split at hj1 <;> first | omega | (exfalso; simp at hj1; done) | (exfalso; simp at hi1; done)
    · simp [Instr.mapUpdate, underlying, hu, getObj, setObj, Sem.run, h3, KK.check, hf]
end
section
variable {P : Program} {fr : Fr} {ops : Array Oper} {A : As} {rest : List Oper} {K : As → List (As × Fx) → Prop} {d : Nat} {t ty' mt kt et : TypeId} {p : String} {e : Array Edge} [T : Tab P]
variable {κ α : Type} [DecidableEq κ] {E : El α} {Tb J tg : Nat} {q : List (κ × List α)} {k : κ} {xs ys : List α}
theorem rowO_cell [Inhabited α] {w : World} {M : Tags} {g off i j : Nat} {cur : Array Value} {ty : Ty} (hh : w.heap[g]? = some (.cells cur Tb (0, 0))) (hd : dens w M (xs.flatMap E.tys) ((cur.toList.drop off).take (xs.length * E.size))) (hi : i < xs.length) (hl : (E.tys (nth xs i))[j]? = some ty) :
    ∃ u, w.cell? ⟨g, off + i * E.size + j, none⟩ = some u ∧ ty.den w M u := by
  obtain ⟨u, hu, hdu⟩ := dens_get hd _ ty (flat_elem E xs hi j ty hl)
  rw [List.getElem?_take] at hu
  split at hu
  · rw [List.getElem?_drop] at hu
    exact ⟨u, by rw [Nat.add_assoc]; simpa [World.cell?, hh] using hu, hdu⟩
  · cases hu
end
end Go.T

namespace Go.T
open Go Go.RowKit
section
variable {P : Program} {fr : Fr} {ops : Array Oper} {A : As} {rest : List Oper} {K : As → List (As × Fx) → Prop} {d : Nat} {t ty' mt kt et : TypeId} {p : String} {e : Array Edge} [T : Tab P]
variable {κ α : Type} [DecidableEq κ] {E : El α} {Tb J tg : Nat} {q : List (κ × List α)} {k : κ} {xs ys : List α}
theorem take_put (l news : List Value) (o n m e : Nat) (he : o + n ≤ e) (hl : e + news.length ≤ l.length) : (((l.take e ++ news ++ l.drop (e + news.length)).drop o).take n) = (l.drop o).take n := by
  apply List.ext_getElem?
  intro i
  rw [List.getElem?_take, List.getElem?_take]
  split
  · rename_i hi
    rw [List.getElem?_drop, List.getElem?_drop, List.append_assoc, List.getElem?_append_left (by rw [List.length_take]; omega), List.getElem?_take, if_pos (by omega)]
  · rfl
theorem put_take (l news : List Value) (o n : Nat) (hl : o + n + news.length ≤ l.length) : (((l.take (o + n) ++ news ++ l.drop (o + n + news.length)).drop o).take (n + news.length)) = (l.drop o).take n ++ news := by
  have h1 : (l.take (o + n) ++ news ++ l.drop (o + n + news.length)).drop o = (l.drop o).take n ++ news ++ l.drop (o + n + news.length) := by
    rw [List.append_assoc, List.drop_append_of_le_length (by rw [List.length_take]; omega), List.drop_take, show o + n - o = n by omega, List.append_assoc]
  have h2 : ((l.drop o).take n ++ news).length = n + news.length := by rw [List.length_append, List.length_take, List.length_drop, Nat.min_eq_left (by omega)]
  rw [h1, List.take_left' h2]
omit [DecidableEq κ] in
theorem apart_le {w : World} {M : Tags} {vs : List Value} (hd : dens w M (q.map fun x => Ty.rowO E Tb J x.2) vs) {j : Nat} {u : Value} {g e1 : Nat} (hj : vs[j]? = some u) (hu : endOf E.size u = some (g, e1)) : M g = some J := by
  have hlen := dens_len hd
  have hlt := (List.getElem?_eq_some_iff.1 hj).1
  obtain ⟨x, hx, hdx⟩ := dens_get hd j (Ty.rowO E Tb J (q[j]'(by simpa [hlen] using hlt)).2) (by rw [List.getElem?_map, List.getElem?_eq_getElem (by simpa [hlen] using hlt)]; rfl)
  rw [hj] at hx
  injection hx with hx
  subst hx
  rcases hdx with ⟨_, e⟩ | ⟨g', off, c, cur, e, hg, _⟩
  · rw [e] at hu; simp [endOf] at hu
  · rw [e] at hu
    simp only [endOf, Option.some.injEq, Prod.mk.injEq] at hu
    rw [← hu.1]; exact hg
theorem r_appendQ {x y : Operand} {enc : κ → Value} {st el : Nat} {ti te : TI} (hx : A.op fr x = .qv E el tg J q k xs) (hy : A.op fr y = .sl E ys) (hc : A.tag tg = some (.mr enc E el J q)) (h1 : Tag1 tg) (hJ : 4096 ≤ J) (hp : fr.pass.contains J = false) (hpos : 0 < ys.length) (hT : T.tab[st]? = some ti) (hk : ti.k = .slice el) (hE : T.tab[el]? = some te) (hs : te.size = E.size) (hz : te.zero.length = te.size) (h0 : 0 < te.size)
    (hlen : (xs.length + ys.length) * te.bytes ≤ 140737488355328) (hlen' : xs.length + ys.length ≤ 9223372036854775807)
    (h : TOps P fr ops rest (A.after { d := some d, ty := .qv E el tg J q k (xs ++ ys), S := [tg, J], sets := [(tg, .mr enc E el J q)], rs := opR x ++ opR y, rt := [tg] }) fun A' l' => K A' ((A, { d := some d, ty := .qv E el tg J q k (xs ++ ys), S := [tg, J], sets := [(tg, .mr enc E el J q)], rs := opR x ++ opR y, rt := [tg] }) :: l')) :
    TOps P fr ops (⟨some d, .call ⟨.builtin .append, #[x, y], #[st, st]⟩, t, p, e, none⟩ :: rest) A K := by
  refine ⟨_, opT_mem rfl rfl (by simp) (by simp; exact ⟨h1.1, by omega⟩) (by simp) fun a w M wf hr htg => ?_, h⟩
  obtain ⟨hdx, hdy⟩ := op2 hr
  rw [hx] at hdx; rw [hy] at hdy
  obtain ⟨hrow, hown⟩ := hdx
  obtain ⟨hn, b, es, clock, hb, hhb, hkeys, hvals, hap⟩ := htg _ (tag_mem hc) (by simp)
  have ownb : ∀ (g e0 : Nat), endOf E.size (a.eval x) = some (g, e0) → ∀ (j : Nat) (u : Value) (e1 : Nat), (es.toList.map (·.val))[j]? = some u → endOf E.size u = some (g, e1) → (q[j]?).map Prod.fst = some k ∧ (roomy (a.eval x) = true → e1 ≤ e0) := fun g e0 he => by
    obtain ⟨b', es', c', g1, g2, g3⟩ := hown g e0 he
    obtain ⟨u', hu'⟩ : ∃ u, tg = u + 1 := ⟨tg - 1, by omega⟩
    have : b = b' := by
      have hb' : M b = some (u' + 1) := hu' ▸ hb
      have g1' : M b' = some (u' + 1) := hu' ▸ g1
      exact wf.inj b b' u' (by omega) hb' g1'
    subst this
    rw [hhb] at g2
    injection g2 with g2
    injection g2 with g2 _
    subst g2
    exact g3
  obtain ⟨_, D, _, hD, hkd, _⟩ := tab_info hT
  rw [hk] at hkd
  cases D <;> simp only [TK.of, reduceCtorEq, TK.slice.injEq] at hkd
  subst hkd
  rename_i el
  obtain ⟨i, _, hi, _, _, hsz, hby, hze⟩ := tab_info hE
  obtain ⟨zz, hiz, hzc⟩ : ∃ z, i.zero = some z ∧ z.cells.size = i.size := by
    cases hiz : i.zero with
    | none => rw [hiz] at hze; rw [← hze] at hz; simp at hz; omega
    | some z => rw [hiz] at hze; exact ⟨z, rfl, by simp at hze; rw [hsz, ← hz, ← hze]; simp⟩
  obtain ⟨ad, c', ey, hc1, hc2, hpp⟩ := hdy
  obtain ⟨b', off', rfl, hp'⟩ := hpp hpos
  obtain ⟨news, hn1, hn2, hn3⟩ := pub_cells hp' _ (Nat.le_refl _)
  rw [List.take_length] at hn2
  have hnl : news.length = ys.length * i.size := by rw [hn1, flat_len, hsz, hs]
  have hnews : ∀ j u, news[j]? = some u → w.cell? ((⟨b', off', none⟩ : Addr).add j) = some u := fun j u hj => by rw [Addr.add_lit]; exact hn3 j u hj
  have hones := dens_ones hn2 (flat_ones E ys)
  have hesz : E.size = i.size := by rw [hsz, hs]
  -- behind a growth
  have grown : ∀ (olds : List Value) (cap : Nat), dens w M (xs.flatMap E.tys) olds → cap < xs.length + ys.length →
      (Builtin.append_ #[st, st] t #[a.eval x, a.eval y]).run P w = .ok (.slice (some ⟨w.heap.size, 0, none⟩) (xs.length + ys.length) (grownCap w (xs.length + ys.length) cap el)) (w.drew.alloc (.cells (olds.toArray ++ news.toArray ++ Builtin.zeroCells zz.cells (grownCap w (xs.length + ys.length) cap el - (xs.length + ys.length))) el)) →
      ∃ v w', (execOp a.eval ⟨some d, .call ⟨.builtin .append, #[x, y], #[st, st]⟩, t, p, e, none⟩).run P w = .ok (.value v) w' ∧ Fx.left { d := some d, ty := .qv E el tg J q k (xs ++ ys), S := [tg, J], sets := [(tg, .mr enc E el J q)], rs := opR x ++ opR y, rt := [tg] } w M w' v := by
    intro olds cap hdo hcap hrun
    have holen : olds.length = xs.length * i.size := by rw [dens_len hdo, flat_len, hesz]
    have hge := grownCap_ge w (xs.length + ys.length) cap el
    have hcm : grownCap w (xs.length + ys.length) cap el ≤ maxLen := grownCap_le_maxLen w (xs.length + ys.length) cap el (by simp only [maxLen]; omega)
    have hsize : (w.drew.alloc (.cells (olds.toArray ++ news.toArray ++ Builtin.zeroCells zz.cells (grownCap w (xs.length + ys.length) cap el - (xs.length + ys.length))) el)).heap.size = w.heap.size + 1 := by simp
    have hold : ∀ b2, b2 < w.heap.size → (w.drew.alloc (.cells (olds.toArray ++ news.toArray ++ Builtin.zeroCells zz.cells (grownCap w (xs.length + ys.length) cap el - (xs.length + ys.length))) el)).heap[b2]? = w.heap[b2]? := fun b2 h => Below.heap_alloc w.drew _ b2 h
    have hnew : (w.drew.alloc (.cells (olds.toArray ++ news.toArray ++ Builtin.zeroCells zz.cells (grownCap w (xs.length + ys.length) cap el - (xs.length + ys.length))) el)).heap[w.heap.size]? = some (.cells (olds.toArray ++ news.toArray ++ Builtin.zeroCells zz.cells (grownCap w (xs.length + ys.length) cap el - (xs.length + ys.length))) el (0, 0)) := alloc_new w.drew _
    have hos : (w.drew.alloc (.cells (olds.toArray ++ news.toArray ++ Builtin.zeroCells zz.cells (grownCap w (xs.length + ys.length) cap el - (xs.length + ys.length))) el)).os = w.os ∧ (w.drew.alloc (.cells (olds.toArray ++ news.toArray ++ Builtin.zeroCells zz.cells (grownCap w (xs.length + ys.length) cap el - (xs.length + ys.length))) el)).tape = w.tape ∧ (w.drew.alloc (.cells (olds.toArray ++ news.toArray ++ Builtin.zeroCells zz.cells (grownCap w (xs.length + ys.length) cap el - (xs.length + ys.length))) el)).output = w.output := ⟨rfl, rfl, rfl⟩
    have hcs : (olds.toArray ++ news.toArray ++ Builtin.zeroCells zz.cells (grownCap w (xs.length + ys.length) cap el - (xs.length + ys.length))).size = grownCap w (xs.length + ys.length) cap el * i.size := by
      simp only [Array.size_append, List.size_toArray, size_zeroCells, hzc, holen, hnl, ← Nat.add_mul]
      congr 1
      omega
    have htk : ((olds.toArray ++ news.toArray ++ Builtin.zeroCells zz.cells (grownCap w (xs.length + ys.length) cap el - (xs.length + ys.length))).toList.drop 0).take ((xs ++ ys).length * E.size) = olds ++ news := by
      rw [List.drop_zero]
      simp only [Array.toList_append]
      rw [List.take_left' (by rw [List.length_append, holen, hnl, List.length_append, hesz, Nat.add_mul])]
    generalize hw' : (w.drew.alloc (.cells (olds.toArray ++ news.toArray ++ Builtin.zeroCells zz.cells (grownCap w (xs.length + ys.length) cap el - (xs.length + ys.length))) el)) = w' at *
    generalize hcu : (olds.toArray ++ news.toArray ++ Builtin.zeroCells zz.cells (grownCap w (xs.length + ys.length) cap el - (xs.length + ys.length))) = cu at *
    have le : Le (· ∈ [tg, J]) (· ∈ ([] : List Nat)) w M w' (fun b2 => if b2 = w.heap.size then some J else M b2) :=
      ⟨by omega, hos.1, hos.2.1, hos.2.2, fun b2 hb2 hm => ⟨by rw [if_neg (by omega)]; exact hm, hold b2 hb2⟩, fun b2 u hm _ => by
        have := wf.lt b2 u hm
        exact ⟨by rw [if_neg (by omega)]; exact hm, fun _ => hold b2 this⟩⟩
    have le0 : Le (· ∈ ([] : List Nat)) (· ∈ ([] : List Nat)) w M w' (fun b2 => if b2 = w.heap.size then some J else M b2) :=
      ⟨by omega, hos.1, hos.2.1, hos.2.2, fun b2 hb2 hm => ⟨by rw [if_neg (by omega)]; exact hm, hold b2 hb2⟩, fun b2 u hm _ => by
        have := wf.lt b2 u hm
        exact ⟨by rw [if_neg (by omega)]; exact hm, fun _ => hold b2 this⟩⟩
    have wf' : Wf w' (fun b2 => if b2 = w.heap.size then some J else M b2) := by
      refine ⟨fun b2 u hm => ?_, fun b2 b3 u ht1 hm hm' => ?_⟩
      · split at hm
        · omega
        · have := wf.lt b2 u hm; omega
      · split at hm
        · injection hm with hm; omega
        · split at hm'
          · injection hm' with hm'; omega
          · exact wf.inj b2 b3 u ht1 hm hm'
    have hblt := wf.lt b tg hb
    refine ⟨.slice (some ⟨w.heap.size, 0, none⟩) (xs.length + ys.length) (grownCap w (xs.length + ys.length) cap el), w', by simp [execOp, resolve, invoke, builtin, hrun], _, wf', le, ⟨.inr ⟨w.heap.size, 0, grownCap w (xs.length + ys.length) cap el, cu, by rw [List.length_append], by simp, hnew, by rw [List.length_append]; exact hge, hcm, by rw [hcs, hesz]; omega, ?_⟩, fun g e0 he => ?_⟩, fun y hy => ?_⟩
    · rw [htk, List.flatMap_append]
      exact dens_app (dens_mono le0 (by rw [E.flat_deps]; intro _ h; cases h) (by rw [E.flat_cdeps]; intro _ h; cases h) hdo) (dens_mono le0 (by rw [E.flat_deps]; intro _ h; cases h) (by rw [E.flat_cdeps]; intro _ h; cases h) hn2)
    · simp only [endOf, Option.some.injEq, Prod.mk.injEq] at he
      obtain ⟨rfl, _⟩ := he
      refine ⟨b, es, clock, (if_neg (by omega)).trans hb, (hold b hblt).trans hhb, fun j u e1 hj hju => ?_⟩
      have := wf.lt _ _ (apart_le hvals hj hju)
      omega
    · rw [List.mem_singleton.1 hy]
      refine ⟨hn, b, es, clock, (if_neg (by omega)).trans hb, (hold b hblt).trans hhb, hkeys, ?_, hap⟩
      exact dens_mono le0 (fun _ _ h => by cases h) (fun _ _ h => by cases h) hvals
  rcases hrow with ⟨hxe, ex⟩ | ⟨g, off, cap, cur, ex, hg, hh, hxc, hcm, hfit, hdx⟩
  · have hrn := run_append_nil (P := P) w st t el i zz hD hi hiz ⟨b', off', none⟩ ys.length c' news hnl hnews hpos (by omega) (by rw [hby]; have := hlen; rw [Nat.add_mul] at this; omega)
    subst hxe
    refine grown [] 0 trivial (by simpa using hpos) ?_
    rw [ex, ey]
    simpa using hrn
  · by_cases hroom : xs.length + ys.length ≤ cap
    · -- in place
      have hm : (xs.length + ys.length) * E.size ≤ cap * E.size := Nat.mul_le_mul_right _ hroom
      rw [Nat.add_mul] at hm
      have hcf : off + xs.length * i.size + news.length ≤ cur.size := by rw [hnl, ← hesz]; omega
      have hf := run_firstCells_some (P := P) w i.size ys.length ⟨b', off', none⟩ ys.length c' news hnl hnews
      have hst := run_storeCells_at (P := P) g (off + xs.length * i.size) el news 0 cur w hh (by simpa using hcf) hones
      rw [setRow_set _ hh] at hst
      simp only [Nat.add_zero] at hst
      obtain ⟨h1', h2', h3'⟩ := store_le (cs' := (cur.toList.take (off + xs.length * i.size) ++ news ++ cur.toList.drop (off + xs.length * i.size + news.length)).toArray) (Tb := el) wf hg _ rfl
      have hrun : (Builtin.append_ #[st, st] t #[a.eval x, a.eval y]).run P w = .ok (.slice (some ⟨g, off, none⟩) (xs.length + ys.length) cap) { w with heap := w.heap.setIfInBounds g (.cells (cur.toList.take (off + xs.length * i.size) ++ news ++ cur.toList.drop (off + xs.length * i.size + news.length)).toArray el (0, 0)) } := by
        rw [ex, ey]
        simp [Builtin.append_, run_underlying hD, sizeOf, typeInfo, hi, Builtin.lenOf, hroom, hf, Addr.add_lit, hst]
      have le : Le (· ∈ [tg, J]) (· ∈ ([] : List Nat)) w M { w with heap := w.heap.setIfInBounds g (.cells (cur.toList.take (off + xs.length * i.size) ++ news ++ cur.toList.drop (off + xs.length * i.size + news.length)).toArray el (0, 0)) } M :=
        h2'.weaken (fun u hu => by simp only [List.mem_singleton] at hu; subst hu; simp) (fun _ h => by cases h)
      have hgb : g ≠ b := fun e => by rw [e, hhb] at hh; cases hh
      have hroomy : roomy (a.eval x) = true := by rw [ex]; simp [roomy]; omega
      have hb' : ({ w with heap := w.heap.setIfInBounds g (.cells (cur.toList.take (off + xs.length * i.size) ++ news ++ cur.toList.drop (off + xs.length * i.size + news.length)).toArray el (0, 0)) } : World).heap[b]? = some (.map es clock) := by
        show (w.heap.setIfInBounds g _)[b]? = _
        rw [Array.getElem?_setIfInBounds_ne hgb]; exact hhb
      refine ⟨.slice (some ⟨g, off, none⟩) (xs.length + ys.length) cap, _, by simp [execOp, resolve, invoke, builtin, hrun], M, h1', le, ⟨.inr ⟨g, off, cap, _, by rw [List.length_append], hg, h3', by rw [List.length_append]; exact hroom, hcm, ?_, ?_⟩, fun g' e0 he => ?_⟩, fun y hy => ?_⟩
      · simp only [List.size_toArray, List.length_append, List.length_take, List.length_drop, Array.length_toList]
        omega
      · rw [List.length_append, Nat.add_mul, hesz, ← hnl, List.toList_toArray, put_take _ _ _ _ (by simpa using hcf), List.flatMap_append]
        refine dens_mono h2' (by rw [← List.flatMap_append, E.flat_deps]; intro _ h; cases h) (by rw [← List.flatMap_append, E.flat_cdeps]; intro _ h; cases h) (dens_app ?_ hn2)
        rw [← hesz]; exact hdx
      · simp only [endOf, Option.some.injEq, Prod.mk.injEq] at he
        obtain ⟨rfl, rfl⟩ := he
        refine ⟨b, es, clock, hb, hb', fun j u e1 hj hju => ?_⟩
        have := ownb g (off + xs.length * E.size) (by rw [ex]; rfl) j u e1 hj hju
        refine ⟨this.1, fun _ => ?_⟩
        have := this.2 hroomy
        rw [Nat.add_mul]; omega
      · rw [List.mem_singleton.1 hy]
        refine ⟨hn, b, es, clock, hb, hb', hkeys, ?_, hap⟩
        refine dens_of_get (by rw [dens_len hvals]) fun j ty hj => ?_
        obtain ⟨u, hu, hdu⟩ := dens_get hvals j ty hj
        refine ⟨u, hu, ?_⟩
        rw [List.getElem?_map] at hj
        obtain ⟨qe, _, rfl⟩ := Option.map_eq_some_iff.1 hj
        rcases hdu with h | ⟨g2, off2, c2, cur2, e2, hg2, hh2, k1, k2, k3, k4⟩
        · exact .inl h
        · by_cases hgg : g = g2
          · subst hgg
            rw [hh] at hh2
            injection hh2 with hh2
            injection hh2 with ha _
            subst ha
            have hend := (ownb g (off + xs.length * E.size) (by rw [ex]; rfl) j u _ hu (by rw [e2]; rfl)).2 hroomy
            refine .inr ⟨g, off2, c2, _, e2, hg, h3', k1, k2, ?_, ?_⟩
            · simp only [List.size_toArray, List.length_append, List.length_take, List.length_drop, Array.length_toList]
              omega
            · rw [List.toList_toArray, take_put _ _ _ _ 0 _ (by rw [← hesz]; exact hend) (by simpa using hcf)]
              exact dens_mono h2' (by rw [E.flat_deps]; intro _ h; cases h) (by rw [E.flat_cdeps]; intro _ h; cases h) k4
          · refine .inr ⟨g2, off2, c2, cur2, e2, hg2, ?_, k1, k2, k3, dens_mono h2' (by rw [E.flat_deps]; intro _ h; cases h) (by rw [E.flat_cdeps]; intro _ h; cases h) k4⟩
            show (w.heap.setIfInBounds g _)[g2]? = _
            rw [Array.getElem?_setIfInBounds_ne hgg]; exact hh2
    · have holds : ∀ j u, ((cur.toList.drop off).take (xs.length * E.size))[j]? = some u → w.cell? ((⟨g, off, none⟩ : Addr).add j) = some u := fun j u hj => by
        rw [List.getElem?_take] at hj
        split at hj
        · rw [List.getElem?_drop] at hj
          rw [Addr.add_lit]
          simpa [World.cell?, hh] using hj
        · cases hj
      have hol : ((cur.toList.drop off).take (xs.length * E.size)).length = xs.length * i.size := by rw [dens_len hdx, flat_len, hesz]
      have hrn := run_append_grow (P := P) w st t el i zz hD hi hiz ⟨g, off, none⟩ xs.length cap _ hol holds ⟨b', off', none⟩ ys.length c' news hnl hnews (by omega) (by omega) (growslice_fits (by omega) (by rw [hby]; exact hlen))
      refine grown _ cap hdx (by omega) ?_
      rw [ex, ey]
      exact hrn
end
end Go.T

namespace Go.T
open Go Go.RowKit
theorem find_asking {P : Program} {kt : TypeId} {κ : Type} [DecidableEq κ] {enc : κ → Value} (heq : ∀ (x y : κ) (w : World), (Op.equal kt (enc x) (enc y)).run P w = .ok (decide (x = y)) w) (k : κ) : ∀ (ks : List κ) (es : List MapEntry) (i : Nat) (w : World), es.map (·.key) = ks.map enc →
    (Instr.findAsking kt (enc k) es i).run P w = .ok ((ks.findIdx? (fun x => decide (x = k))).bind fun j => (es[j]?).map fun e => (i + j, e.val)) w
  | [], [], i, w, _ => rfl
  | [], e :: es, i, w, h => by cases h
  | x :: ks, [], i, w, h => by cases h
  | x :: ks, e :: es, i, w, h => by
    simp only [List.map_cons, List.cons.injEq] at h
    obtain ⟨h1, h2⟩ := h
    rw [Instr.findAsking, h1]
    simp only [Sem.run_bind, heq, Result.andThen_ok]
    by_cases hx : x = k
    · subst hx; simp [List.findIdx?_cons]
    · have hk : ¬ k = x := fun e => hx e.symm
      rw [decide_eq_false hk]
      simp only [Bool.false_eq_true, if_false]
      rw [find_asking heq k ks es (i + 1) w h2]
      simp only [List.findIdx?_cons, decide_eq_false hx, Bool.false_eq_true, if_false]
      cases (ks.findIdx? fun x => decide (x = k)) with
      | none => rfl
      | some j => simp [Nat.add_assoc, Nat.add_comm]; rw [show j + (i + 1) = i + (j + 1) from by omega]
abbrev Nums (n : Nat) : Type := {l : List Int // l.length = n}
def encN (n : Nat) (l : Nums n) : Value := .agg (l.1.map (Value.int .i64)).toArray
theorem find_now_none {D : TypeDesc} {k : Value} (h : ∀ v, Instr.sameNow D k v = none) : ∀ (es : List MapEntry) (i : Nat), es ≠ [] → Instr.findNow D k es i = none
  | [], _, h0 => absurd rfl h0
  | e :: es, i, _ => by rw [Instr.findNow, h]
theorem same_all : ∀ (l : List Int), ((l.map (Value.int .i64)).zip (l.map (Value.int .i64))).all (fun x => Instr.sameBits 9999 x.1 x.2) = true
  | [] => rfl
  | a :: l => by simp [Instr.sameBits, same_all l]
def arrKey (P : Program) (kt n et : Nat) (hu : P.underlying kt = some (.array n et)) (heq : ∀ (x y : Nums n) (w : World), (Op.equal kt (encN n x) (encN n y)).run P w = .ok (decide (x = y)) w)
    (hcheck : ∀ (b : Bool) (x : Nums n) (w : World), (Instr.checkKey b 10000 kt (encN n x)).run P w = .ok () w) : KeyK P kt (Nums n) where
  enc := encN n
  find k ks es w he := by
    have h1 := find_asking heq k ks es 0 w he
    cases es with
    | nil =>
      cases ks with
      | nil => simp [Instr.findKey, underlying, hu, Instr.findNow]
      | cons x l => cases he
    | cons e es =>
      have h2 : Instr.findNow (.array n et) (encN n k) (e :: es) 0 = none := find_now_none (fun v => rfl) _ _ (by simp)
      simp only [Instr.findKey, Sem.run_bind, run_underlying hu, Result.andThen_ok, h2]
      simpa using h1
  check b k w := hcheck b k w
  same k := by
    show Instr.sameBits 10000 (.agg _) (.agg _) = true
    rw [show (10000 : Nat) = 9999 + 1 from rfl, Instr.sameBits]
    simp only [beq_self_eq_true, Bool.true_and, List.toList_toArray]
    exact same_all k.1
end Go.T

namespace Go.T
open Go Go.RowKit Go.Lib
def dRm (T size tg n : Nat) (w : World) (M : Tags) (v : Value) : Prop :=
  ∃ (b c : Nat) (cur : Array Value), v = .slice (some ⟨b, 0, none⟩) n c ∧ n ≤ c ∧ c ≤ maxLen ∧ M b = some tg ∧ w.heap[b]? = some (.cells cur T (0, 0)) ∧ cur.size = c * size
def Ty.rm (T size tg n : Nat) : Ty :=
  ⟨dRm T size tg n, [tg], [tg], fun le hk hs ⟨b, c, cur, h1, h2, h3, h4, h5, h6⟩ =>
    have h := le.own b tg h4 (hk tg (by simp))
    ⟨b, c, cur, h1, h2, h3, h.1, (h.2 (hs tg (by simp))).trans h5, h6⟩, true, fun _ ⟨_, _, _, h1, _⟩ => by subst h1; rfl⟩
section
variable {P : Program} {fr : Fr} {ops : Array Oper} {A : As} {rest : List Oper} {K : As → List (As × Fx) → Prop} {d : Nat} {t ty' ty2 : TypeId} {p : String} {e : Array Edge} [T : Tab P]
end
end Go.T

namespace Go.T
open Go Go.RowKit
section
variable {P : Program} {fr : Fr} {ops : Array Oper} {A : As} {rest : List Oper} {K : As → List (As × Fx) → Prop} {t mt : TypeId} {p : String} {e : Array Edge} {d : Option Nat} {x y z : Operand}
end
section
variable {P : Program} {fr : Fr} {ops : Array Oper} {A : As} {rest : List Oper} {K : As → List (As × Fx) → Prop} {d : Nat} {t mt kt et : TypeId} {p : String} {e : Array Edge}
variable {κ β : Type} [DecidableEq κ]
end
section
variable {A : As} {κ β : Type} [DecidableEq κ]
end
section
variable {P : Program} {fr : Fr} {ops : Array Oper} {A : As} {rest : List Oper} {K : As → List (As × Fx) → Prop} {t ty' : TypeId} {p : String} {e : Array Edge} [T : Tab P]
end
section
variable {P : Program} {fr : Fr} {ops : Array Oper} {A : As} {rest : List Oper} {K : As → List (As × Fx) → Prop} {d : Nat} {t ty' : TypeId} {p : String} {e : Array Edge} [T : Tab P]
theorem r_load_vecE {α : Type} [Inhabited α] {E : El α} {xs : List α} {x : Operand} {tg off Tb : Nat} {ti : TI} (i : Nat) (hx : A.op fr x = .ptr tg off) (he : off = i * E.size) (hc : A.tag tg = some (.vec E Tb xs)) (h1 : Tag1 tg) (hT : T.tab[ty']? = some ti) (ha : ti.k.agg = true) (hsz : ti.size = E.size) (hi : i < xs.length)
    (h : TOps P fr ops rest (A.set d (.agg (E.tys (nth xs i)))) fun A' l => K A' ((A, { d := some d, ty := .agg (E.tys (nth xs i)), rs := opR x, rt := [tg] }) :: l)) : TOps P fr ops (⟨some d, .load ty' x, t, p, e, none⟩ :: rest) A K :=
  tops_pure (opT_pure rfl rfl fun a w M wf hr ht => by
    have := op_den (x := x) (fun _ h => h) hr
    rw [hx] at this
    obtain ⟨b, hb, e⟩ := this
    obtain ⟨cs, g1, g2, g3⟩ := cells_take (l := E.tys (nth xs i)) (b := b) (q := off) (off := 0) (n := ti.size) (m := E.tys (nth xs i)) (fun j t hj => vec_cell wf h1 hb (vec_den hc w M ht) (by
      rw [he]; exact flat_elem E xs hi j t hj)) (by rw [List.drop_zero, hsz, ← E.len (nth xs i), List.take_length]) (by rw [E.len, hsz])
    exact ⟨.agg cs.toArray, by simp only [execOp, e]; rw [Sem.run_bind, run_loadN (off := off) hT ha g1 (by simpa using g3)]; rfl, cs.toArray, rfl, by simpa using g2⟩) h
end
section
variable {P : Program} {A : As} {fn : Func} {n : Nat} {w0 : World} {M0 : Tags} [T : Tab P]
end
section
variable {P : Program} {fr : Fr} {A : As} {c : Code} {Q : Exit → Act → World → Prop}
theorem t_asC {tg : Nat} {C D : Cont} (hc : A.tag tg = some C) (h : C.Sub D) (h' : Tri P fr c ⟨A.slots, (tg, D) :: A.tags⟩ Q) : Tri P fr c A Q := fun a w ⟨M, ok, hsl, ht⟩ =>
  h' a w ⟨M, ok, hsl, fun x hx => by
    rcases List.mem_cons.1 hx with rfl | hx
    · exact h _ _ _ (ht _ (tag_mem hc))
    · exact ht x hx⟩
end
section
variable {P : Program} {fr : Fr} {ops : Array Oper} {A : As} {rest : List Oper} {K : As → List (As × Fx) → Prop} {d : Nat} {t mt kt et : TypeId} {p : String} {e : Array Edge} {κ β : Type} [DecidableEq κ]
end
end Go.T

namespace Go.T
open Go Go.RowKit
def dCK (J : World → Tags → Prop) (w : World) (M : Tags) : Prop :=
  ∃ Mc, Wf w Mc ∧ ZOk Mc ∧ J w Mc ∧ (∀ b, M b = none → Mc b = none) ∧ ∀ b u, b < w.heap.size → M b = some u → u ≠ 7000 → Mc b = some (Zt + b)
theorem dCK_mono {J : World → Tags → Prop} (hJ : Cb J) {S K : Nat → Prop} {w w' : World} {M M' : Tags} (le : Le S K w M w' M') (hs : ¬ S 7000) (hk : ¬ K 7000) (h : dCK J w M) : dCK J w' M' := by
  obtain ⟨Mc, wf, z, hj, h1, h2⟩ := h
  have own : ∀ b, M b = some 7000 → M' b = some 7000 ∧ w'.heap[b]? = w.heap[b]? := fun b h => let ⟨a, c⟩ := le.own b _ h hk; ⟨a, c hs⟩
  have mb : ∀ b t, Mc b = some t → t < Zt → M b = some 7000 := fun b t h ht => by
    cases hm : M b with
    | none => rw [h1 b hm] at h; cases h
    | some u =>
      by_cases e : u = 7000
      · rw [e]
      · have := h2 b u (wf.lt b t h) hm e
        rw [this] at h; injection h with h; omega
  let N : Tags := fun b => if b < w'.heap.size then (match M' b with | none => none | some u => if u = 7000 then (if b < w.heap.size ∧ M b = some 7000 then Mc b else some (Zt + b)) else some (Zt + b)) else none
  have hN : ∀ b, N b = if b < w'.heap.size then (match M' b with | none => none | some u => if u = 7000 then (if b < w.heap.size ∧ M b = some 7000 then Mc b else some (Zt + b)) else some (Zt + b)) else none := fun _ => rfl
  have zok : ZOk N := by
    intro b u h hu
    rw [hN] at h
    split at h
    · split at h
      · cases h
      · split at h
        · split at h
          · exact z b u h hu
          · injection h with h; exact h.symm
        · injection h with h; exact h.symm
    · cases h
  have wf' : Wf w' N := by
    refine ⟨fun b t h => ?_, fun b b' t ht1 h h' => ?_⟩
    · rw [hN] at h
      split at h
      · assumption
      · cases h
    · have part : ∀ b, N b = some (t + 1) → Mc b = some (t + 1) := fun b h => by
        have hz : t + 1 < Zt := by unfold Zt; omega
        rw [hN] at h
        split at h
        · split at h
          · cases h
          · split at h
            · split at h
              · exact h
              · injection h with h; omega
            · injection h with h; omega
        · cases h
      exact wf.inj b b' t ht1 (part b h) (part b' h')
  have lez : Le (fun t => Zt ≤ t) (fun t => Zt ≤ t) w Mc w' N := by
    refine ⟨le.size, le.os, le.tape, le.out, fun b hb hm => ?_, fun b t hm ht => ?_⟩
    · have hb' : b < w'.heap.size := Nat.lt_of_lt_of_le hb le.size
      cases hmb : M b with
      | none =>
        obtain ⟨a, c⟩ := le.pub b hb hmb
        exact ⟨by rw [hN, if_pos hb', a], c⟩
      | some u =>
        by_cases e : u = 7000
        · subst e
          obtain ⟨a, c⟩ := own b hmb
          exact ⟨by rw [hN, if_pos hb', a]; show (if (7000 : Nat) = 7000 then _ else _) = _; rw [if_pos rfl, if_pos ⟨hb, hmb⟩]; exact hm, c⟩
        · rw [h2 b u hb hmb e] at hm; cases hm
    · have hlt := wf.lt b t hm
      have h0 := mb b t hm (Nat.lt_of_not_le ht)
      obtain ⟨a, c⟩ := own b h0
      refine ⟨?_, fun _ => c⟩
      rw [hN, if_pos (Nat.lt_of_lt_of_le hlt le.size), a]
      show (if (7000 : Nat) = 7000 then _ else _) = _
      rw [if_pos rfl, if_pos ⟨hlt, h0⟩]; exact hm
  refine ⟨N, wf', zok, hJ _ _ _ _ wf' lez hj, fun b h => ?_, fun b u hb h hu => ?_⟩
  · rw [hN, h]; split <;> rfl
  · rw [hN, if_pos hb, h]; show (if u = 7000 then _ else _) = _; rw [if_neg hu]
def Cont.ck {J : World → Tags → Prop} (hJ : Cb J) : Cont :=
  { den := fun w M t => t = 7000 ∧ dCK J w M
    mono := fun le _ _ hs hk ⟨e, h⟩ => ⟨e, dCK_mono hJ le (e ▸ hs) (e ▸ hk) h⟩ }
theorem Cont.sub_ck {J : Nat → World → Tags → Prop} (hJ : ∀ k, Cb (J k)) {a b : Nat} (e : a = b) : (Cont.ck (hJ a)).Sub (Cont.ck (hJ b)) := by subst e; exact Cont.sub_refl _
def dYb (b1 : Bool) (J1 Jx : World → Tags → Prop) (w : World) (M : Tags) (v : Value) : Prop := (v = .bool b1 ∧ dCK J1 w M) ∨ (v = .bool (!b1) ∧ dCK Jx w M)
def Ty.yb {J1 Jx : World → Tags → Prop} (b1 : Bool) (h1 : Cb J1) (hx : Cb Jx) : Ty :=
  ⟨dYb b1 J1 Jx, [7000], [7000], fun le hk hs h => h.imp (fun ⟨e, h⟩ => ⟨e, dCK_mono h1 le (hs _ (by simp)) (hk _ (by simp)) h⟩) (fun ⟨e, h⟩ => ⟨e, dCK_mono hx le (hs _ (by simp)) (hk _ (by simp)) h⟩), true, fun _ h => h.elim (fun ⟨e, _⟩ => e ▸ rfl) (fun ⟨e, _⟩ => e ▸ rfl)⟩
def Cont.me (g T : Nat) (v : Value) (tys : List Ty) (cs : List Value) (h1 : depsOf tys = []) (h2 : cdepsOf tys = []) : Cont :=
  { den := fun w M _ => M g = some 1000 ∧ w.heap[g]? = some (.cells #[v] T (0, 0)) ∧ dens w M tys cs
    deps := [1000], cdeps := [1000]
    mono := fun le hk hs _ _ ⟨e1, e2, e3⟩ => let ⟨a, c⟩ := le.own g _ e1 (hk 1000 (by simp)); ⟨a, (c (hs 1000 (by simp))).trans e2, dens_mono le (by rw [h1]; intro _ h; cases h) (by rw [h2]; intro _ h; cases h) e3⟩ }
def Cont.snap (w0 : World) (old : Nat → Prop) : Cont :=
  { den := fun w M t => ∀ b, old b → M b = some t ∧ w.heap[b]? = w0.heap[b]?
    mono := fun le _ _ hs hk h b hb => let ⟨a, c⟩ := le.own b _ (h b hb).1 hk; ⟨a, (c hs).trans (h b hb).2⟩ }
def backY (w : World) (M1 Mc' : Tags) : Tags := fun b => if b < w.heap.size then M1 b else (Mc' b).map fun _ => 7000
theorem backY_ok {w w' : World} {M1 Mc Mc' : Tags} (wf1 : Wf w M1) (wf' : Wf w' Mc') (h1 : ∀ b, M1 b = none → Mc b = none) (h2 : ∀ b u, b < w.heap.size → M1 b = some u → u ≠ 7000 → Mc b = some (Zt + b)) (le : Le (fun t => t < Zt) (fun t => t < Zt) w Mc w' Mc') :
    Wf w' (backY w M1 Mc') ∧ Le (· ∈ [7000]) (· ∈ ([] : List Nat)) w M1 w' (backY w M1 Mc') ∧ (∀ b, backY w M1 Mc' b = none → Mc' b = none) ∧ ∀ b u, b < w'.heap.size → backY w M1 Mc' b = some u → u ≠ 7000 → Mc' b = some (Zt + b) := by
  unfold backY
  refine ⟨⟨fun b u h => ?_, fun b b' u ht1 h h' => ?_⟩, ⟨le.size, le.os, le.tape, le.out, fun b hb hm => ⟨by simp [hb, hm], (le.pub b hb (h1 b hm)).2⟩, fun b u hm _ => ⟨by simp [wf1.lt b u hm, hm], fun hs => ?_⟩⟩, fun b h => ?_, fun b u _ h hu => ?_⟩
  · split at h
    · exact Nat.lt_of_lt_of_le ‹_› le.size
    · obtain ⟨v, hv, _⟩ := Option.map_eq_some_iff.1 h
      exact wf'.lt b v hv
  · have part : ∀ b, (if b < w.heap.size then M1 b else (Mc' b).map fun _ => 7000) = some (u + 1) → M1 b = some (u + 1) := fun b h => by
      split at h
      · exact h
      · obtain ⟨v, _, hv⟩ := Option.map_eq_some_iff.1 h
        omega
    exact wf1.inj b b' u ht1 (part b h) (part b' h')
  · have hu : u ≠ 7000 := fun e => hs (by simp [e])
    exact (le.own b _ (h2 b u (wf1.lt b _ hm) hm hu) (by omega)).2 (by omega)
  · split at h
    · exact (le.pub b ‹_› (h1 b h)).1
    · simpa using h
  · split at h
    · exact (le.own b _ (h2 b u ‹_› h hu) (by omega)).1
    · obtain ⟨v, _, hv⟩ := Option.map_eq_some_iff.1 h
      exact absurd hv.symm hu
def pubL (M : Tags) (L : List Nat) : Tags := fun b => match M b with | none => none | some t => if t ∈ L then none else some t
def yPost (w : World) (Mc : Tags) (J1 Jx : World → Tags → Prop) (e : Ending) (w' : World) : Prop :=
  ∃ M', Wf w' M' ∧ ZOk M' ∧ Le (fun t => t < Zt) (fun t => t < Zt) w Mc w' M' ∧ ((e = .returned (.bool true) ∧ J1 w' M') ∨ (e = .returned (.bool false) ∧ Jx w' M'))
abbrev gp (g : Nat) : Value := .pointer (some ⟨g, 0, none⟩)
def MoreY (P : Program) (f : FuncId) (T : Nat) (capTys args : List Ty) (J0 J1 Jx : World → Tags → Prop) : Prop :=
  (∃ fn, P.funcs[f]? = some fn ∧ (fn.name == "runtime.NumGoroutine") = false ∧ fn.body.isNone = false) ∧
  ∀ (w : World) (Mc : Tags) (g : Nat) (vs cs cs' : List Value), Wf w Mc → ZOk Mc → dens w Mc args vs → dens w Mc capTys cs → dens w Mc capTys cs' → Mc g = some (Zt + g) →
    w.heap[g]? = some (.cells #[.func (.func f) #[] (cs' ++ [gp g]).toArray] T (0, 0)) → J0 w Mc →
    Calls P f (vs ++ (cs ++ [gp g])).toArray w (yPost w Mc J1 Jx)
section
variable {P : Program} {fr : Fr} {ops : Array Oper} {A : As} {rest : List Oper} {K : As → List (As × Fx) → Prop} {d : Nat} {t ty' : TypeId} {p : String} {e : Array Edge}
theorem r_yieldY {c l k : Nat} {encs : List (List Ty)} {J : Nat → World → Tags → Prop} {Jx : World → Tags → Prop} (hJ : ∀ k, Cb (J k)) (hJx : Cb Jx) (hY : Yld P l encs J Jx) {xs : List Operand} {ats : Array TypeId} {tys : List Ty}
    (hkd : fr.kd = .plain) (hc : A.op fr (.tmp c) = .ex (yv l)) (hx : opsTy A fr xs = tys) (hd : depsOf tys = []) (hdc : cdepsOf tys = []) (hk : encs[k]? = some tys) (ht : A.tag 7000 = some (.ck (hJ k)))
    (h : TOps P fr ops rest (A.after { d := some d, ty := .yb true (hJ (k + 1)) hJx, S := [7000], rs := c :: xs.flatMap opR, rt := [7000] }) fun A' l' => K A' ((A, { d := some d, ty := .yb true (hJ (k + 1)) hJx, S := [7000], rs := c :: xs.flatMap opR, rt := [7000] }) :: l')) :
    TOps P fr ops (⟨some d, .call ⟨.value (.tmp c), xs.toArray, ats⟩, t, p, e, none⟩ :: rest) A K := by
  refine ⟨{ d := some d, ty := .yb true (hJ (k + 1)) hJx, S := [7000], rs := c :: xs.flatMap opR, rt := [7000] }, ⟨rfl, by simp, by simp, by simp, fun a w M wf hsz hrd htg => ?_⟩, h⟩
  rw [if_pos (by simp [Region.wanted])]
  have hcv := op_den (x := .tmp c) (rs := c :: xs.flatMap opR) (fun u hu => by exact (List.mem_singleton.1 hu) ▸ List.mem_cons_self) hrd
  rw [hc] at hcv
  have hcv : a.eval (.tmp c) = yv l := hcv
  obtain ⟨_, Mc, wfc, z, hj, h1, h2⟩ := htg _ (tag_mem ht) (by simp)
  have hv : dens w Mc tys (xs.map a.eval) := conv_nodeps h1 hd hdc (hx ▸ opsTy_dens (rs := c :: xs.flatMap opR) hrd fun x hx c hc => List.mem_cons_of_mem _ (List.mem_flatMap.2 ⟨x, hx, hc⟩))
  obtain ⟨fn, tmps, assign, body, hy, hR⟩ := hY k tys hk w Mc _ wfc z hj hv
  refine ⟨fun f _ => fr.kd.fn_true f, ?_⟩
  have hrun : (execOp a.eval ⟨some d, .call ⟨.value (.tmp c), xs.toArray, ats⟩, t, p, e, none⟩).run P w = .ok (.round l fn tmps assign body) w := by
    simp [execOp, resolve, hcv, yv, Deferred.ofValue, invoke, hy]
  rw [Oper.semAt_eq _ _ _ (by intro c h; cases h), hrun, Oper.uponIn_round]
  refine ⟨fun h => (by rw [fr.kd.depth_none] at h; cases h), ?_⟩
  have hfe : fr.kd.fence = Fence.wide := by rw [hkd]; rfl
  rw [hfe]
  refine RoundIn.mono hR fun en w' ⟨Mc', wf', z', le, hor⟩ => ?_
  obtain ⟨g1, g2, g3, g4⟩ := backY_ok wf wf' h1 h2 le
  rcases hor with ⟨rfl, hj'⟩ | ⟨rfl, hj'⟩
  · exact ⟨.bool true, rfl, _, g1, g2, .inl ⟨rfl, Mc', wf', z', hj', g3, g4⟩, by simp⟩
  · exact ⟨.bool false, rfl, _, g1, g2, .inr ⟨rfl, Mc', wf', z', hj', g3, g4⟩, by simp⟩
theorem r_notY {x : Operand} {J1 Jx : World → Tags → Prop} {h1 : Cb J1} {hx : Cb Jx} {b1 : Bool} (hop : A.op fr x = .yb b1 h1 hx)
    (h : TOps P fr ops rest (A.set d (.yb (!b1) h1 hx)) fun A' l' => K A' ((A, { d := some d, ty := .yb (!b1) h1 hx, rs := opR x }) :: l')) : TOps P fr ops (⟨some d, .unOp .not ty' x, t, p, e, none⟩ :: rest) A K :=
  tops_pure (opT_pure rfl rfl fun a w M _ hrd _ => by
    have hdx := op_den (x := x) (fun _ h => h) hrd
    rw [hop] at hdx
    rcases hdx with ⟨ex, hj⟩ | ⟨ex, hj⟩
    · exact ⟨.bool (!b1), by simp [execOp, ex, Op.unary], .inl ⟨rfl, hj⟩⟩
    · exact ⟨.bool (!!b1), by simp [execOp, ex, Op.unary], .inr ⟨rfl, hj⟩⟩) h
end
section
variable {P : Program} {fr : Fr} {A : As} {Q : Exit → Act → World → Prop} {x y : Code}
theorem t_condY {c : Operand} {J1 Jx : World → Tags → Prop} {h1 : Cb J1} {hx : Cb Jx} (hc : A.op fr c = .yb false h1 hx) (hth : Tri P fr x ⟨A.slots, (7000, .ck hx) :: A.tags⟩ Q) (hel : Tri P fr y ⟨A.slots, (7000, .ck h1) :: A.tags⟩ Q) : Tri P fr (.cond c x y) A Q := fun a w ha => by
  obtain ⟨M, ok, hs, ht⟩ := ha
  have hd := op_den (x := c) (rs := opR c) (fun _ h => h) (fun c _ hn => hs c hn)
  rw [hc] at hd
  rcases hd with ⟨ev, hj⟩ | ⟨ev, hj⟩
  · exact wpIn_cond_false ev (hel a w ⟨M, ok, hs, fun x hx => by
      rcases List.mem_cons.1 hx with rfl | hx
      · exact ⟨rfl, hj⟩
      · exact ht x hx⟩)
  · exact wpIn_cond_true ev (hth a w ⟨M, ok, hs, fun x hx => by
      rcases List.mem_cons.1 hx with rfl | hx
      · exact ⟨rfl, hj⟩
      · exact ht x hx⟩)
end
def startM (Mc : Tags) (g : Option Nat) : Tags := fun b => match Mc b with | none => none | some u => if u < Zt then some 7000 else if some b = g then some 1000 else some 5000
theorem startM_none {Mc : Tags} {g : Option Nat} {b : Nat} (h : startM Mc g b = none) : Mc b = none := by
  unfold startM at h
  split at h
  · assumption
  · split at h
    · cases h
    · split at h <;> cases h
theorem startM_none' {Mc : Tags} {g : Option Nat} {b : Nat} (h : Mc b = none) : startM Mc g b = none := by simp [startM, h]
theorem startM_wf {w : World} {Mc : Tags} {g : Option Nat} (wf : Wf w Mc) : Wf w (startM Mc g) := by
  refine ⟨fun b t h => ?_, fun b b' t ht h h' => ?_⟩
  · cases hm : Mc b with
    | none => rw [startM_none' hm] at h; cases h
    | some u => exact wf.lt b u hm
  · have key : ∀ b, startM Mc g b = some (t + 1) → some b = g := fun b h => by
      unfold startM at h
      split at h
      · cases h
      · split at h
        · injection h with h; omega
        · split at h
          · assumption
          · injection h with h; omega
    have e1 := key b h
    have e2 := key b' h'
    rw [← e2] at e1; injection e1
theorem startM_ck {w : World} {Mc : Tags} {g : Option Nat} {J : World → Tags → Prop} (wf : Wf w Mc) (z : ZOk Mc) (hj : J w Mc) : dCK J w (startM Mc g) := by
  refine ⟨Mc, wf, z, hj, fun b h => startM_none h, fun b u _ h hu => ?_⟩
  unfold startM at h
  split at h
  · cases h
  · rename_i v hv
    split at h
    · injection h with h; exact absurd h.symm hu
    · rw [hv]; congr 1; exact z b v hv (by omega)
def oldB (Mc : Tags) (g : Nat) (b : Nat) : Prop := Mc b = some (Zt + b) ∧ b ≠ g
section
variable {P : Program}
variable {A : As} {fn : Func} {n : Nat} {J1 Jx : World → Tags → Prop}
end
end Go.T

namespace Go.T
open Go Go.RowKit
section
variable {P : Program} {fr : Fr} {ops : Array Oper} {A : As} {rest : List Oper} {K : As → List (As × Fx) → Prop} {d : Nat} {t ty' : TypeId} {p : String} {e : Array Edge} [T : Tab P]
variable {α : Type} {E : El α} {Tb J : Nat} {xs ys : List α}
theorem r_lenO {x : Operand} {ti : TI} {el : Nat} (hx : A.op fr x = .rowO E Tb J xs) (hT : T.tab[ty']? = some ti) (hk : ti.k = .slice el)
    (h : TOps P fr ops rest (A.set d (.int .i64 (xs.length : Nat))) fun A' l => K A' ((A, { d := some d, ty := .int .i64 (xs.length : Nat), rs := opR x }) :: l)) :
    TOps P fr ops (⟨some d, .call ⟨.builtin .len, #[x], #[ty']⟩, t, p, e, none⟩ :: rest) A K :=
  tops_pure (opT_pure rfl rfl fun a w M _ hr _ => by
    have := op_den (x := x) (fun _ h => h) hr
    rw [hx] at this
    have h1 := this
    obtain ⟨_, D, _, hD, hkd, _⟩ := tab_info hT
    rw [hk] at hkd
    cases D <;> simp only [TK.of, reduceCtorEq, TK.slice.injEq] at hkd
    refine ⟨.int .i64 xs.length, ?_, rfl⟩
    rcases h1 with ⟨hn, ex⟩ | ⟨g, off, c, cur, ex, _⟩
    · simp [execOp, ex, resolve, invoke, builtin, Builtin.len_, run_underlying hD, hn, goInt]
    · simp [execOp, ex, resolve, invoke, builtin, Builtin.len_, run_underlying hD, goInt]) h
theorem r_indexO [Inhabited α] {x y : Operand} {kd : IntKind} {i : Nat} {ti te : TI} {el : Nat} (hx : A.op fr x = .rowO E Tb J xs) (hy : A.op fr y = .int kd i) (hT : T.tab[ty']? = some ti) (hk : ti.k = .slice el) (hE : T.tab[el]? = some te) (hs : te.size = E.size) (hi : i < xs.length)
    (h : TOps P fr ops rest (A.set d (.op J (E.tys (nth xs i)))) fun A' l' => K A' ((A, { d := some d, ty := .op J (E.tys (nth xs i)), rs := opR x ++ opR y }) :: l')) : TOps P fr ops (⟨some d, .indexAddr ty' x y, t, p, e, none⟩ :: rest) A K :=
  tops_pure (opT_pure rfl rfl fun a w M _ hr _ => by
    obtain ⟨hdx, hdy⟩ := op2 hr
    rw [hx] at hdx; rw [hy] at hdy
    have h1 := hdx
    have ey : a.eval y = .int kd i := hdy
    rcases h1 with ⟨h0, _⟩ | ⟨g, off, c, cur, ex, hg, hh, hn, _, _, hd⟩
    · subst h0; simp at hi
    · refine ⟨_, by simp only [execOp, ex, ey, Sem.run_bind, run_index_slice hT hk hE (Int.natCast_nonneg i) (show (i : Int).toNat < xs.length from hi)]; rfl, g, off + i * te.size, by simp, hg, fun j ty hj => ?_⟩
      rw [hs]
      exact rowO_cell hh hd hi hj) h
theorem r_cutO {x y : Operand} {kd : IntKind} {lo : Nat} {ti te : TI} {el : Nat} (hx : A.op fr x = .rowO E Tb J xs) (hy : A.op fr y = .int kd lo) (hT : T.tab[ty']? = some ti) (hk : ti.k = .slice el) (hE : T.tab[el]? = some te) (hs : te.size = E.size) (hlo : lo ≤ xs.length) (h0 : 0 < xs.length)
    (h : TOps P fr ops rest (A.set d (.rowO E Tb J (xs.drop lo))) fun A' l' => K A' ((A, { d := some d, ty := .rowO E Tb J (xs.drop lo), rs := opR x ++ opR y }) :: l')) : TOps P fr ops (⟨some d, .slice ty' x (some y) none none, t, p, e, none⟩ :: rest) A K :=
  tops_pure (opT_pure rfl rfl fun a w M _ hr _ => by
    obtain ⟨hdx, hdy⟩ := op2 hr
    rw [hx] at hdx; rw [hy] at hdy
    have h1 := hdx
    have ey : a.eval y = .int kd lo := hdy
    obtain ⟨_, D, _, hD, hkd, _⟩ := tab_info hT
    rw [hk] at hkd
    cases D <;> simp only [TK.of, reduceCtorEq, TK.slice.injEq] at hkd
    subst hkd
    have hsz := fun w => run_sizeOf' (P := P) hE w
    rcases h1 with ⟨hn, _⟩ | ⟨g, off, c, cur, ex, hg, hh, hn, hc, hsz2, hd⟩
    · subst hn; simp at h0
    have hlc : lo ≤ c := by omega
    have hrun : ∃ ad, (execOp a.eval ⟨some d, .slice ty' x (some y) none none, t, p, e, none⟩).run P w = .ok (.value (.slice (some ad) (xs.length - lo) (c - lo))) w ∧ ad = (if c = lo then (⟨g, off, none⟩ : Addr) else ⟨g, off + lo * E.size, none⟩) := by
      refine ⟨_, ?_, rfl⟩
      simp [execOp, ex, ey, Instr.sliceAt, Instr.slice, run_underlying hD, Instr.sliceBounds, Instr.sliceBound, asIntOf, hsz, hs, hn, hlo]
      by_cases hcl : c = lo
      · simp [hcl]
      · simp [hcl]; exact Addr.add_lit _ _ _
    obtain ⟨ad, hrun, had⟩ := hrun
    have hlen : (xs.drop lo).length = xs.length - lo := List.length_drop
    have key : dens w M ((xs.drop lo).flatMap E.tys) ((cur.toList.drop (off + lo * E.size)).take ((xs.drop lo).length * E.size)) := by
      have := dens_drop (lo * E.size) hd
      rw [List.drop_take, List.drop_drop, ← Nat.sub_mul] at this
      have e1 : (xs.flatMap E.tys).drop (lo * E.size) = (xs.drop lo).flatMap E.tys := by
        have : xs.flatMap E.tys = (xs.take lo).flatMap E.tys ++ (xs.drop lo).flatMap E.tys := by rw [← List.flatMap_append, List.take_append_drop]
        rw [this, List.drop_left' (by rw [flat_len, List.length_take, Nat.min_eq_left hlo])]
      rw [e1] at this
      rw [hlen]; exact this
    by_cases hcl : c = lo
    · rw [if_pos hcl] at had
      subst had
      refine ⟨_, hrun, .inr ⟨g, off, c - lo, cur, by rw [hlen], hg, hh, by rw [hlen]; omega, by omega, ?_, ?_⟩⟩
      · have : c - lo = 0 := by omega
        rw [this]; omega
      · have h0' : xs.drop lo = [] := List.eq_nil_of_length_eq_zero (by rw [hlen]; omega)
        rw [h0']; simp [dens]
    · rw [if_neg hcl] at had
      subst had
      refine ⟨_, hrun, .inr ⟨g, off + lo * E.size, c - lo, cur, by rw [hlen], hg, hh, by rw [hlen]; omega, by omega, ?_, key⟩⟩
      rw [Nat.add_assoc, ← Nat.add_mul, show lo + (c - lo) = c by omega]; exact hsz2) h
theorem r_appendO {x y : Operand} {st el : Nat} {ti te : TI} (hx : A.op fr x = .rowO E el J xs) (hy : A.op fr y = .sl E ys) (hJ : 4096 ≤ J) (hp : fr.pass.contains J = false) (hpos : 0 < ys.length) (hT : T.tab[st]? = some ti) (hk : ti.k = .slice el) (hE : T.tab[el]? = some te) (hs : te.size = E.size) (hz : te.zero.length = te.size) (h0 : 0 < te.size)
    (hlen : (xs.length + ys.length) * te.bytes ≤ 140737488355328) (hlen' : xs.length + ys.length ≤ 9223372036854775807)
    (h : TOps P fr ops rest (A.after { d := some d, ty := .rowO E el J (xs ++ ys), S := [J], rs := opR x ++ opR y }) fun A' l' => K A' ((A, { d := some d, ty := .rowO E el J (xs ++ ys), S := [J], rs := opR x ++ opR y }) :: l')) :
    TOps P fr ops (⟨some d, .call ⟨.builtin .append, #[x, y], #[st, st]⟩, t, p, e, none⟩ :: rest) A K := by
  refine ⟨_, opT_mem rfl rfl (by simp) (by simp; omega) (by simp) fun a w M wf hr htg => ?_, h⟩
  obtain ⟨hdx, hdy⟩ := op2 hr
  rw [hx] at hdx; rw [hy] at hdy
  have hrow := hdx
  obtain ⟨_, D, _, hD, hkd, _⟩ := tab_info hT
  rw [hk] at hkd
  cases D <;> simp only [TK.of, reduceCtorEq, TK.slice.injEq] at hkd
  subst hkd
  rename_i el
  obtain ⟨i, _, hi, _, _, hsz, hby, hze⟩ := tab_info hE
  obtain ⟨zz, hiz, hzc⟩ : ∃ z, i.zero = some z ∧ z.cells.size = i.size := by
    cases hiz : i.zero with
    | none => rw [hiz] at hze; rw [← hze] at hz; simp at hz; omega
    | some z => rw [hiz] at hze; exact ⟨z, rfl, by simp at hze; rw [hsz, ← hz, ← hze]; simp⟩
  obtain ⟨ad, c', ey, hc1, hc2, hpp⟩ := hdy
  obtain ⟨b', off', rfl, hp'⟩ := hpp hpos
  obtain ⟨news, hn1, hn2, hn3⟩ := pub_cells hp' _ (Nat.le_refl _)
  rw [List.take_length] at hn2
  have hnl : news.length = ys.length * i.size := by rw [hn1, flat_len, hsz, hs]
  have hnews : ∀ j u, news[j]? = some u → w.cell? ((⟨b', off', none⟩ : Addr).add j) = some u := fun j u hj => by rw [Addr.add_lit]; exact hn3 j u hj
  have hones := dens_ones hn2 (flat_ones E ys)
  have hesz : E.size = i.size := by rw [hsz, hs]
  -- behind a growth
  have grown : ∀ (olds : List Value) (cap : Nat), dens w M (xs.flatMap E.tys) olds → cap < xs.length + ys.length →
      (Builtin.append_ #[st, st] t #[a.eval x, a.eval y]).run P w = .ok (.slice (some ⟨w.heap.size, 0, none⟩) (xs.length + ys.length) (grownCap w (xs.length + ys.length) cap el)) (w.drew.alloc (.cells (olds.toArray ++ news.toArray ++ Builtin.zeroCells zz.cells (grownCap w (xs.length + ys.length) cap el - (xs.length + ys.length))) el)) →
      ∃ v w', (execOp a.eval ⟨some d, .call ⟨.builtin .append, #[x, y], #[st, st]⟩, t, p, e, none⟩).run P w = .ok (.value v) w' ∧ Fx.left { d := some d, ty := .rowO E el J (xs ++ ys), S := [J], rs := opR x ++ opR y } w M w' v := by
    intro olds cap hdo hcap hrun
    have holen : olds.length = xs.length * i.size := by rw [dens_len hdo, flat_len, hesz]
    have hge := grownCap_ge w (xs.length + ys.length) cap el
    have hcm : grownCap w (xs.length + ys.length) cap el ≤ maxLen := grownCap_le_maxLen w (xs.length + ys.length) cap el (by simp only [maxLen]; omega)
    have hsize : (w.drew.alloc (.cells (olds.toArray ++ news.toArray ++ Builtin.zeroCells zz.cells (grownCap w (xs.length + ys.length) cap el - (xs.length + ys.length))) el)).heap.size = w.heap.size + 1 := by simp
    have hold : ∀ b2, b2 < w.heap.size → (w.drew.alloc (.cells (olds.toArray ++ news.toArray ++ Builtin.zeroCells zz.cells (grownCap w (xs.length + ys.length) cap el - (xs.length + ys.length))) el)).heap[b2]? = w.heap[b2]? := fun b2 h => Below.heap_alloc w.drew _ b2 h
    have hnew : (w.drew.alloc (.cells (olds.toArray ++ news.toArray ++ Builtin.zeroCells zz.cells (grownCap w (xs.length + ys.length) cap el - (xs.length + ys.length))) el)).heap[w.heap.size]? = some (.cells (olds.toArray ++ news.toArray ++ Builtin.zeroCells zz.cells (grownCap w (xs.length + ys.length) cap el - (xs.length + ys.length))) el (0, 0)) := alloc_new w.drew _
    have hos : (w.drew.alloc (.cells (olds.toArray ++ news.toArray ++ Builtin.zeroCells zz.cells (grownCap w (xs.length + ys.length) cap el - (xs.length + ys.length))) el)).os = w.os ∧ (w.drew.alloc (.cells (olds.toArray ++ news.toArray ++ Builtin.zeroCells zz.cells (grownCap w (xs.length + ys.length) cap el - (xs.length + ys.length))) el)).tape = w.tape ∧ (w.drew.alloc (.cells (olds.toArray ++ news.toArray ++ Builtin.zeroCells zz.cells (grownCap w (xs.length + ys.length) cap el - (xs.length + ys.length))) el)).output = w.output := ⟨rfl, rfl, rfl⟩
    have hcs : (olds.toArray ++ news.toArray ++ Builtin.zeroCells zz.cells (grownCap w (xs.length + ys.length) cap el - (xs.length + ys.length))).size = grownCap w (xs.length + ys.length) cap el * i.size := by
      simp only [Array.size_append, List.size_toArray, size_zeroCells, hzc, holen, hnl, ← Nat.add_mul]
      congr 1
      omega
    have htk : ((olds.toArray ++ news.toArray ++ Builtin.zeroCells zz.cells (grownCap w (xs.length + ys.length) cap el - (xs.length + ys.length))).toList.drop 0).take ((xs ++ ys).length * E.size) = olds ++ news := by
      rw [List.drop_zero]
      simp only [Array.toList_append]
      rw [List.take_left' (by rw [List.length_append, holen, hnl, List.length_append, hesz, Nat.add_mul])]
    generalize hw' : (w.drew.alloc (.cells (olds.toArray ++ news.toArray ++ Builtin.zeroCells zz.cells (grownCap w (xs.length + ys.length) cap el - (xs.length + ys.length))) el)) = w' at *
    generalize hcu : (olds.toArray ++ news.toArray ++ Builtin.zeroCells zz.cells (grownCap w (xs.length + ys.length) cap el - (xs.length + ys.length))) = cu at *
    have le : Le (· ∈ [J]) (· ∈ ([] : List Nat)) w M w' (fun b2 => if b2 = w.heap.size then some J else M b2) :=
      ⟨by omega, hos.1, hos.2.1, hos.2.2, fun b2 hb2 hm => ⟨by rw [if_neg (by omega)]; exact hm, hold b2 hb2⟩, fun b2 u hm _ => by
        have := wf.lt b2 u hm
        exact ⟨by rw [if_neg (by omega)]; exact hm, fun _ => hold b2 this⟩⟩
    have le0 : Le (· ∈ ([] : List Nat)) (· ∈ ([] : List Nat)) w M w' (fun b2 => if b2 = w.heap.size then some J else M b2) :=
      ⟨by omega, hos.1, hos.2.1, hos.2.2, fun b2 hb2 hm => ⟨by rw [if_neg (by omega)]; exact hm, hold b2 hb2⟩, fun b2 u hm _ => by
        have := wf.lt b2 u hm
        exact ⟨by rw [if_neg (by omega)]; exact hm, fun _ => hold b2 this⟩⟩
    have wf' : Wf w' (fun b2 => if b2 = w.heap.size then some J else M b2) := by
      refine ⟨fun b2 u hm => ?_, fun b2 b3 u ht1 hm hm' => ?_⟩
      · split at hm
        · omega
        · have := wf.lt b2 u hm; omega
      · split at hm
        · injection hm with hm; omega
        · split at hm'
          · injection hm' with hm'; omega
          · exact wf.inj b2 b3 u ht1 hm hm'
    refine ⟨.slice (some ⟨w.heap.size, 0, none⟩) (xs.length + ys.length) (grownCap w (xs.length + ys.length) cap el), w', by simp [execOp, resolve, invoke, builtin, hrun], _, wf', le, .inr ⟨w.heap.size, 0, grownCap w (xs.length + ys.length) cap el, cu, by rw [List.length_append], by simp, hnew, by rw [List.length_append]; exact hge, hcm, by rw [hcs, hesz]; omega, ?_⟩, by simp⟩
    rw [htk, List.flatMap_append]
    exact dens_app (dens_mono le0 (by rw [E.flat_deps]; intro _ h; cases h) (by rw [E.flat_cdeps]; intro _ h; cases h) hdo) (dens_mono le0 (by rw [E.flat_deps]; intro _ h; cases h) (by rw [E.flat_cdeps]; intro _ h; cases h) hn2)
  rcases hrow with ⟨hxe, ex⟩ | ⟨g, off, cap, cur, ex, hg, hh, hxc, hcm, hfit, hdx⟩
  · have hrn := run_append_nil (P := P) w st t el i zz hD hi hiz ⟨b', off', none⟩ ys.length c' news hnl hnews hpos (by omega) (by rw [hby]; have := hlen; rw [Nat.add_mul] at this; omega)
    subst hxe
    refine grown [] 0 trivial (by simpa using hpos) ?_
    rw [ex, ey]
    simpa using hrn
  · by_cases hroom : xs.length + ys.length ≤ cap
    · -- in place
      have hm : (xs.length + ys.length) * E.size ≤ cap * E.size := Nat.mul_le_mul_right _ hroom
      rw [Nat.add_mul] at hm
      have hcf : off + xs.length * i.size + news.length ≤ cur.size := by rw [hnl, ← hesz]; omega
      have hf := run_firstCells_some (P := P) w i.size ys.length ⟨b', off', none⟩ ys.length c' news hnl hnews
      have hst := run_storeCells_at (P := P) g (off + xs.length * i.size) el news 0 cur w hh (by simpa using hcf) hones
      rw [setRow_set _ hh] at hst
      simp only [Nat.add_zero] at hst
      obtain ⟨h1', h2', h3'⟩ := store_le (cs' := (cur.toList.take (off + xs.length * i.size) ++ news ++ cur.toList.drop (off + xs.length * i.size + news.length)).toArray) (Tb := el) wf hg _ rfl
      have hrun : (Builtin.append_ #[st, st] t #[a.eval x, a.eval y]).run P w = .ok (.slice (some ⟨g, off, none⟩) (xs.length + ys.length) cap) { w with heap := w.heap.setIfInBounds g (.cells (cur.toList.take (off + xs.length * i.size) ++ news ++ cur.toList.drop (off + xs.length * i.size + news.length)).toArray el (0, 0)) } := by
        rw [ex, ey]
        simp [Builtin.append_, run_underlying hD, sizeOf, typeInfo, hi, Builtin.lenOf, hroom, hf, Addr.add_lit, hst]
      have le : Le (· ∈ [J]) (· ∈ ([] : List Nat)) w M { w with heap := w.heap.setIfInBounds g (.cells (cur.toList.take (off + xs.length * i.size) ++ news ++ cur.toList.drop (off + xs.length * i.size + news.length)).toArray el (0, 0)) } M :=
        h2'.weaken (fun u hu => by simp only [List.mem_singleton] at hu; subst hu; simp) (fun _ h => by cases h)
      refine ⟨.slice (some ⟨g, off, none⟩) (xs.length + ys.length) cap, _, by simp [execOp, resolve, invoke, builtin, hrun], M, h1', le, .inr ⟨g, off, cap, _, by rw [List.length_append], hg, h3', by rw [List.length_append]; exact hroom, hcm, ?_, ?_⟩, by simp⟩
      · simp only [List.size_toArray, List.length_append, List.length_take, List.length_drop, Array.length_toList]
        omega
      · rw [List.length_append, Nat.add_mul, hesz, ← hnl, List.toList_toArray, put_take _ _ _ _ (by simpa using hcf), List.flatMap_append]
        refine dens_mono h2' (by rw [← List.flatMap_append, E.flat_deps]; intro _ h; cases h) (by rw [← List.flatMap_append, E.flat_cdeps]; intro _ h; cases h) (dens_app ?_ hn2)
        rw [← hesz]; exact hdx
    · have holds : ∀ j u, ((cur.toList.drop off).take (xs.length * E.size))[j]? = some u → w.cell? ((⟨g, off, none⟩ : Addr).add j) = some u := fun j u hj => by
        rw [List.getElem?_take] at hj
        split at hj
        · rw [List.getElem?_drop] at hj
          rw [Addr.add_lit]
          simpa [World.cell?, hh] using hj
        · cases hj
      have hol : ((cur.toList.drop off).take (xs.length * E.size)).length = xs.length * i.size := by rw [dens_len hdx, flat_len, hesz]
      have hrn := run_append_grow (P := P) w st t el i zz hD hi hiz ⟨g, off, none⟩ xs.length cap _ hol holds ⟨b', off', none⟩ ys.length c' news hnl hnews (by omega) (by omega) (growslice_fits (by omega) (by rw [hby]; exact hlen))
      refine grown _ cap hdx (by omega) ?_
      rw [ex, ey]
      exact hrn
end
section
variable {P : Program} {fr : Fr} {A : As} {c : Code} {Q : Exit → Act → World → Prop}
end
end Go.T

namespace Go.T
open Go Go.RowKit
section
variable {P : Program} {fr : Fr} {ops : Array Oper} {A : As} {rest : List Oper} {K : As → List (As × Fx) → Prop} {d : Nat} {t : TypeId} {p : String} {e : Array Edge}
end
end Go.T

namespace Go.T
open Go Go.RowKit
theorem Ty.row_vs {α : Type} {E : El α} {T tg n : Nat} {xs : List α} (hn : xs.length = n) : (Ty.row E T tg xs).Sub (Ty.vs tg n) := fun w M v ⟨cs, h1, h2, h3⟩ => by
  subst hn
  rcases h1.2 with ⟨e, h0⟩ | ⟨g, cap, cur, ex, _, hh, hn1, hcap, _, htk⟩
  · exact .inl ⟨h0, e⟩
  · exact .inr ⟨g, cap, h3 g (by rw [ex]; rfl), ex, hn1, hcap⟩
theorem Cont.sub_cellsL {T : Nat} {l l' : List Ty} (h : SubL l l') : (Cont.cells T l).Sub (Cont.cells T l') := fun w M v ⟨b, cs, h1, h2, h3⟩ => ⟨b, cs, h1, h2, subL_dens h h3⟩
end Go.T

namespace Go.T
open Go Go.RowKit
end Go.T

namespace Go.T
open Go Go.RowKit
section
variable {P : Program} {fr : Fr} {A : As} {c : Code} {Q : Exit → Act → World → Prop}
theorem t_ownCell {α : Type} {E : El α} {T Tc tg c0 : Nat} {l : List Ty} {xs : List α} (i : Nat) (hc : A.tag c0 = some (.cells Tc l)) (hi : l[i]? = some (.row E T tg xs))
    (h : Tri P fr c ⟨A.slots, (tg, .vec E T xs) :: A.tags⟩ Q) : Tri P fr c A Q := fun a w ⟨M, ok, hsl, ht⟩ => by
  refine h a w ⟨M, ok, hsl, fun x hx => ?_⟩
  rcases List.mem_cons.1 hx with rfl | hx
  · obtain ⟨b, cs, hb, hh, hd⟩ := ht _ (tag_mem hc)
    obtain ⟨v, _, ⟨ds, h1, h2, h3⟩⟩ := dens_get hd i _ hi
    rcases h1.2 with ⟨e, h0⟩ | ⟨g, cap, cur, ex, _, hh, hn1, hcap, _, htk⟩
    · exact .inl (List.length_eq_zero_iff.1 h0)
    · have hg : M g = some tg := h3 g (by rw [ex]; rfl)
      exact .inr ⟨g, cur, hg, hh, by rw [flat_len, htk]; exact h2⟩
  · exact ht x hx
end
end Go.T

namespace Go.T
open Go Go.RowKit
section
variable {P : Program} {A : As} {fn : Func} {n : Nat} {w0 : World} {M0 : Tags}
end
end Go.T

namespace Go.T
open Go Go.RowKit
def dExi {α : Type} (S : α → Prop) (T : α → Ty) (w : World) (M : Tags) (v : Value) : Prop := ∃ x, S x ∧ (T x).den w M v
def Ty.exi {α : Type} (S : α → Prop) (T : α → Ty) (h : ∀ x, (T x).deps = [] ∧ (T x).cdeps = []) : Ty :=
  { den := dExi S T, mono := fun le _ _ ⟨x, hx, hd⟩ => ⟨x, hx, (T x).mono le (by rw [(h x).1]; intro _ h; cases h) (by rw [(h x).2]; intro _ h; cases h) hd⟩ }
section
variable {P : Program} {fr : Fr} {A : As} {c : Code} {Q : Exit → Act → World → Prop}
end
section
variable {P : Program} {A : As} {fn : Func} {n : Nat} {w0 : World} {M0 : Tags}
end
end Go.T

namespace Go.T
open Go Go.RowKit
section
variable {P : Program} {fr : Fr} {ops : Array Oper} {A : As} {rest : List Oper} {K : As → List (As × Fx) → Prop} {d : Nat} {t : TypeId} {p : String} {e : Array Edge} {y : Operand}
theorem r_pickF {c : Operand} {b : Bool} (hc : A.op fr c = .bool false) (hy : A.op fr y = .bool b)
    (h : TOps P fr ops rest (A.set d (.bool b)) fun A' l' => K A' ((A, { d := some d, ty := .bool b, rs := opR c ++ opR y }) :: l')) : TOps P fr ops (⟨some d, .pick c (.const (.bool true)) y, t, p, e, none⟩ :: rest) A K :=
  tops_pure (opT_pure rfl rfl fun a w M _ hrd _ => by
    obtain ⟨hdc, hdy⟩ := op2 hrd
    rw [hc] at hdc; rw [hy] at hdy
    have ec : a.eval c = .bool false := hdc
    have ey : a.eval y = .bool b := hdy
    exact ⟨.bool b, by simp only [execOp, ec, ey]; simp [asBool], rfl⟩) h
theorem r_pickT {c : Operand} (hc : A.op fr c = .bool true)
    (h : TOps P fr ops rest (A.set d (.bool true)) fun A' l' => K A' ((A, { d := some d, ty := .bool true, rs := opR c ++ opR y }) :: l')) : TOps P fr ops (⟨some d, .pick c (.const (.bool true)) y, t, p, e, none⟩ :: rest) A K :=
  tops_pure (opT_pure rfl rfl fun a w M _ hrd _ => by
    obtain ⟨hdc, _⟩ := op2 hrd
    rw [hc] at hdc
    have ec : a.eval c = .bool true := hdc
    exact ⟨.bool true, by simp only [execOp, ec]; simp [asBool, Act.eval], rfl⟩) h
theorem r_offU {op : Op} {j s : Nat} {want : Bool} (hs : dstOf ops j = some s) (hn : Nat.blt s fr.n = true) (hc : A.slots s = .ex undef)
    (h : TOps P fr ops rest (A.set d (.ex undef)) fun A' l' => K A' ((A, { d := some d, ty := .ex undef, rs := [s] }) :: l')) : TOps P fr ops (⟨some d, op, t, p, e, some (j, want)⟩ :: rest) A K := by
  refine ⟨{ d := some d, ty := .ex undef, rs := [s] }, ⟨rfl, (by simp), (by simp), (by simp), fun a w M wf hsz hrd htg => ?_⟩, h⟩
  have hv := hrd s List.mem_cons_self (by simpa using hn)
  rw [hc] at hv
  have hy := yielded_undef (ops := ops) hs (by rw [hsz]; simpa using hn) hv
  have hw : Region.wanted ⟨some d, op, t, p, e, some (j, want)⟩ (yielded ops a.tmps) = false := by
    simp only [Region.wanted, hy]
    cases want <;> simp_all
  rw [if_neg (by rw [hw]; simp)]
  exact ⟨M, wf, Le.refl _ _ _ _, rfl, by simp⟩
end
section
variable {P : Program} {fr : Fr} {A : As} {Q : Exit → Act → World → Prop} {code : Code}
end
end Go.T

namespace Go.T
open Go Go.RowKit
section
variable {P : Program} {fr : Fr} {A : As} {Q : Exit → Act → World → Prop}
end
end Go.T

namespace Go.T
open Go Go.RowKit
section
variable {P : Program} {fr : Fr} {ops : Array Oper} {A : As} {rest : List Oper} {K : As → List (As × Fx) → Prop} {d : Nat} {t ty' : TypeId} {p : String} {e : Array Edge} [T : Tab P]
end
section
open Go.RowKit
variable {P : Program} {A : As} {fn : Func} {n : Nat} {w0 : World} {M0 : Tags} {F : List Nat} {post : List (Nat × Cont)} [T : Tab P]
end
def reGood (tg tg' : Nat) (ρ : List (Nat × Nat)) : Bool := ρ.all fun x => (Nat.beq x.1 tg && Nat.beq x.2 tg') || (Nat.beq x.1 x.2 && !Nat.beq x.1 tg && !Nat.beq x.1 tg')
section
variable {P : Program} {fr : Fr} {A : As}
def AllCv (A : As) (ρ : List (Nat × Nat)) : List (Nat × Ty) → Prop
  | [] => True
  | x :: l => Conv ρ (A.slots x.1) x.2 ∧ AllCv A ρ l
def As.reC (A : As) (tg tg' : Nat) (l : List (Nat × Ty)) (lc : List (Nat × Cont)) : As := ⟨setL l (killSlots [] [tg, tg'] A.slots), lc ++ killTags [] [tg, tg'] A.tags⟩
end
end Go.T

namespace Go.T
open Go Go.RowKit
section
variable {P : Program} {fr : Fr} {A : As}
end
end Go.T

namespace Go.T
open Go Go.RowKit
end Go.T

namespace Go.T
open Go Go.RowKit
def dFact (tys : List Ty) (vs : List Value) (w : World) (M : Tags) (_ : Nat) : Prop := dens w M tys vs
def Cont.fact (tys : List Ty) (vs : List Value) (h1 : depsOf tys = []) (h2 : cdepsOf tys = []) : Cont :=
  { den := dFact tys vs, deps := [], cdeps := [], mono := fun le _ _ _ _ h => dens_mono le (by rw [h1]; intro _ h; cases h) (by rw [h2]; intro _ h; cases h) h }
def XB (b D Tb : Nat) (vs : List Value) (J : Nat → World → Tags → Prop) : Prop :=
  ∀ k w M, Wf w M → J k w M → M b = some D ∧ ∃ cs : Array Value, w.heap[b]? = some (.cells cs Tb (0, 0)) ∧ cs.toList.take vs.length = vs
def CtrIX (P : Program) (f : FuncId) (b D Tb : Nat) (vs : List Value) (tys : List Ty) (args : Nat → List Ty) (encs : List (List Ty)) (resD resS : Ty) : Prop :=
  (∃ fn, P.funcs[f]? = some fn ∧ (fn.name == "runtime.NumGoroutine") = false ∧ fn.body.isNone = false) ∧
  ∀ l J Jx, (∀ k, Cb (J k)) → Cb Jx → XB b D Tb vs J → Yld P l encs J Jx → ∀ w M us, Wf w M → ZOk M → dens w M (args l) us → dens w M tys vs → J 0 w M →
    Calls P f us.toArray w (iterPost encs.length J Jx resD resS)
section
variable {P : Program}
theorem fnIX_intro {f b D Tb : Nat} {us : List Value} {tys : List Ty} {fn : Func} {c : Code} {args : Nat → List Ty} {encs : List (List Ty)} {n : Nat} (h1 : depsOf tys = []) (h2 : cdepsOf tys = []) (hf : P.funcs[f]? = some fn) (hb : fn.body = some c) (hn : (fn.name == "runtime.NumGoroutine") = false) (hnt : fn.ntmps = n) (hl : ∀ l, (args l).length ≤ n) (hdd : ∀ l, depsOf (args l) = [] ∧ cdepsOf (args l) = [])
    (h : ∀ l J Jx (hJ : ∀ k, Cb (J k)) (hJx : Cb Jx), XB b D Tb us J → Yld P l encs J Jx → ∀ w0 M0, Tri P ⟨n, w0, M0, [7000, 5000], .plain⟩ c (entryG (args l) [(7000, .ck (hJ 0)), (4000, Cont.fact tys us h1 h2)]) (bodyPost P fn (iterPost encs.length J Jx (Ty.tup []) (Ty.tup [])))) : CtrIX P f b D Tb us tys args encs (Ty.tup []) (Ty.tup []) := by
  refine ⟨⟨fn, hf, hn, by rw [hb]; rfl⟩, fun l J Jx hJ hJx hX hY w Mc vs wf z hd hus hj => calls_of_wp hf hb (wpIn_wide.1 (h l J Jx hJ hJx hX hY w (startM Mc none) _ _ ?_))⟩
  have hall : dens w (startM Mc none) (args l) vs := conv_nodeps (fun b hb => startM_none' hb) (hdd l).1 (hdd l).2 hd
  have hlen := dens_len hall
  have hl := hl l
  refine ⟨startM Mc none, ⟨startM_wf wf, Le.refl _ _ _ _, by simp [hnt, hlen]; omega, Defs.nil⟩, fun c hc => ?_, fun x hx => ?_⟩
  · simp only [entryG]
    cases ha : (args l)[c]? with
    | none => trivial
    | some ty =>
      obtain ⟨v, hv, hdv⟩ := dens_get hall c ty ha
      have : (vs.toArray ++ Array.replicate (fn.ntmps - vs.toArray.size) undef).getD c undef = v := by
        have hlt : c < vs.length := (List.getElem?_eq_some_iff.1 hv).1
        rw [Array.getD_eq_getD_getElem?, Array.getElem?_append_left (by simpa using hlt)]
        simp [hv]
      rw [this]; exact hdv
  · rcases List.mem_cons.1 hx with rfl | hx
    · exact ⟨rfl, startM_ck wf z hj⟩
    · rw [List.mem_singleton.1 hx]
      exact conv_nodeps (fun b hb => startM_none' hb) h1 h2 hus
theorem i_retX0 {fn : Func} {n : Nat} {A : As} {w0 : World} {M0 : Tags} {J : Nat → World → Tags → Prop} {Jx : World → Tags → Prop} {m : Nat} {h1 : Cb (J m)} (hr : fn.results = #[]) (ht : A.tag 7000 = some (.ck h1)) : Into ⟨n, w0, M0, [7000, 5000], .plain⟩ A (bodyPost P fn (iterPost m J Jx (Ty.tup []) (Ty.tup [])) .normal) := by
  intro a w' ⟨M, ok, hsl, htg⟩
  obtain ⟨_, Mc', wf', z', hj, k1, k2⟩ := htg _ (tag_mem ht)
  exact ⟨ok.nodefers (by simp), _, results_none hr _ _ _, _, Mc', rfl, wf', z', .inl ⟨⟨_, rfl, trivial⟩, hj⟩⟩
theorem i_retX0e {fn : Func} {n : Nat} {A : As} {w0 : World} {M0 : Tags} {J : Nat → World → Tags → Prop} {Jx : World → Tags → Prop} {m k : Nat} {hJ : ∀ k, Cb (J k)} (e : k = m) (hr : fn.results = #[]) (ht : A.tag 7000 = some (.ck (hJ k))) : Into ⟨n, w0, M0, [7000, 5000], .plain⟩ A (bodyPost P fn (iterPost m J Jx (Ty.tup []) (Ty.tup [])) .normal) := by
  subst e; exact i_retX0 hr ht
theorem i_retXx {fn : Func} {n : Nat} {A : As} {w0 : World} {M0 : Tags} {J : Nat → World → Tags → Prop} {Jx : World → Tags → Prop} {m : Nat} {hx : Cb Jx} (hr : fn.results = #[]) (ht : A.tag 7000 = some (.ck hx)) : Into ⟨n, w0, M0, [7000, 5000], .plain⟩ A (bodyPost P fn (iterPost m J Jx (Ty.tup []) (Ty.tup [])) .ret) := by
  intro a w' ⟨M, ok, hsl, htg⟩
  obtain ⟨_, Mc', wf', z', hj, k1, k2⟩ := htg _ (tag_mem ht)
  exact ⟨ok.nodefers (by simp), _, results_none hr _ _ _, _, Mc', rfl, wf', z', .inr ⟨⟨_, rfl, trivial⟩, hj⟩⟩
variable {fr : Fr} {ops : Array Oper} {A : As} {rest : List Oper} {K : As → List (As × Fx) → Prop} {d : Nat} {t ty' : TypeId} {p : String} {e : Array Edge} [T : Tab P]
omit T in
theorem r_nilCheckX {x : Operand} {b off : Nat} (hx : A.op fr x = .ex (.pointer (some ⟨b, off, none⟩)))
    (h : TOps P fr ops rest (A.set d (.ex (.pointer (some ⟨b, off, none⟩)))) fun A' l' => K A' ((A, { d := some d, ty := .ex (.pointer (some ⟨b, off, none⟩)), rs := opR x }) :: l')) : TOps P fr ops (⟨some d, .nilCheck x, t, p, e, none⟩ :: rest) A K :=
  tops_pure (opT_pure rfl rfl fun a w M _ hrd _ => by
    have hdx := op_den (x := x) (fun _ h => h) hrd
    rw [hx] at hdx
    have ex : a.eval x = .pointer (some ⟨b, off, none⟩) := hdx
    exact ⟨_, by simp [execOp, ex], rfl⟩) h
theorem r_fieldX {x : Operand} {b off f : Nat} {ti tf : TI} {fs : List (Nat × Nat)} {o ft : Nat} (hx : A.op fr x = .ex (.pointer (some ⟨b, off, none⟩))) (hT : T.tab[ty']? = some ti) (hk : ti.k = .struct fs) (hf : fs[f]? = some (o, ft)) (hF : T.tab[ft]? = some tf) (h0 : tf.size ≠ 0)
    (h : TOps P fr ops rest (A.set d (.ex (.pointer (some ⟨b, off + o, none⟩)))) fun A' l' => K A' ((A, { d := some d, ty := .ex (.pointer (some ⟨b, off + o, none⟩)), rs := opR x }) :: l')) : TOps P fr ops (⟨some d, .fieldAddr ty' x f, t, p, e, none⟩ :: rest) A K :=
  tops_pure (opT_pure rfl rfl fun a w M _ hrd _ => by
    have hdx := op_den (x := x) (fun _ h => h) hrd
    rw [hx] at hdx
    have ex : a.eval x = .pointer (some ⟨b, off, none⟩) := hdx
    exact ⟨_, by simp [execOp, ex, run_field hT hk hf hF h0], rfl⟩) h
def dRv {α : Type} (v : Value) (E : El α) (T tg : Nat) (xs : List α) (w : World) (M : Tags) (_ : Nat) : Prop := (Ty.row E T tg xs).den w M v
def Cont.rv {α : Type} (v : Value) (E : El α) (T tg : Nat) (xs : List α) : Cont :=
  { den := dRv v E T tg xs, deps := (Ty.row E T tg xs).deps, cdeps := (Ty.row E T tg xs).cdeps, mono := fun le hk hs _ _ h => (Ty.row E T tg xs).mono le hk hs h }
theorem r_appendV {α : Type} {E : El α} {c : Nat} {y : Operand} {st el tg : Nat} {v : Value} {ti te : TI} {xs ys : List α} (hx : A.op fr (.tmp c) = .ex v) (hc : A.tag tg = some (.rv v E el tg xs)) (hy : A.op fr y = .sl E ys) (hcy : (opR y).contains c = false) (h1 : 1 ≤ tg) (hp : fr.pass.contains tg = false) (hT : T.tab[st]? = some ti) (hk : ti.k = .slice el) (hE : T.tab[el]? = some te) (hs : te.size = E.size) (hz : te.zero.length = te.size) (h0 : 0 < te.size)
    (hlen : (xs.length + ys.length) * te.bytes ≤ 140737488355328) (hlen' : xs.length + ys.length ≤ 9223372036854775807) (hyA : (A.set c (.row E el tg xs)).op fr y = A.op fr y) (hxA : (A.set c (.row E el tg xs)).op fr (.tmp c) = .row E el tg xs)
    (h : TOps P fr ops rest (A.after { d := some d, ty := .row E el tg (xs ++ ys), K := [tg], rs := opR (.tmp c) ++ opR y, rt := [tg] }) fun A' l' => K A' ((A, { d := some d, ty := .row E el tg (xs ++ ys), K := [tg], rs := opR (.tmp c) ++ opR y, rt := [tg] }) :: l')) :
    TOps P fr ops (⟨some d, .call ⟨.builtin .append, #[.tmp c, y], #[st, st]⟩, t, p, e, none⟩ :: rest) A K := by
  refine ⟨_, ?_, h⟩
  obtain ⟨a1, a2, a3, a4, a5⟩ := opT_append (P := P) (fr := fr) (ops := ops) (A := A.set c (.row E el tg xs)) (d := d) (t := t) (p := p) (e := e) (x := .tmp c) (y := y) (E := E) (xs := xs) (ys := ys) (st := st) (by rw [hxA]; exact Ty.sub_refl _) (hyA.trans hy) h1 hp hT hk hE hs hz h0 hlen hlen'
  refine ⟨a1, a2, a3, a4, fun a w M wf hsz hr ht => a5 a w M wf hsz (fun c' hc' hn => ?_) (fun x _ hx => by cases hx)⟩
  by_cases e : c' = c
  · subst e
    have h1 : (A.slots c').den w M (a.tmps.getD c' undef) := hr c' hc' hn
    have h2 : dRv v E el tg xs w M tg := ht _ (tag_mem hc) (by simp)
    have h3 : A.slots c' = .ex v := by
      have h5 : (bif Nat.blt c' fr.n then A.slots c' else Ty.any) = .ex v := hx
      have h6 : Nat.blt c' fr.n = true := by rw [Nat.blt_eq]; exact hn
      rw [h6, cond_true] at h5
      exact h5
    rw [h3] at h1
    have h4 : a.tmps.getD c' undef = v := h1
    show ((A.set c' (.row E el tg xs)).slots c').den w M _
    simp only [As.set, Nat.beq_refl, cond_true]
    rw [h4]; exact h2
  · show ((A.set c (.row E el tg xs)).slots c').den w M _
    have : Nat.beq c' c = false := by cases hb : Nat.beq c' c with | false => rfl | true => exact absurd (Nat.eq_of_beq_eq_true hb) e
    simp only [As.set, this, cond_false]
    exact hr c' hc' hn
theorem take_get {vs l : List Value} {i : Nat} {v : Value} (h : l.take vs.length = vs) (hv : vs[i]? = some v) : l[i]? = some v := by
  have hi : i < vs.length := (List.getElem?_eq_some_iff.1 hv).1
  rw [← h, List.getElem?_take, if_pos hi] at hv
  exact hv
theorem r_loadJ {x : Operand} {b D Tb off k : Nat} {vs : List Value} {tys : List Ty} {J : Nat → World → Tags → Prop} {hJ : ∀ k, Cb (J k)} {ti : TI} {ty : Ty} {h1 : depsOf tys = []} {h2 : cdepsOf tys = []} (hX : XB b D Tb vs J) (hx : A.op fr x = .ex (.pointer (some ⟨b, off, none⟩))) (ht : A.tag 7000 = some (.ck (hJ k))) (htf : A.tag 4000 = some (Cont.fact tys vs h1 h2)) (hT : T.tab[ty']? = some ti) (ha : ti.k.agg = false) (hl : tys[off]? = some ty)
    (h : TOps P fr ops rest (A.set d ty) fun A' l => K A' ((A, { d := some d, ty := ty, rs := opR x, rt := [7000, 4000] }) :: l)) : TOps P fr ops (⟨some d, .load ty' x, t, p, e, none⟩ :: rest) A K :=
  tops_pure (opT_pure rfl rfl fun a w M wf hr htg => by
    have hdx := op_den (x := x) (fun _ h => h) hr
    rw [hx] at hdx
    have ex : a.eval x = .pointer (some ⟨b, off, none⟩) := hdx
    obtain ⟨_, Mc, wfc, z, hj, g1, g2⟩ := htg _ (tag_mem ht) (by simp)
    have hf : dens w M tys vs := htg _ (tag_mem htf) (by simp)
    obtain ⟨_, cs, hh, hcs⟩ := hX k w Mc wfc hj
    obtain ⟨v, hv, hd⟩ := dens_get hf off ty hl
    have hv' : w.cell? ⟨b, off, none⟩ = some v := by
      have := take_get hcs hv
      simpa [World.cell?, hh] using this
    exact ⟨v, by simp [execOp, ex, run_load1 hT ha hv'], hd⟩) h
theorem lendc_J {b D Tb k : Nat} {vs : List Value} {tys : List Ty} {J : Nat → World → Tags → Prop} {hJ : ∀ k, Cb (J k)} {h1 : depsOf tys = []} {h2 : cdepsOf tys = []} {L : List Nat} (hX : XB b D Tb vs J) (hD : D < 4096) (ht : A.tag 7000 = some (.ck (hJ k))) (htf : A.tag 4000 = some (Cont.fact tys vs h1 h2)) (hL0 : L.contains 7000 = true) (hL1 : L.contains 4000 = true) :
    LendC A L (.ex (.pointer (some ⟨b, 0, none⟩))) (.pp tys) := fun w M v wf htg hv => by
  have hv : v = .pointer (some ⟨b, 0, none⟩) := hv
  have hL0 : 7000 ∈ L := by simpa using hL0
  have hL1 : 4000 ∈ L := by simpa using hL1
  obtain ⟨_, Mc, wfc, z, hj, g1, g2⟩ := htg _ (tag_mem ht) hL0
  have hf : dens w M tys vs := htg _ (tag_mem htf) hL1
  obtain ⟨hb, cs, hh, hcs⟩ := hX k w Mc wfc hj
  have hlt : b < w.heap.size := wfc.lt b _ hb
  have hm : lend M L b = none := by
    cases hm : M b with
    | none => exact lend_none hm
    | some u =>
      by_cases e : u = 7000
      · subst e; exact lend_in hm hL0
      · have := g2 b u hlt hm e
        rw [this] at hb
        injection hb with hb
        have : Zt = 1000000 := rfl
        omega
  have hf2 : dens w (lend M L) tys vs := dens_mono (S := fun _ => True) (K := fun _ => True) (w' := w) ⟨Nat.le_refl _, rfl, rfl, rfl, fun b _ hm => ⟨lend_none hm, rfl⟩, fun b t _ h => absurd trivial h⟩ (by rw [h1]; intro _ h; cases h) (by rw [h2]; intro _ h; cases h) hf
  refine ⟨b, 0, hv, hm, hlt, fun i t hi => ?_⟩
  obtain ⟨x, hx, hdx⟩ := dens_get hf2 i t hi
  refine ⟨x, ?_, hdx⟩
  have := take_get hcs hx
  simpa [World.cell?, hh] using this
end
theorem deps_lt {l : List Nat} (h : l.all (fun t => Nat.blt t 1000000) = true) : ∀ t ∈ l, t < Zt := fun t ht => by
  have := List.all_eq_true.1 h t ht
  rw [Nat.blt_eq] at this; exact this
section
variable {P : Program} {fr : Fr} {A : As} {Q : Exit → Act → World → Prop} {c : Code}
def updC (l : List (Nat × Cont)) (D : Nat) (C : Cont) : List (Nat × Cont) := l.map fun x => if x.1 == D then (D, C) else x
theorem dens_cutX {w : World} {M : Tags} {l1 l2 : List Ty} {vs : List Value} (h : dens w M (l1 ++ l2) vs) : ∃ v1 v2, vs = v1 ++ v2 ∧ dens w M l1 v1 ∧ dens w M l2 v2 := by
  induction l1 generalizing vs with
  | nil => exact ⟨[], vs, rfl, trivial, h⟩
  | cons t l1 ih =>
    cases vs with
    | nil => cases h
    | cons v vs =>
      obtain ⟨v1, v2, e, h1, h2⟩ := ih h.2
      exact ⟨v :: v1, v2, by rw [e]; rfl, ⟨h.1, h1⟩, h2⟩
theorem dens_ex {w : World} {M : Tags} : ∀ (vs : List Value), dens w M (vs.map Ty.ex) vs
  | [] => trivial
  | _ :: vs => ⟨rfl, dens_ex vs⟩
theorem dens_ex_eq {w : World} {M : Tags} : ∀ {vs us : List Value}, dens w M (vs.map Ty.ex) us → us = vs
  | [], [], _ => rfl
  | [], _ :: _, h => by cases h
  | _ :: _, [], h => by cases h
  | v :: vs, u :: us, h => by rw [show u = v from h.1, dens_ex_eq h.2]
theorem t_name {D Tb : Nat} {tys r : List Ty} (h1 : depsOf tys = []) (h2 : cdepsOf tys = []) (hc : A.tag D = some (.cells Tb (tys ++ r))) (hD : Tag1 D)
    (h : ∀ vs, vs.length = tys.length → Tri P fr c ⟨A.slots, (D, .cells Tb (vs.map Ty.ex ++ r)) :: (4000, Cont.fact tys vs h1 h2) :: A.tags.filter fun x => !(x.1 == D)⟩ Q) : Tri P fr c A Q := by
  intro a w ⟨M, ok, hsl, htg⟩
  obtain ⟨b, cs, hb, hh, hd⟩ := htg _ (tag_mem hc)
  obtain ⟨v1, v2, e, d1, d2⟩ := dens_cutX hd
  refine h v1 (dens_len d1) a w ⟨M, ok, hsl, fun x hx => ?_⟩
  rcases List.mem_cons.1 hx with rfl | hx
  · exact ⟨b, cs, hb, hh, by rw [e]; exact dens_append (dens_ex v1) d2⟩
  · rcases List.mem_cons.1 hx with rfl | hx
    · exact d1
    · exact htg x (List.mem_filter.1 hx).1
theorem t_unname {D Tb : Nat} {vs : List Value} {tys r : List Ty} {h1 : depsOf tys = []} {h2 : cdepsOf tys = []} (hc : A.tag D = some (.cells Tb (vs.map Ty.ex ++ r))) (hf : A.tag 4000 = some (Cont.fact tys vs h1 h2))
    (h : Tri P fr c ⟨A.slots, (D, .cells Tb (tys ++ r)) :: A.tags.filter fun x => !(x.1 == D)⟩ Q) : Tri P fr c A Q := by
  intro a w ⟨M, ok, hsl, htg⟩
  obtain ⟨b, cs, hb, hh, hd⟩ := htg _ (tag_mem hc)
  have hfd : dens w M tys vs := htg _ (tag_mem hf)
  refine h a w ⟨M, ok, hsl, fun x hx => ?_⟩
  rcases List.mem_cons.1 hx with rfl | hx
  · obtain ⟨v1, v2, e, d1, d2⟩ := dens_cutX hd
    rw [dens_ex_eq d1] at e
    exact ⟨b, cs, hb, hh, by rw [e]; exact dens_append hfd d2⟩
  · exact htg x (List.mem_filter.1 hx).1
theorem t_nameR {D Tb tg : Nat} {α : Type} {E : El α} {T : Nat} {xs : List α} (l1 : List Ty) {l2 : List Ty} (hc : A.tag D = some (.cells Tb (l1 ++ Ty.row E T tg xs :: l2)))
    (h : ∀ v, Tri P fr c ⟨A.slots, (D, .cells Tb (l1 ++ Ty.ex v :: l2)) :: (tg, Cont.rv v E T tg xs) :: A.tags.filter fun x => !(x.1 == D)⟩ Q) : Tri P fr c A Q := by
  intro a w ⟨M, ok, hsl, htg⟩
  obtain ⟨b, cs, hb, hh, hd⟩ := htg _ (tag_mem hc)
  obtain ⟨v1, v2, e, d1, d2⟩ := dens_cutX hd
  match v2, d2 with
  | v :: v2, d2 =>
    refine h v a w ⟨M, ok, hsl, fun x hx => ?_⟩
    rcases List.mem_cons.1 hx with rfl | hx
    · exact ⟨b, cs, hb, hh, by rw [e]; exact dens_append d1 ⟨rfl, d2.2⟩⟩
    · rcases List.mem_cons.1 hx with rfl | hx
      · exact d2.1
      · exact htg x (List.mem_filter.1 hx).1
theorem pubTy_ptr {T tg off : Nat} {l : List Ty} (hc : A.tag tg = some (.cells T l)) (hd : disj (depsOf l) [tg] = true) (h1 : Tag1 tg) : PubTy A tg (.ptr tg off) (.pp (l.drop off)) := fun w M v wf ht hv =>
  pub_ptr (A := A.set 0 (.ptr tg off)) (s := 0) rfl hc hd h1 w M v wf ht hv
theorem allTy_at {tg i : Nat} {t : Ty} : ∀ {l l' : List Ty}, AllTy A tg l l' → l'[i]? = some t → ∃ i', i' = i ∧ ∃ s, l[i']? = some s ∧ PubTy A tg s t := by
  induction i with
  | zero =>
    intro l l' h e
    match l, l', h with
    | [], [], _ => cases e
    | s :: _, t' :: _, h => injection e with e; subst e; exact ⟨0, rfl, s, rfl, h.1⟩
  | succ i ih =>
    intro l l' h e
    match l, l', h with
    | [], [], _ => cases e
    | _ :: l, _ :: l', h =>
      obtain ⟨i', rfl, s, h1, h2⟩ := ih (l := l) (l' := l') h.2 e
      exact ⟨i' + 1, rfl, s, h1, h2⟩
theorem pubTy_pp {tg : Nat} {l l' : List Ty} (h : AllTy A tg l l') : PubTy A tg (.pp l) (.pp l') := fun w M v wf ht ⟨b, off, e, m1, m2, m3⟩ => by
  refine ⟨b, off, e, by simp [pubTag, m1], m2, fun i t hi => ?_⟩
  obtain ⟨_, rfl, s, h1, h2⟩ := allTy_at h hi
  obtain ⟨x, hx, hdx⟩ := m3 _ s h1
  exact ⟨x, hx, h2 w M x wf ht hdx⟩
theorem pub_pp {tg s : Nat} {l l' : List Ty} (hx : A.slots s = .pp l) (h : AllTy A tg l l') : PubTo A tg s (.pp l') := fun w M v wf ht hv => pubTy_pp h w M v wf ht (hx ▸ hv)
theorem ranges_X {f D Tb n sd : Nat} {tys : List Ty} {vs : List Value} {h1 : depsOf tys = []} {h2 : cdepsOf tys = []} {pubs : List Ty} {encs : List (List Ty)} {resD resS : Ty} {s : Nat → Ty} {tg : Nat → List (Nat × Cont)} {r : Nat → List Ty}
    (hI : ∀ b, CtrIX P f b D Tb vs tys (fun l => Ty.ex (yv l) :: Ty.pp [Ty.ex (.pointer (some ⟨b, 0, none⟩))] :: pubs) encs resD resS)
    (hD : Tag1 D) (hsn : sd < n) (hsd : s sd = Ty.ptr D 0) (htD : ∀ k, (D, Cont.cells Tb (vs.map Ty.ex ++ r k)) ∈ tg k) (htf : (4000, Cont.fact tys vs h1 h2) ∈ tg 0) :
    ∀ (l : Nat) (J : Nat → World → Tags → Prop) (Jx : World → Tags → Prop) (tm : Array Value), (∀ k, Cb (J k)) → Cb Jx → Yld P l encs J Jx → (∀ k w M, J k w M → (∀ c, c < n → (s c).den w M (tm.getD c undef)) ∧ ∀ x ∈ tg k, x.2.den w M x.1) → ∀ w M us, Wf w M → ZOk M → dens w M (Ty.ex (yv l) :: Ty.pp [Ty.ptr D 0] :: pubs) us → J 0 w M → Calls P f us.toArray w (iterPost encs.length J Jx resD resS) := by
  intro l J Jx tm hJ hJx hY hS w M us wf z hd hj
  obtain ⟨u, rfl⟩ : ∃ u, D = u + 1 := ⟨D - 1, by have := hD.1; omega⟩
  have hat : ∀ k w M, Wf w M → J k w M → ∃ b, M b = some (u + 1) ∧ tm.getD sd undef = .pointer (some ⟨b, 0, none⟩) ∧ ∃ cs : Array Value, w.heap[b]? = some (.cells cs Tb (0, 0)) ∧ cs.toList.take vs.length = vs := fun k w M wf hj => by
    obtain ⟨g1, g2⟩ := hS k w M hj
    have g3 := g1 sd hsn
    rw [hsd] at g3
    obtain ⟨b, hb, e⟩ := g3
    obtain ⟨b', cs, hb', hh, hds⟩ := g2 _ (htD k)
    have := wf.inj b b' u hD.2 hb hb'
    subst this
    obtain ⟨v1, v2, e2, d1, d2⟩ := dens_cutX hds
    rw [dens_ex_eq d1] at e2
    exact ⟨b, hb, e, cs, hh, by rw [e2, List.take_left']; rfl⟩
  obtain ⟨b, hb, eb, _⟩ := hat 0 w M wf hj
  have hX : XB b (u + 1) Tb vs J := fun k w' M' wf' hj' => by
    obtain ⟨b', hb', eb', cs, hh, hcs⟩ := hat k w' M' wf' hj'
    rw [eb] at eb'
    injection eb' with eb'
    injection eb' with eb'
    injection eb' with eb' _ _
    subst eb'
    exact ⟨hb', cs, hh, hcs⟩
  refine (hI b).2 l J Jx hJ hJx hX hY w M us wf z ?_ ((hS 0 w M hj).2 _ htf) hj
  match us, hd with
  | u1 :: u2 :: us, ⟨d1, ⟨q, off, e, m1, m2, m3⟩, d3⟩ =>
    refine ⟨d1, ⟨q, off, e, m1, m2, fun i t hi => ?_⟩, d3⟩
    cases i with
    | succ i => cases hi
    | zero =>
      obtain ⟨x, hx, b', hb', ex⟩ := m3 0 _ rfl
      have := wf.inj b b' u hD.2 hb hb'
      subst this
      injection hi with hi
      subst hi
      exact ⟨x, hx, ex⟩
end
end Go.T

namespace Go.Proofs.YtelbollidfdcjaaGreat
open Go Go.T
set_option maxHeartbeats 4000000
section
variable {y : Yard}
theorem cells_mul (hr : y.Right) : (y.bins.length : Int) * y.days = (y.cells : Nat) := by
  rw [← D_eq hr]; unfold Yard.cells; simp
theorem cells_le (hr : y.Right) : y.cells ≤ 20 := by
  have h1 := hr.bins; have h2 := hr.days; have h3 := D_eq hr
  have := Nat.mul_le_mul (show y.bins.length ≤ 4 by omega) (show y.D ≤ 5 by omega)
  unfold Yard.cells; omega
theorem cell_bnd {s d : Int} (hs : 0 ≤ s ∧ s ≤ 4) (hd : 0 ≤ d ∧ d ≤ 6) : 0 ≤ s * d ∧ s * d ≤ 24 := by
  have : s = 0 ∨ s = 1 ∨ s = 2 ∨ s = 3 ∨ s = 4 := by omega
  rcases this with e | e | e | e | e <;> subst e <;> omega
def leastL (n : Int) (l : List Int) : Int := l.foldl min n
theorem least_zero (n : Int) (l : List Int) : leastL n (l.take 0) = n := rfl
theorem least_succ {n : Int} {l : List Int} {k : Nat} (h : k < l.length) : min (leastL n (l.take k)) (nth l k) = leastL n (l.take (k + 1)) := by
  unfold leastL; rw [take_nth h, List.foldl_append]; rfl
def allUp (k : Nat) : List Bool := List.replicate k true ++ List.replicate (8 - k) false
def allC : List Bool := List.replicate 8 true
theorem allUp_len {k : Nat} (h : k ≤ 8) : (allUp k).length = 8 := by unfold allUp; rw [List.length_append, List.length_replicate, List.length_replicate]; omega
theorem allUp_succ {k : Nat} (h : k < 8) : (allUp k).set k true = allUp (k + 1) := by
  unfold allUp
  rw [List.set_append_right _ _ (by simp), List.length_replicate, Nat.sub_self, show 8 - k = (8 - (k + 1)) + 1 by omega, List.replicate_succ, List.set_cons_zero, List.replicate_succ', List.append_assoc]; rfl
theorem cell_o (hr : y.Right) {s d : Int} (h : s = -1) : ((y.cells : Nat) : Int) = y.cell s d := by rw [h, cell_out hr]
theorem cell_i {s d : Int} (h : ¬ s = -1) : s * y.days + d = y.cell s d := (if_neg h).symm
theorem kept_nat (hr : y.Right) {b t : Nat} : (b : Int) * (y.days + 1) + t = (y.kept b t : Nat) := by
  rw [← D_eq hr]; unfold Yard.kept; simp
end
attribute [local irreducible] Yard.cell Yard.kept Yard.cells leastL
attribute [local irreducible] dInt dBool dSl dPp dPtr dAgg dTup dClo dAny dEx dStr dGd dCells dVec dVs dRow dOp nth Tri Into TOps Ctr bodyPost Exit.then Exit.inBlock Code.wp Code.wpIn dWhen dPa dPe dAo dArr dMp dPm dMap dCJ CtrG CtrI OpY keepPost iterPost bodyPostM roundQ
set_option maxRecDepth 100000 in
theorem c_least (n : Int) (l : List Int) : Ctr Tryz.prog 180 [Ty.int .i64 n, Ty.sl I64 l] (Ty.int .i64 (leastL n l)) := by
  refine fn_intro Tryz.func180 rfl (by decide) Tryz.ntmps180 (by exact Nat.le_of_ble_eq_true rfl) fun w0 M0 => ?_
  refine t_fact (s := 1) rfl rfl sl_len fun hln => ?_
  refine t_seq ?_
  refine t_region ?_
  refine asI rfl ?_
  refine r_nil ?_
  refine i_then ?_
  refine t_seq ?_
  refine t_seq ?_
  refine t_region ?_
  refine mvS rfl ?_
  refine r_len rfl rfl rfl ?_
  refine mvI rfl ?_
  refine r_nil ?_
  refine i_then ?_
  refine t_block ?_
  refine t_loop (fun (k : {k : Nat // k ≤ l.length}) => live [(0, Ty.int .i64 (leastL n (l.take k.1))), (7, Ty.sl I64 l), (8, Ty.int .i64 l.length), (9, Ty.int .i64 (k.1 : Nat))] []) (fun k => l.length - k.1) (⟨0, by omega⟩) ?_ fun k => ?_
  · (refine Ent.mk' ?_ ?_ <;> (repeat' (first | exact allSub_zero | exact allTags_nil | refine allSub_succ' ?_ (Ty.sub_any _) | refine allSub_succ' ?_ (Ty.sub_refl _) | refine allSub_succ' ?_ ?_)))
    all_goals exact Ty.sub_int (least_zero n l).symm
  ·
    refine t_seq ?_
    refine t_region ?_
    refine r_bin rfl rfl rfl ?_
    refine r_nil ?_
    refine i_then ?_
    refine t_seq ?_
    refine t_cond_dec rfl (fun hc1 => ?_) (fun hc1 => ?_)
    ·
      refine t_skip ?_
      refine i_then ?_
      refine t_seq ?_
      refine t_block ?_
      refine t_seq ?_
      refine t_region ?_
      refine r_index_slN rfl rfl rfl rfl rfl rfl (by omega) ?_
      refine r_load_pp rfl rfl rfl rfl ?_
      refine asI rfl ?_
      refine r_nil ?_
      refine i_then ?_
      refine t_region ?_
      refine mvI rfl ?_
      refine mvI rfl ?_
      refine r_min rfl rfl ?_
      refine asI rfl ?_
      refine r_nil ?_
      refine i_block ?_
      refine i_then ?_
      refine t_region ?_
      refine r_add rfl rfl (by omega) (by omega) ?_
      refine mvI rfl ?_
      refine r_nil ?_
      refine i_round (⟨k.1 + 1, by omega⟩) ?_ (by show l.length - (k.1 + 1) < l.length - k.1; omega)
      (refine Ent.mk' ?_ ?_ <;> (repeat' (first | exact allSub_zero | exact allTags_nil | refine allSub_succ' ?_ (Ty.sub_any _) | refine allSub_succ' ?_ (Ty.sub_refl _) | refine allSub_succ' ?_ ?_)))
      all_goals skip
      all_goals exact Ty.sub_int (least_succ (by omega))
    ·
      refine t_exit ?_
      refine i_then_exit ?_
      refine i_then_exit ?_
      refine i_block_exit rfl ?_
      refine i_then ?_
      refine t_seq ?_
      refine t_region ?_
      refine mvI rfl ?_
      refine asI rfl ?_
      refine r_nil ?_
      refine i_then ?_
      refine t_ret ?_
      refine i_rp1 rfl rfl ?_
      all_goals skip
      all_goals exact ret_eq rfl rfl (congrArg (Ty.int .i64) (by rw [List.take_of_length_le (by have := k.2; omega)]))
set_option maxRecDepth 100000 in
theorem c_all : Ctr Tryz.prog 118 [] (Ty.arr BoolE allC) := by
  refine fn_intro Tryz.func118 rfl (by decide) Tryz.ntmps118 (by exact Nat.le_of_ble_eq_true rfl) fun w0 M0 => ?_
  refine t_seq ?_
  refine t_region ?_
  refine r_alloc rfl (by exact List.cons_ne_nil _ _) rfl ?_
  refine r_nil ?_
  refine i_then ?_
  refine t_seq ?_
  refine t_region ?_
  refine r_allocV (E := BoolE) (xs := List.replicate 8 false) rfl (by exact List.cons_ne_nil _ _) rfl rfl ?_
  refine r_nil ?_
  refine i_then ?_
  refine t_seq ?_
  refine t_seq ?_
  refine t_region ?_
  refine mvI rfl ?_
  refine r_nil ?_
  refine i_then ?_
  refine t_block ?_
  refine t_loop (fun (k : {k : Nat // k ≤ 8}) => live [(0, Ty.ptr 1 0), (1, Ty.ptr 2 0), (3, Ty.int .i64 (k.1 : Nat))] [(1, Cont.cells 180 [Ty.bool false, Ty.bool false, Ty.bool false, Ty.bool false, Ty.bool false, Ty.bool false, Ty.bool false, Ty.bool false]), (2, Cont.vec BoolE 180 (allUp k.1))]) (fun k => 8 - k.1) (⟨0, by omega⟩) ?_ fun k => ?_
  · (refine Ent.mk' ?_ ?_ <;> (repeat' (first | exact allSub_zero | exact allTags_nil | refine allSub_succ' ?_ (Ty.sub_any _) | refine allSub_succ' ?_ (Ty.sub_refl _) | refine allTags_cons rfl (Cont.sub_refl _) ?_)))
  ·
    have hkl := allUp_len k.2
    refine t_seq ?_
    refine t_region ?_
    refine r_bin rfl rfl rfl ?_
    refine r_nil ?_
    refine i_then ?_
    refine t_seq ?_
    refine t_cond_dec rfl (fun hc1 => ?_) (fun hc1 => ?_)
    ·
      refine t_skip ?_
      refine i_then ?_
      refine t_seq ?_
      refine t_block ?_
      refine t_seq ?_
      refine t_region ?_
      refine mvI rfl ?_
      refine asI rfl ?_
      refine r_nil ?_
      refine i_then ?_
      refine t_region ?_
      refine mvI rfl ?_
      refine r_index_ptrI (n := 8) rfl rfl rfl rfl rfl (by omega) (by omega) ?_
      refine r_store_vecA rfl rfl rfl (by decide) rfl rfl (by exact (rfl : _ = Ty.bool _)) rfl (by omega) (by decide) rfl rfl ?_
      refine r_nil ?_
      refine i_block ?_
      refine i_then ?_
      refine t_region ?_
      refine r_add rfl rfl (by omega) (by omega) ?_
      refine mvI rfl ?_
      refine r_nil ?_
      refine i_round (⟨k.1 + 1, by omega⟩) ?_ (by show 8 - (k.1 + 1) < 8 - k.1; omega)
      (refine Ent.mk' ?_ ?_ <;> (repeat' (first | exact allSub_zero | exact allTags_nil | refine allSub_succ' ?_ (Ty.sub_any _) | refine allSub_succ' ?_ (Ty.sub_refl _) | refine allTags_cons rfl (Cont.sub_refl _) ?_ | refine allTags_cons rfl ?_ ?_)))
      all_goals skip
      all_goals exact Cont.sub_vec (allUp_succ (by omega))
    ·
      refine t_exit ?_
      refine i_then_exit ?_
      refine i_then_exit ?_
      refine i_block_exit rfl ?_
      refine i_then ?_
      refine t_seq ?_
      obtain ⟨k, hk⟩ := k
      obtain rfl : k = 8 := by have h1 : ¬ (k : Int) < 8 := hc1; have h2 : k ≤ 8 := hk; omega
      have hkl := allUp_len hk
      refine t_region ?_
      refine r_load_vecN rfl rfl (by decide) rfl rfl (by rw [hkl]; rfl) (fun e => by rw [e] at hkl; cases hkl) ?_
      refine r_store_arr rfl rfl (by decide) rfl rfl (by rw [hkl]; rfl) rfl ?_
      refine r_nil ?_
      refine i_then ?_
      refine t_ret ?_
      refine i_rcella_eq (show allUp 8 = allC from rfl) rfl rfl rfl rfl (by decide) rfl rfl (by rw [hkl]; rfl) (fun e => by rw [e] at hkl; cases hkl)
set_option maxRecDepth 100000 in
theorem c_cells (y : Yard) (hr : y.Right) : Ctr Tryz.prog 131 [Ty.pp (yardTys y)] (Ty.int .i64 (y.cells : Nat)) := by
  refine fn_intro Tryz.func131 rfl (by decide) Tryz.ntmps131 (by exact Nat.le_of_ble_eq_true rfl) fun w0 M0 => ?_
  have hcm := cells_mul hr
  have hcl := cells_le hr
  refine t_seq ?_
  refine t_region ?_
  refine asI rfl ?_
  refine r_nil ?_
  refine i_then ?_
  refine t_seq ?_
  refine t_draw mixed rfl ?_
  refine mvP rfl ?_
  refine r_nilCheck_pp rfl ?_
  refine r_field_pp rfl rfl rfl rfl rfl (by decide) ?_
  refine r_field_pp rfl rfl rfl rfl rfl (by decide) ?_
  refine r_load_pp rfl rfl rfl rfl ?_
  refine r_len rfl rfl rfl ?_
  refine mvP rfl ?_
  refine r_nilCheck_pp rfl ?_
  refine r_field_pp rfl rfl rfl rfl rfl (by decide) ?_
  refine r_field_pp rfl rfl rfl rfl rfl (by decide) ?_
  refine r_load_pp rfl rfl rfl rfl ?_
  refine r_mul rfl rfl (by rw [hcm]; omega) (by rw [hcm]; omega) ?_
  refine asI rfl ?_
  refine r_nil ?_
  refine ⟨by kernel_rfl, ?_⟩
  refine i_then ?_
  refine t_ret ?_
  refine i_rp1 rfl rfl ?_
  all_goals skip
  all_goals exact ret_eq rfl rfl (congrArg (Ty.int .i64) hcm)
set_option maxRecDepth 100000 in
theorem c_cell (y : Yard) (hr : y.Right) (s d : Int) (hs : -1 ≤ s ∧ s < y.bins.length) (hd : 0 ≤ d ∧ d ≤ y.days) : Ctr Tryz.prog 132 [Ty.pp (yardTys y), Ty.int .i64 s, Ty.int .i64 d] (Ty.int .i64 (y.cell s d)) := by
  refine fn_intro Tryz.func132 rfl (by decide) Tryz.ntmps132 (by exact Nat.le_of_ble_eq_true rfl) fun w0 M0 => ?_
  have h1 := hr.bins
  have h2 := hr.days
  refine t_seq ?_
  refine t_region ?_
  refine asI rfl ?_
  refine r_nil ?_
  refine i_then ?_
  refine t_seq ?_
  refine t_seq ?_
  refine t_region ?_
  refine mvI rfl ?_
  refine r_bin rfl rfl rfl ?_
  refine r_nil ?_
  refine i_then ?_
  refine t_cond_dec rfl (fun hc1 => ?_) (fun hc1 => ?_)
  ·
    refine t_seq ?_
    refine t_region ?_
    refine mvP rfl ?_
    refine r_call (c_cells y hr) rfl rfl rfl rfl rfl ?_
    refine asI rfl ?_
    refine r_nil ?_
    refine i_then ?_
    refine t_ret ?_
    refine i_then_ret ?_
    refine i_rp1 rfl rfl ?_
    all_goals skip
    all_goals exact ret_eq rfl rfl (congrArg (Ty.int .i64) (cell_o hr hc1))
  ·
    refine t_skip ?_
    refine i_then ?_
    refine t_seq ?_
    have hb := cell_bnd (s := s) (d := y.days) (by omega) (by omega)
    refine t_region ?_
    refine mvI rfl ?_
    refine mvP rfl ?_
    refine r_nilCheck_pp rfl ?_
    refine r_field_pp rfl rfl rfl rfl rfl (by decide) ?_
    refine r_field_pp rfl rfl rfl rfl rfl (by decide) ?_
    refine r_load_pp rfl rfl rfl rfl ?_
    refine r_mul rfl rfl (by omega) (by omega) ?_
    refine mvI rfl ?_
    refine r_add rfl rfl (by omega) (by omega) ?_
    refine asI rfl ?_
    refine r_nil ?_
    refine i_then ?_
    refine t_ret ?_
    refine i_rp1 rfl rfl ?_
    all_goals skip
    all_goals exact ret_eq rfl rfl (congrArg (Ty.int .i64) (cell_i hc1))
set_option maxRecDepth 100000 in
theorem c_kept (y : Yard) (hr : y.Right) (b t : Nat) (hb : b < y.bins.length) (ht : t ≤ y.D) : Ctr Tryz.prog 89 [Ty.pp (yardTys y), Ty.int .i64 (b : Nat), Ty.int .i64 (t : Nat)] (Ty.int .i64 (y.kept b t : Nat)) := by
  refine fn_intro Tryz.func89 rfl (by decide) Tryz.ntmps89 (by exact Nat.le_of_ble_eq_true rfl) fun w0 M0 => ?_
  have h1 := hr.bins
  have h2 := hr.days
  have h3 := D_eq hr
  have h4 := cell_bnd (s := (b : Nat)) (d := y.days + 1) (by omega) (by omega)
  refine t_seq ?_
  refine t_region ?_
  refine asI rfl ?_
  refine r_nil ?_
  refine i_then ?_
  refine t_seq ?_
  refine t_region ?_
  refine mvI rfl ?_
  refine mvP rfl ?_
  refine r_nilCheck_pp rfl ?_
  refine r_field_pp rfl rfl rfl rfl rfl (by decide) ?_
  refine r_field_pp rfl rfl rfl rfl rfl (by decide) ?_
  refine r_load_pp rfl rfl rfl rfl ?_
  refine r_add rfl rfl (by omega) (by omega) ?_
  refine r_mul rfl rfl (by omega) (by omega) ?_
  refine mvI rfl ?_
  refine r_add rfl rfl (by omega) (by omega) ?_
  refine asI rfl ?_
  refine r_nil ?_
  refine i_then ?_
  refine t_ret ?_
  refine i_rp1 rfl rfl ?_
  all_goals skip
  all_goals exact ret_eq rfl rfl (congrArg (Ty.int .i64) (kept_nat hr))
end Go.Proofs.YtelbollidfdcjaaGreat

namespace Go.Proofs.YtelbollidfdcjaaGreat
open Go Go.T
set_option maxHeartbeats 8000000
def flowEnc (f : Flow) : List Ty := [Ty.agg (FlowE.tys f)]
section
variable {y : Yard} {c : Nat → Bool} {b t : Nat}
def srcI (y : Yard) (b t : Nat) : Int := if 0 < t then y.cell b ((t : Int) - 1) else (y.cells : Nat)
def dstI (y : Yard) (b t : Nat) : Int := if t < y.D then y.cell b t else (y.cells : Nat)
def flowTys (s d : Int) (k : Span) : List Ty := [Ty.int .i64 s, Ty.int .i64 d, Ty.int .i64 k.lo, Ty.int .i64 k.hi]
theorem src_yes (h : (t : Int) > 0) : y.cell b ((t : Int) - 1) = srcI y b t := (if_pos (by omega)).symm
theorem src_no (h : ¬ (t : Int) > 0) : ((y.cells : Nat) : Int) = srcI y b t := (if_neg (by omega)).symm
theorem dst_yes (hr : y.Right) (h : (t : Int) < y.days) : y.cell b t = dstI y b t := (if_pos (by have := D_eq hr; omega)).symm
theorem dst_no (hr : y.Right) (h : ¬ (t : Int) < y.days) : ((y.cells : Nat) : Int) = dstI y b t := (if_neg (by have := D_eq hr; omega)).symm
theorem sp_yes (h : (t : Int) > 0) : 0 = (span0 y b t).lo ∧ (nth y.bins b).holds = (span0 y b t).hi := by unfold span0; rw [if_pos (by omega)]; exact ⟨rfl, rfl⟩
theorem sp_no (h : ¬ (t : Int) > 0) : max 0 (nth y.bins b).first.lo = (span0 y b t).lo ∧ leastL (nth y.bins b).holds [(nth y.bins b).first.hi] = (span0 y b t).hi := by unfold span0; rw [if_neg (by omega)]; exact ⟨rfl, rfl⟩
theorem lev_yes {s : Span} {k : Nat} (h : ((c k && decide ((nth y.levels k).bin = b)) && decide ((nth y.levels k).day = t)) = true) : max (levUp y c b t s k).lo (nth y.levels k).sacks.lo = (levUp y c b t s (k + 1)).lo ∧ leastL (levUp y c b t s k).hi [(nth y.levels k).sacks.hi] = (levUp y c b t s (k + 1)).hi := by
  show _ = (if _ then _ else _ : Span).lo ∧ _ = (if _ then _ else _ : Span).hi
  rw [if_pos h]; exact ⟨rfl, rfl⟩
theorem lev_no {s : Span} {k : Nat} (h : ((c k && decide ((nth y.levels k).bin = b)) && decide ((nth y.levels k).day = t)) = false) : (levUp y c b t s k).lo = (levUp y c b t s (k + 1)).lo ∧ (levUp y c b t s k).hi = (levUp y c b t s (k + 1)).hi := by
  show _ = (if _ then _ else _ : Span).lo ∧ _ = (if _ then _ else _ : Span).hi
  rw [if_neg (by rw [h]; decide)]; exact ⟨rfl, rfl⟩
theorem lev_zero (s : Span) : s.lo = (levUp y c b t s 0).lo ∧ s.hi = (levUp y c b t s 0).hi := ⟨rfl, rfl⟩
theorem lev_end {s : Span} {k : Nat} (hk : k ≤ y.levels.length) (h : ¬ (k : Int) < (y.levels.length : Int)) : levUp y c b t s k = levUp y c b t s y.levels.length := by rw [show k = y.levels.length by omega]
theorem flow_at (hb : b < y.bins.length) (ht : t ≤ y.D) : flowEnc (nth (flowsY y c) (b * (y.D + 1) + t)) = [Ty.agg (flowTys (srcI y b t) (dstI y b t) (levUp y c b t (span0 y b t) y.levels.length))] := congrArg flowEnc (flow_kept (c := c) hb ht)
theorem flow_mv {i : Nat} (hi : i < y.moves.length) : flowEnc (nth (flowsY y c) (y.bins.length * (y.D + 1) + i)) = [Ty.agg [Ty.int .i64 (y.cell (nth y.moves i).src (nth y.moves i).day), Ty.int .i64 (y.cell (nth y.moves i).dst (nth y.moves i).day), Ty.int .i64 (nth y.moves i).sacks.lo, Ty.int .i64 (nth y.moves i).sacks.hi]] := congrArg flowEnc (flow_move (c := c) hi)
theorem kept_in (hb : b < y.bins.length) (ht : t ≤ y.D) : b * (y.D + 1) + t < (flowsY y c).length := by
  rw [flows_len]; have h := kept_lt hb ht; unfold Yard.kept at h; omega
theorem ck_eq {J : Nat → World → Tags → Prop} (hJ : ∀ k, Cb (J k)) {m k : Nat} (e : m = k) : (Cont.ck (hJ m)).Sub (Cont.ck (hJ k)) := Cont.sub_ck hJ e
end
attribute [local irreducible] Yard.cell Yard.cells leastL srcI dstI span0 levUp flowsY
attribute [local irreducible] dInt dBool dSl dPp dPtr dAgg dTup dClo dAny dEx dStr dGd dCells dVec dVs dRow dOp nth Tri Into TOps Ctr bodyPost Exit.then Exit.inBlock Code.wp Code.wpIn dWhen dPa dPe dAo dArr dMp dPm dMap dCJ CtrG CtrI OpY keepPost iterPost bodyPostM roundQ
set_option maxRecDepth 100000 in
theorem c_each1 (y : Yard) (hr : y.Right) (c8 : List Bool) (hc8 : c8.length = 8) (b D : Nat) (hD : D < 4096) (vs : List Value) : CtrIX Tryz.prog 196 b D 185 vs (yardTys y) (fun l => [Ty.ex (yv l), Ty.pp [Ty.ex (.pointer (some ⟨b, 0, none⟩))], Ty.pa BoolE c8 0]) ((flowsY y (nth c8)).map flowEnc) (Ty.tup []) (Ty.tup []) := by
  refine fnIX_intro rfl rfl Tryz.func196 rfl (by decide) Tryz.ntmps196 (fun _ => by exact Nat.le_of_ble_eq_true rfl) (fun _ => ⟨rfl, rfl⟩) fun l J Jx hJ hJx hX hY w0 M0 => ?_
  have h1 := hr.bins
  have h2 := hr.days
  have h3 := D_eq hr
  have h4 := hr.moves
  have h5 := hr.levels
  refine t_seq ?_
  refine t_seq ?_
  refine t_region ?_
  refine r_load_pp rfl rfl rfl rfl ?_
  refine r_nilCheckX rfl ?_
  refine r_fieldX rfl rfl rfl rfl rfl (by decide) ?_
  refine r_fieldX rfl rfl rfl rfl rfl (by decide) ?_
  refine r_loadJ hX rfl rfl rfl rfl rfl rfl ?_
  refine r_len rfl rfl rfl ?_
  refine mvI rfl ?_
  refine r_nil ?_
  refine i_then ?_
  refine t_block ?_
  refine t_loop (fun (k : {k : Nat // k ≤ y.bins.length}) => live [(0, Ty.ex (yv l)), (1, Ty.pp [Ty.ex (.pointer (some ⟨b, 0, none⟩))]), (2, Ty.pa BoolE c8 0), (16, Ty.sl BinE y.bins), (17, Ty.int .i64 y.bins.length), (18, Ty.int .i64 (k.1 : Nat))] [(7000, Cont.ck (hJ (k.1 * (y.D + 1)))), (4000, Cont.fact (yardTys y) vs rfl rfl)]) (fun k => y.bins.length - k.1) (⟨0, by omega⟩) ?_ fun k => ?_
  · (refine Ent.mk' ?_ ?_ <;> (repeat' (first | exact allSub_zero | exact allTags_nil | refine allSub_succ' ?_ (Ty.sub_any _) | refine allSub_succ' ?_ (Ty.sub_refl _) | refine allTags_cons rfl (Cont.sub_refl _) ?_ | refine allTags_cons rfl ?_ ?_)))
    all_goals exact ck_eq hJ (Nat.zero_mul _).symm
  ·
    refine t_seq ?_
    refine t_region ?_
    refine r_bin rfl rfl rfl ?_
    refine r_nil ?_
    refine i_then ?_
    refine t_seq ?_
    refine t_cond_dec rfl (fun hc1 => ?_) (fun hc1 => ?_)
    ·
      refine t_skip ?_
      refine i_then ?_
      refine t_seq ?_
      refine t_block ?_
      refine t_seq ?_
      refine t_region ?_
      refine mvI rfl ?_
      refine r_index_slN rfl rfl rfl rfl rfl rfl (by omega) ?_
      refine r_load_ppN rfl rfl rfl (by exact Nat.le_of_ble_eq_true rfl) ?_
      refine r_alloc rfl (by exact List.cons_ne_nil _ _) rfl ?_
      refine asI rfl ?_
      refine r_storeN rfl rfl (by decide) rfl rfl rfl rfl rfl rfl ?_
      refine r_nil ?_
      refine i_then ?_
      refine t_seq ?_
      refine t_region ?_
      refine r_load_pp rfl rfl rfl rfl ?_
      refine r_nilCheckX rfl ?_
      refine r_fieldX rfl rfl rfl rfl rfl (by decide) ?_
      refine r_fieldX rfl rfl rfl rfl rfl (by decide) ?_
      refine r_loadJ hX rfl rfl rfl rfl rfl rfl ?_
      refine r_add rfl rfl (by omega) (by omega) ?_
      refine mvI rfl ?_
      refine r_nil ?_
      refine i_then ?_
      refine t_block ?_
      refine t_loop (fun (t : {t : Nat // t ≤ y.D + 1}) => live [(0, Ty.ex (yv l)), (1, Ty.pp [Ty.ex (.pointer (some ⟨b, 0, none⟩))]), (2, Ty.pa BoolE c8 0), (4, Ty.int .i64 (k.1 : Nat)), (5, Ty.ptr 6 0), (16, Ty.sl BinE y.bins), (17, Ty.int .i64 y.bins.length), (18, Ty.int .i64 (k.1 : Nat)), (28, Ty.int .i64 (y.days + 1)), (29, Ty.int .i64 (t.1 : Nat))] [(6, Cont.cells 39 (BinE.tys (nth y.bins k.1))), (7000, Cont.ck (hJ (k.1 * (y.D + 1) + t.1))), (4000, Cont.fact (yardTys y) vs rfl rfl)]) (fun t => y.D + 1 - t.1) (⟨0, by omega⟩) ?_ fun t => ?_
      · (refine Ent.mk' ?_ ?_ <;> (repeat' (first | exact allSub_zero | exact allTags_nil | refine allSub_succ' ?_ (Ty.sub_any _) | refine allSub_succ' ?_ (Ty.sub_refl _) | refine allTags_cons rfl (Cont.sub_refl _) ?_)))
      ·
        refine t_seq ?_
        refine t_region ?_
        refine r_bin rfl rfl rfl ?_
        refine r_nil ?_
        refine i_then ?_
        refine t_seq ?_
        refine t_cond_dec rfl (fun hc2 => ?_) (fun hc2 => ?_)
        ·
          refine t_skip ?_
          refine i_then ?_
          refine t_seq ?_
          refine t_block ?_
          refine t_seq ?_
          refine t_region ?_
          refine mvI rfl ?_
          refine asI rfl ?_
          refine r_nil ?_
          refine i_then ?_
          refine t_seq ?_
          refine t_draw mixed rfl ?_
          refine r_load_pp rfl rfl rfl rfl ?_
          refine r_callLC [7000, 4000] (c_cells y hr) rfl (lendcs_cons (lendc_J hX hD rfl rfl rfl rfl) lendcs_nil) (by exact plain_int _ _) ?_
          refine r_load_pp rfl rfl rfl rfl ?_
          refine r_callLC [7000, 4000] (c_cells y hr) rfl (lendcs_cons (lendc_J hX hD rfl rfl rfl rfl) lendcs_nil) (by exact plain_int _ _) ?_
          refine r_field_ptr rfl rfl rfl rfl rfl (by decide) ?_
          refine r_load_ptr rfl rfl (by decide) rfl rfl rfl ?_
          refine r_build rfl rfl (by exact List.cons_ne_nil _ _) rfl (by repeat (first | exact (Parts.nil : Parts _ _ [] _) | (show Parts _ _ ((_, _) :: _) _; apply Parts.one; (· exact (rfl : _ = Ty.int _ _)); (· exact rfl)))) (by exact (rfl : _ = some [_, _, _, _])) ?_
          refine r_alloc rfl (by exact List.cons_ne_nil _ _) rfl ?_
          refine r_storeN rfl rfl (by decide) rfl rfl rfl rfl rfl rfl ?_
          refine r_nil ?_
          refine ⟨by kernel_rfl, ?_⟩
          refine i_then ?_
          refine t_join (J := live [(0, Ty.ex (yv l)), (1, Ty.pp [Ty.ex (.pointer (some ⟨b, 0, none⟩))]), (2, Ty.pa BoolE c8 0), (4, Ty.int .i64 (k.1 : Nat)), (5, Ty.ptr 6 0), (6, Ty.int .i64 (t.1 : Nat)), (7, Ty.ptr 8 0), (16, Ty.sl BinE y.bins), (17, Ty.int .i64 y.bins.length), (18, Ty.int .i64 (k.1 : Nat)), (28, Ty.int .i64 (y.days + 1)), (29, Ty.int .i64 (t.1 : Nat))] [(6, Cont.cells 39 (BinE.tys (nth y.bins k.1))), (8, Cont.cells 187 [Ty.int .i64 (srcI y k.1 t.1), Ty.int .i64 (y.cells : Nat), Ty.int .i64 (span0 y k.1 t.1).lo, Ty.int .i64 (span0 y k.1 t.1).hi]), (7000, Cont.ck (hJ (k.1 * (y.D + 1) + t.1))), (4000, Cont.fact (yardTys y) vs rfl rfl)]) ?_ ?_
          ·
            refine t_seq ?_
            refine t_region ?_
            refine mvI rfl ?_
            refine r_bin rfl rfl rfl ?_
            refine r_nil ?_
            refine i_then ?_
            refine t_cond_dec rfl (fun hc3 => ?_) (fun hc3 => ?_)
            ·
              refine t_region ?_
              refine r_load_pp rfl rfl rfl rfl ?_
              refine mvI rfl ?_
              refine mvI rfl ?_
              refine r_sub rfl rfl (by omega) (by omega) ?_
              refine r_callLC [7000, 4000] (c_cell y hr (k.1 : Nat) ((t.1 : Int) - 1) (by omega) (by omega)) rfl (lendcs_cons (lendc_J hX hD rfl rfl rfl rfl) (lendcs_cons (lendc_of (lend_pub rfl rfl)) (lendcs_cons (lendc_of (lend_pub rfl rfl)) lendcs_nil))) (by exact plain_int _ _) ?_
              refine r_field_ptr rfl rfl rfl rfl rfl (by decide) ?_
              refine r_store1 rfl rfl (by decide) rfl rfl (by exact (rfl : _ = Ty.int _ _)) rfl (by exact Nat.le_of_ble_eq_true rfl) rfl rfl (by exact rfl) ?_
              refine r_nil ?_
              refine i_join ?_
              (refine Ent.mk' ?_ ?_ <;> (repeat' (first | exact allSub_zero | exact allTags_nil | exact subs_nil | refine allSub_succ' ?_ (Ty.sub_any _) | refine allSub_succ' ?_ (Ty.sub_refl _) | refine allTags_cons rfl (Cont.sub_refl _) ?_ | refine allTags_cons rfl (Cont.sub_subs ?_) ?_ | refine subs_cons ?_ (Ty.sub_refl _) | refine subs_cons ?_ ?_)))
              all_goals first | exact Ty.sub_int (src_yes hc3) | exact Ty.sub_int (sp_yes hc3).1 | exact Ty.sub_int (sp_yes hc3).2
            ·
              refine t_draw mixed rfl ?_
              refine r_field_ptr rfl rfl rfl rfl rfl (by decide) ?_
              refine r_field_ptr rfl rfl rfl rfl rfl (by decide) ?_
              refine r_load_ptr rfl rfl (by decide) rfl rfl rfl ?_
              refine r_max rfl rfl ?_
              refine r_field_ptr rfl rfl rfl rfl rfl (by decide) ?_
              refine r_load_ptr rfl rfl (by decide) rfl rfl rfl ?_
              refine r_field_ptr rfl rfl rfl rfl rfl (by decide) ?_
              refine r_field_ptr rfl rfl rfl rfl rfl (by decide) ?_
              refine r_load_ptr rfl rfl (by decide) rfl rfl rfl ?_
              refine r_buildSlice (E := I64) (xs := [_]) rfl rfl rfl rfl rfl (by decide) (by decide) (by repeat (first | exact (Parts.nil : Parts _ _ [] _) | (show Parts _ _ ((_, _) :: _) _; apply Parts.one; (· exact (rfl : _ = Ty.int _ _)); (· exact rfl)))) (by exact rfl) rfl ?_
              refine r_call (c_least _ _) rfl rfl rfl rfl rfl ?_
              refine r_field_ptr rfl rfl rfl rfl rfl (by decide) ?_
              refine r_store1 rfl rfl (by decide) rfl rfl (by exact (rfl : _ = Ty.int _ _)) rfl (by exact Nat.le_of_ble_eq_true rfl) rfl rfl (by exact rfl) ?_
              refine r_field_ptr rfl rfl rfl rfl rfl (by decide) ?_
              refine r_store1 rfl rfl (by decide) rfl rfl (by exact (rfl : _ = Ty.int _ _)) rfl (by exact Nat.le_of_ble_eq_true rfl) rfl rfl (by exact rfl) ?_
              refine r_nil ?_
              refine ⟨by kernel_rfl, ?_⟩
              refine i_join ?_
              (refine Ent.mk' ?_ ?_ <;> (repeat' (first | exact allSub_zero | exact allTags_nil | exact subs_nil | refine allSub_succ' ?_ (Ty.sub_any _) | refine allSub_succ' ?_ (Ty.sub_refl _) | refine allTags_cons rfl (Cont.sub_refl _) ?_ | refine allTags_cons rfl (Cont.sub_subs ?_) ?_ | refine subs_cons ?_ (Ty.sub_refl _) | refine subs_cons ?_ ?_)))
              all_goals first | exact Ty.sub_int (src_no hc3) | exact Ty.sub_int (sp_no hc3).1 | exact Ty.sub_int (sp_no hc3).2
          ·
            refine t_join (J := live [(0, Ty.ex (yv l)), (1, Ty.pp [Ty.ex (.pointer (some ⟨b, 0, none⟩))]), (2, Ty.pa BoolE c8 0), (4, Ty.int .i64 (k.1 : Nat)), (5, Ty.ptr 6 0), (6, Ty.int .i64 (t.1 : Nat)), (7, Ty.ptr 8 0), (16, Ty.sl BinE y.bins), (17, Ty.int .i64 y.bins.length), (18, Ty.int .i64 (k.1 : Nat)), (28, Ty.int .i64 (y.days + 1)), (29, Ty.int .i64 (t.1 : Nat))] [(6, Cont.cells 39 (BinE.tys (nth y.bins k.1))), (8, Cont.cells 187 (flowTys (srcI y k.1 t.1) (dstI y k.1 t.1) (span0 y k.1 t.1))), (7000, Cont.ck (hJ (k.1 * (y.D + 1) + t.1))), (4000, Cont.fact (yardTys y) vs rfl rfl)]) ?_ ?_
            ·
              refine t_seq ?_
              refine t_region ?_
              refine mvI rfl ?_
              refine r_load_pp rfl rfl rfl rfl ?_
              refine r_nilCheckX rfl ?_
              refine r_fieldX rfl rfl rfl rfl rfl (by decide) ?_
              refine r_fieldX rfl rfl rfl rfl rfl (by decide) ?_
              refine r_loadJ hX rfl rfl rfl rfl rfl rfl ?_
              refine r_bin rfl rfl rfl ?_
              refine r_nil ?_
              refine i_then ?_
              refine t_cond_dec rfl (fun hc4 => ?_) (fun hc4 => ?_)
              ·
                refine t_region ?_
                refine r_load_pp rfl rfl rfl rfl ?_
                refine mvI rfl ?_
                refine mvI rfl ?_
                refine r_callLC [7000, 4000] (c_cell y hr (k.1 : Nat) (t.1 : Nat) (by omega) (by omega)) rfl (lendcs_cons (lendc_J hX hD rfl rfl rfl rfl) (lendcs_cons (lendc_of (lend_pub rfl rfl)) (lendcs_cons (lendc_of (lend_pub rfl rfl)) lendcs_nil))) (by exact plain_int _ _) ?_
                refine r_field_ptr rfl rfl rfl rfl rfl (by decide) ?_
                refine r_store1 rfl rfl (by decide) rfl rfl (by exact (rfl : _ = Ty.int _ _)) rfl (by exact Nat.le_of_ble_eq_true rfl) rfl rfl (by exact rfl) ?_
                refine r_nil ?_
                refine i_join ?_
                (refine Ent.mk' ?_ ?_ <;> (repeat' (first | exact allSub_zero | exact allTags_nil | exact subs_nil | refine allSub_succ' ?_ (Ty.sub_any _) | refine allSub_succ' ?_ (Ty.sub_refl _) | refine allTags_cons rfl (Cont.sub_refl _) ?_ | refine allTags_cons rfl (Cont.sub_subs ?_) ?_ | refine subs_cons ?_ (Ty.sub_refl _) | refine subs_cons ?_ ?_)))
                all_goals exact Ty.sub_int (dst_yes hr hc4)
              ·
                refine t_skip ?_
                refine i_join ?_
                (refine Ent.mk' ?_ ?_ <;> (repeat' (first | exact allSub_zero | exact allTags_nil | exact subs_nil | refine allSub_succ' ?_ (Ty.sub_any _) | refine allSub_succ' ?_ (Ty.sub_refl _) | refine allTags_cons rfl (Cont.sub_refl _) ?_ | refine allTags_cons rfl (Cont.sub_subs ?_) ?_ | refine subs_cons ?_ (Ty.sub_refl _) | refine subs_cons ?_ ?_)))
                all_goals exact Ty.sub_int (dst_no hr hc4)
            ·
              refine t_seq ?_
              refine t_seq ?_
              refine t_region ?_
              refine r_load_pp rfl rfl rfl rfl ?_
              refine r_nilCheckX rfl ?_
              refine r_fieldX rfl rfl rfl rfl rfl (by decide) ?_
              refine r_fieldX rfl rfl rfl rfl rfl (by decide) ?_
              refine r_loadJ hX rfl rfl rfl rfl rfl rfl ?_
              refine r_len rfl rfl rfl ?_
              refine mvI rfl ?_
              refine r_nil ?_
              refine i_then ?_
              refine t_block ?_
              refine t_loop (fun (i : {i : Nat // i ≤ y.levels.length}) => live [(0, Ty.ex (yv l)), (1, Ty.pp [Ty.ex (.pointer (some ⟨b, 0, none⟩))]), (2, Ty.pa BoolE c8 0), (4, Ty.int .i64 (k.1 : Nat)), (5, Ty.ptr 6 0), (6, Ty.int .i64 (t.1 : Nat)), (7, Ty.ptr 8 0), (16, Ty.sl BinE y.bins), (17, Ty.int .i64 y.bins.length), (18, Ty.int .i64 (k.1 : Nat)), (28, Ty.int .i64 (y.days + 1)), (29, Ty.int .i64 (t.1 : Nat)), (76, Ty.sl LevelE y.levels), (77, Ty.int .i64 y.levels.length), (78, Ty.int .i64 (i.1 : Nat))] [(6, Cont.cells 39 (BinE.tys (nth y.bins k.1))), (8, Cont.cells 187 (flowTys (srcI y k.1 t.1) (dstI y k.1 t.1) (levUp y (nth c8) k.1 t.1 (span0 y k.1 t.1) i.1))), (7000, Cont.ck (hJ (k.1 * (y.D + 1) + t.1))), (4000, Cont.fact (yardTys y) vs rfl rfl)]) (fun i => y.levels.length - i.1) (⟨0, by omega⟩) ?_ fun i => ?_
              · (refine Ent.mk' ?_ ?_ <;> (repeat' (first | exact allSub_zero | exact allTags_nil | exact subs_nil | refine allSub_succ' ?_ (Ty.sub_any _) | refine allSub_succ' ?_ (Ty.sub_refl _) | refine allTags_cons rfl (Cont.sub_refl _) ?_ | refine allTags_cons rfl (Cont.sub_subs ?_) ?_ | refine subs_cons ?_ (Ty.sub_refl _) | refine subs_cons ?_ ?_)))
                all_goals first | exact Ty.sub_int (lev_zero _).1 | exact Ty.sub_int (lev_zero _).2
              ·
                have hi := i.2
                refine t_seq ?_
                refine t_region ?_
                refine r_bin rfl rfl rfl ?_
                refine r_nil ?_
                refine i_then ?_
                refine t_seq ?_
                refine t_cond_dec rfl (fun hc5 => ?_) (fun hc5 => ?_)
                ·
                  refine t_skip ?_
                  refine i_then ?_
                  refine t_seq ?_
                  refine t_block ?_
                  refine t_seq ?_
                  refine t_region ?_
                  refine mvI rfl ?_
                  refine r_index_slN rfl rfl rfl rfl rfl rfl (by omega) ?_
                  refine r_load_ppN rfl rfl rfl (by exact Nat.le_of_ble_eq_true rfl) ?_
                  refine r_alloc rfl (by exact List.cons_ne_nil _ _) rfl ?_
                  refine asI rfl ?_
                  refine r_storeN rfl rfl (by decide) rfl rfl rfl rfl rfl rfl ?_
                  refine r_nil ?_
                  refine i_then ?_
                  refine t_seq ?_
                  refine t_region ?_
                  refine mvI rfl ?_
                  refine r_index_pa (n := 8) rfl rfl rfl rfl rfl (by omega) ?_
                  refine r_load_pa rfl rfl rfl (Nat.zero_add _) (by omega) rfl ?_
                  refine mvB rfl ?_
                  apply r_guard (s := 86) rfl rfl rfl
                  · intro hg; apply opT_of; (refine r_field_ptr rfl rfl rfl rfl rfl (by decide) ?_); refine r_nil ?_; exact rfl
                  · exact rfl
                  · exact rfl
                  apply r_guard (s := 86) rfl rfl rfl
                  · intro hg; apply opT_strip (s := 87) rfl (by (rw [hg]; rfl)); apply opT_of; (refine r_load_ptr rfl rfl (by decide) rfl rfl rfl ?_); refine r_nil ?_; exact rfl
                  · exact rfl
                  · exact rfl
                  apply r_guard (s := 86) rfl rfl rfl
                  · intro hg; apply opT_of; (refine mvI rfl ?_); refine r_nil ?_; exact rfl
                  · exact rfl
                  · exact rfl
                  apply r_guard (s := 86) rfl rfl rfl
                  · intro hg; apply opT_strip (s := 88) rfl (by (rw [hg]; rfl)); apply opT_strip (s := 89) rfl (by (rw [hg]; rfl)); apply opT_of; (refine r_bin rfl rfl rfl ?_); refine r_nil ?_; exact rfl
                  · exact rfl
                  · exact rfl
                  refine r_and rfl rfl ?_
                  refine mvB rfl ?_
                  apply r_guard (s := 92) rfl rfl rfl
                  · intro hg; apply opT_of; (refine r_field_ptr rfl rfl rfl rfl rfl (by decide) ?_); refine r_nil ?_; exact rfl
                  · exact rfl
                  · exact rfl
                  apply r_guard (s := 92) rfl rfl rfl
                  · intro hg; apply opT_strip (s := 93) rfl (by (rw [hg]; rfl)); apply opT_of; (refine r_load_ptr rfl rfl (by decide) rfl rfl rfl ?_); refine r_nil ?_; exact rfl
                  · exact rfl
                  · exact rfl
                  apply r_guard (s := 92) rfl rfl rfl
                  · intro hg; apply opT_of; (refine mvI rfl ?_); refine r_nil ?_; exact rfl
                  · exact rfl
                  · exact rfl
                  apply r_guard (s := 92) rfl rfl rfl
                  · intro hg; apply opT_strip (s := 94) rfl (by (rw [hg]; rfl)); apply opT_strip (s := 95) rfl (by (rw [hg]; rfl)); apply opT_of; (refine r_bin rfl rfl rfl ?_); refine r_nil ?_; exact rfl
                  · exact rfl
                  · exact rfl
                  refine r_and rfl rfl ?_
                  refine r_nil ?_
                  refine i_then ?_
                  refine t_cond rfl (fun hc6 => ?_) (fun hc6 => ?_)
                  ·
                    refine t_draw mixed rfl ?_
                    refine r_field_ptr rfl rfl rfl rfl rfl (by decide) ?_
                    refine r_load_ptr rfl rfl (by decide) rfl rfl rfl ?_
                    refine r_field_ptr rfl rfl rfl rfl rfl (by decide) ?_
                    refine r_field_ptr rfl rfl rfl rfl rfl (by decide) ?_
                    refine r_load_ptr rfl rfl (by decide) rfl rfl rfl ?_
                    refine r_max rfl rfl ?_
                    refine r_field_ptr rfl rfl rfl rfl rfl (by decide) ?_
                    refine r_load_ptr rfl rfl (by decide) rfl rfl rfl ?_
                    refine r_field_ptr rfl rfl rfl rfl rfl (by decide) ?_
                    refine r_field_ptr rfl rfl rfl rfl rfl (by decide) ?_
                    refine r_load_ptr rfl rfl (by decide) rfl rfl rfl ?_
                    refine r_buildSlice (E := I64) (xs := [_]) rfl rfl rfl rfl rfl (by decide) (by decide) (by repeat (first | exact (Parts.nil : Parts _ _ [] _) | (show Parts _ _ ((_, _) :: _) _; apply Parts.one; (· exact (rfl : _ = Ty.int _ _)); (· exact rfl)))) (by exact rfl) rfl ?_
                    refine r_call (c_least _ _) rfl rfl rfl rfl rfl ?_
                    refine r_field_ptr rfl rfl rfl rfl rfl (by decide) ?_
                    refine r_store1 rfl rfl (by decide) rfl rfl (by exact (rfl : _ = Ty.int _ _)) rfl (by exact Nat.le_of_ble_eq_true rfl) rfl rfl (by exact rfl) ?_
                    refine r_field_ptr rfl rfl rfl rfl rfl (by decide) ?_
                    refine r_store1 rfl rfl (by decide) rfl rfl (by exact (rfl : _ = Ty.int _ _)) rfl (by exact Nat.le_of_ble_eq_true rfl) rfl rfl (by exact rfl) ?_
                    refine r_nil ?_
                    refine ⟨by kernel_rfl, ?_⟩
                    refine i_block ?_
                    refine i_then ?_
                    refine t_region ?_
                    refine r_add rfl rfl (by omega) (by omega) ?_
                    refine mvI rfl ?_
                    refine r_nil ?_
                    refine i_round (⟨i.1 + 1, by omega⟩) ?_ (by show y.levels.length - (i.1 + 1) < y.levels.length - i.1; omega)
                    (refine Ent.mk' ?_ ?_ <;> (repeat' (first | exact allSub_zero | exact allTags_nil | exact subs_nil | refine allSub_succ' ?_ (Ty.sub_any _) | refine allSub_succ' ?_ (Ty.sub_refl _) | refine allTags_cons rfl (Cont.sub_refl _) ?_ | refine allTags_cons rfl (Cont.sub_subs ?_) ?_ | refine subs_cons ?_ (Ty.sub_refl _) | refine subs_cons ?_ ?_)))
                    all_goals skip
                    all_goals first | exact Ty.sub_int (lev_yes hc6).1 | exact Ty.sub_int (lev_yes hc6).2
                  ·
                    refine t_skip ?_
                    refine i_block ?_
                    refine i_then ?_
                    refine t_region ?_
                    refine r_add rfl rfl (by omega) (by omega) ?_
                    refine mvI rfl ?_
                    refine r_nil ?_
                    refine i_round (⟨i.1 + 1, by omega⟩) ?_ (by show y.levels.length - (i.1 + 1) < y.levels.length - i.1; omega)
                    (refine Ent.mk' ?_ ?_ <;> (repeat' (first | exact allSub_zero | exact allTags_nil | exact subs_nil | refine allSub_succ' ?_ (Ty.sub_any _) | refine allSub_succ' ?_ (Ty.sub_refl _) | refine allTags_cons rfl (Cont.sub_refl _) ?_ | refine allTags_cons rfl (Cont.sub_subs ?_) ?_ | refine subs_cons ?_ (Ty.sub_refl _) | refine subs_cons ?_ ?_)))
                    all_goals skip
                    all_goals first | exact Ty.sub_int (lev_no hc6).1 | exact Ty.sub_int (lev_no hc6).2
                ·
                  refine t_exit ?_
                  refine i_then_exit ?_
                  refine i_then_exit ?_
                  refine i_block_exit rfl ?_
                  refine i_then ?_
                  refine t_seq ?_
                  refine t_asC (tg := 8) rfl (Cont.sub_cells (congrArg (flowTys _ _) (lev_end i.2 hc5))) ?_
                  refine t_region ?_
                  refine mvX rfl ?_
                  refine r_load_ptrN rfl rfl (by decide) rfl rfl (by exact Nat.le_of_ble_eq_true rfl) ?_
                  refine r_yieldY hJ hJx hY rfl rfl rfl rfl rfl (get_enc (kept_in (by omega) (by omega)) (flow_at (by omega) (by omega))) rfl ?_
                  refine r_notY (h1 := hJ _) (hx := hJx) rfl ?_
                  refine r_nil ?_
                  refine i_then ?_
                  refine t_condY (h1 := hJ _) (hx := hJx) rfl ?_ ?_
                  ·
                    refine t_ret ?_
                    refine i_block_ret ?_
                    refine i_then_ret ?_
                    refine i_then_ret ?_
                    refine i_block_ret ?_
                    refine i_block_ret ?_
                    refine i_then_ret ?_
                    refine i_then_ret ?_
                    refine i_block_ret ?_
                    refine i_then_ret ?_
                    exact i_retXx rfl rfl
                  ·
                    refine t_skip ?_
                    refine i_block ?_
                    refine i_then ?_
                    refine t_region ?_
                    refine r_add rfl rfl (by omega) (by omega) ?_
                    refine mvI rfl ?_
                    refine r_nil ?_
                    refine i_round (⟨t.1 + 1, by omega⟩) ?_ (by show y.D + 1 - (t.1 + 1) < y.D + 1 - t.1; omega)
                    (refine Ent.mk' ?_ ?_ <;> (repeat' (first | exact allSub_zero | exact allTags_nil | refine allSub_succ' ?_ (Ty.sub_any _) | refine allSub_succ' ?_ (Ty.sub_refl _) | refine allTags_cons rfl (Cont.sub_refl _) ?_)))
                    all_goals skip
        ·
          refine t_exit ?_
          refine i_then_exit ?_
          refine i_then_exit ?_
          refine i_block_exit rfl ?_
          refine i_block ?_
          refine i_then ?_
          refine t_region ?_
          refine r_add rfl rfl (by omega) (by omega) ?_
          refine mvI rfl ?_
          refine r_nil ?_
          refine i_round (⟨k.1 + 1, by omega⟩) ?_ (by show y.bins.length - (k.1 + 1) < y.bins.length - k.1; omega)
          (refine Ent.mk' ?_ ?_ <;> (repeat' (first | exact allSub_zero | exact allTags_nil | refine allSub_succ' ?_ (Ty.sub_any _) | refine allSub_succ' ?_ (Ty.sub_refl _) | refine allTags_cons rfl (Cont.sub_refl _) ?_ | refine allTags_cons rfl ?_ ?_)))
          all_goals skip
          all_goals exact ck_eq hJ (show k.1 * (y.D + 1) + t.1 = (k.1 + 1) * (y.D + 1) by rw [Nat.succ_mul]; have := t.2; omega)
    ·
      refine t_exit ?_
      refine i_then_exit ?_
      refine i_then_exit ?_
      refine i_block_exit rfl ?_
      refine i_then ?_
      refine t_seq ?_
      refine t_region ?_
      refine r_load_pp rfl rfl rfl rfl ?_
      refine r_nilCheckX rfl ?_
      refine r_fieldX rfl rfl rfl rfl rfl (by decide) ?_
      refine r_fieldX rfl rfl rfl rfl rfl (by decide) ?_
      refine r_loadJ hX rfl rfl rfl rfl rfl rfl ?_
      refine r_len rfl rfl rfl ?_
      refine mvI rfl ?_
      refine r_nil ?_
      refine i_then ?_
      refine t_block ?_
      refine t_loop (fun (i : {i : Nat // i ≤ y.moves.length}) => live [(0, Ty.ex (yv l)), (1, Ty.pp [Ty.ex (.pointer (some ⟨b, 0, none⟩))]), (124, Ty.sl MoveE y.moves), (125, Ty.int .i64 y.moves.length), (126, Ty.int .i64 (i.1 : Nat))] [(7000, Cont.ck (hJ (y.bins.length * (y.D + 1) + i.1))), (4000, Cont.fact (yardTys y) vs rfl rfl)]) (fun i => y.moves.length - i.1) (⟨0, by omega⟩) ?_ fun i => ?_
      · (refine Ent.mk' ?_ ?_ <;> (repeat' (first | exact allSub_zero | exact allTags_nil | refine allSub_succ' ?_ (Ty.sub_any _) | refine allSub_succ' ?_ (Ty.sub_refl _) | refine allTags_cons rfl (Cont.sub_refl _) ?_ | refine allTags_cons rfl ?_ ?_)))
        all_goals exact ck_eq hJ (show k.1 * (y.D + 1) = y.bins.length * (y.D + 1) + 0 by rw [show k.1 = y.bins.length by have := k.2; omega]; rfl)
      ·
        refine t_seq ?_
        refine t_region ?_
        refine r_bin rfl rfl rfl ?_
        refine r_nil ?_
        refine i_then ?_
        refine t_seq ?_
        refine t_cond_dec rfl (fun hc8 => ?_) (fun hc8 => ?_)
        ·
          refine t_skip ?_
          refine i_then ?_
          refine t_seq ?_
          refine t_block ?_
          refine t_seq ?_
          refine t_region ?_
          refine r_index_slN rfl rfl rfl rfl rfl rfl (by omega) ?_
          refine r_load_ppN rfl rfl rfl (by exact Nat.le_of_ble_eq_true rfl) ?_
          refine r_alloc rfl (by exact List.cons_ne_nil _ _) rfl ?_
          refine r_storeN rfl rfl (by decide) rfl rfl rfl rfl rfl rfl ?_
          refine r_nil ?_
          refine i_then ?_
          refine t_seq ?_
          have hm := hr.move _ (nth_mem (xs := y.moves) (k := i.1) (by omega))
          refine t_draw mixed rfl ?_
          refine mvX rfl ?_
          refine r_load_pp rfl rfl rfl rfl ?_
          refine r_field_ptr rfl rfl rfl rfl rfl (by decide) ?_
          refine r_load_ptr rfl rfl (by decide) rfl rfl rfl ?_
          refine r_field_ptr rfl rfl rfl rfl rfl (by decide) ?_
          refine r_load_ptr rfl rfl (by decide) rfl rfl rfl ?_
          refine r_callLC [7000, 4000] (c_cell y hr (nth y.moves i.1).src (nth y.moves i.1).day hm.2.1 (by omega)) rfl (lendcs_cons (lendc_J hX hD rfl rfl rfl rfl) (lendcs_cons (lendc_of (lend_pub rfl rfl)) (lendcs_cons (lendc_of (lend_pub rfl rfl)) lendcs_nil))) (by exact plain_int _ _) ?_
          refine r_load_pp rfl rfl rfl rfl ?_
          refine r_field_ptr rfl rfl rfl rfl rfl (by decide) ?_
          refine r_load_ptr rfl rfl (by decide) rfl rfl rfl ?_
          refine r_field_ptr rfl rfl rfl rfl rfl (by decide) ?_
          refine r_load_ptr rfl rfl (by decide) rfl rfl rfl ?_
          refine r_callLC [7000, 4000] (c_cell y hr (nth y.moves i.1).dst (nth y.moves i.1).day hm.2.2.1 (by omega)) rfl (lendcs_cons (lendc_J hX hD rfl rfl rfl rfl) (lendcs_cons (lendc_of (lend_pub rfl rfl)) (lendcs_cons (lendc_of (lend_pub rfl rfl)) lendcs_nil))) (by exact plain_int _ _) ?_
          refine r_field_ptr rfl rfl rfl rfl rfl (by decide) ?_
          refine r_field_ptr rfl rfl rfl rfl rfl (by decide) ?_
          refine r_load_ptr rfl rfl (by decide) rfl rfl rfl ?_
          refine r_field_ptr rfl rfl rfl rfl rfl (by decide) ?_
          refine r_field_ptr rfl rfl rfl rfl rfl (by decide) ?_
          refine r_load_ptr rfl rfl (by decide) rfl rfl rfl ?_
          refine r_build rfl rfl (by exact List.cons_ne_nil _ _) rfl (by repeat (first | exact (Parts.nil : Parts _ _ [] _) | (show Parts _ _ ((_, _) :: _) _; apply Parts.one; (· exact (rfl : _ = Ty.int _ _)); (· exact rfl)))) (by exact (rfl : _ = some [_, _, _, _])) ?_
          refine r_yieldY hJ hJx hY rfl rfl rfl rfl rfl (get_enc (by rw [flows_len]; omega) (flow_mv (by omega))) rfl ?_
          refine r_notY (h1 := hJ _) (hx := hJx) rfl ?_
          refine r_nil ?_
          refine ⟨by kernel_rfl, ?_⟩
          refine i_then ?_
          refine t_condY (h1 := hJ _) (hx := hJx) rfl ?_ ?_
          ·
            refine t_ret ?_
            refine i_block_ret ?_
            refine i_then_ret ?_
            refine i_then_ret ?_
            refine i_block_ret ?_
            exact i_retXx rfl rfl
          ·
            refine t_skip ?_
            refine i_block ?_
            refine i_then ?_
            refine t_region ?_
            refine r_add rfl rfl (by omega) (by omega) ?_
            refine mvI rfl ?_
            refine r_nil ?_
            refine i_round (⟨i.1 + 1, by omega⟩) ?_ (by show y.moves.length - (i.1 + 1) < y.moves.length - i.1; omega)
            (refine Ent.mk' ?_ ?_ <;> (repeat' (first | exact allSub_zero | exact allTags_nil | refine allSub_succ' ?_ (Ty.sub_any _) | refine allSub_succ' ?_ (Ty.sub_refl _) | refine allTags_cons rfl (Cont.sub_refl _) ?_)))
            all_goals skip
        ·
          refine t_exit ?_
          refine i_then_exit ?_
          refine i_then_exit ?_
          refine i_block_exit rfl ?_
          exact i_retX0e (hJ := hJ) (by rw [List.length_map, flows_len, show i.1 = y.moves.length by have := i.2; omega]) rfl rfl
end Go.Proofs.YtelbollidfdcjaaGreat

namespace Go.T
open Go Go.RowKit
theorem cv_mp {ρ : List (Nat × Nat)} {a b : Nat} (h : (a, b) ∈ ρ) : Conv ρ (.mp a) (.mp b) := fun _ _ _ _ _ _ hre ⟨k, e, hk⟩ => ⟨k, e, hre.some _ h k hk⟩
def VSl {α : Type} (E : El α) : VT (List α) := ⟨fun xs => Ty.sl E xs, fun _ => ⟨rfl, rfl⟩⟩
section
variable {A : As}
theorem rowO_sl {α : Type} {E : El α} {T J : Nat} {xs : List α} {w : World} {M : Tags} {v : Value} (wf : Wf w M) (h : dRowO E T J xs w M v) : dSl E xs w (pubTag M J) v := by
  rcases h with ⟨rfl, rfl⟩ | ⟨g, off, c, cur, rfl, hg, hh, h1, h2, h3, h4⟩
  · exact ⟨none, 0, rfl, Nat.le_refl _, by simp [maxLen], fun h => absurd h (by simp)⟩
  · refine ⟨_, c, rfl, h1, h2, fun h0 => ⟨g, off, rfl, by simp [pubTag, hg], wf.lt g _ hg, fun i t hi => ?_⟩⟩
    obtain ⟨u, hu, hdu⟩ := dens_get h4 i t hi
    refine ⟨u, ?_, t.mono (pubTag_le (w := w)) ?_ (fun _ _ h => by cases h) hdu⟩
    · have hlt : i < xs.length * E.size := by
        have := (List.getElem?_eq_some_iff.1 hu).1
        rw [List.length_take] at this; omega
      rw [List.getElem?_take, if_pos hlt, List.getElem?_drop] at hu
      simpa [World.cell?, hh] using hu
    · intro u hu
      have : u ∈ depsOf (xs.flatMap E.tys) := List.mem_flatMap.2 ⟨t, List.mem_of_getElem? hi, hu⟩
      rw [E.flat_deps] at this; cases this
theorem pubC_mr {κ α : Type} [DecidableEq κ] {enc : κ → Value} {E : El α} {T J m : Nat} {q : List (κ × List α)} (hc : A.tag m = some (.mr enc E T J q)) (hne : Nat.beq m J = false) : PubC A J (m, .mp enc (VSl E) q) := fun w M wf ht => by
  obtain ⟨_, b, es, clock, h1, h2, h3, h4, _⟩ := ht _ (tag_mem hc)
  have hmj : m ≠ J := fun h => by subst h; simp at hne
  refine ⟨b, by simp [pubTag, h1, hmj], es, clock, h2, h3, ?_⟩
  have key : ∀ (l : List (κ × List α)) (vs : List Value), dens w M (l.map fun x => Ty.rowO E T J x.2) vs → dens w (pubTag M J) (l.map fun x => (VSl E).ty x.2) vs := by
    intro l
    induction l with
    | nil => intro vs h; cases vs with | nil => trivial | cons => cases h
    | cons x l ih =>
      intro vs h
      cases vs with
      | nil => cases h
      | cons v vs => exact ⟨rowO_sl wf h.1, ih vs h.2⟩
  exact key q _ h4
theorem lendc_pre {L : List Nat} {l1 l2 : List Ty} (h1 : depsOf l1 = []) (h2 : cdepsOf l1 = []) : LendC A L (.pp (l1 ++ l2)) (.pp l1) := fun w M v _ _ ⟨b, off, e, m1, m2, m3⟩ => by
  refine ⟨b, off, e, lend_none m1, m2, fun i t hi => ?_⟩
  have hl : i < l1.length := (List.getElem?_eq_some_iff.1 hi).1
  obtain ⟨x, hx, hd⟩ := m3 i t (by rw [List.getElem?_append_left hl]; exact hi)
  refine ⟨x, hx, t.mono (S := fun _ => True) (K := fun _ => True) ⟨Nat.le_refl _, rfl, rfl, rfl, fun b _ hm => ⟨lend_none hm, rfl⟩, fun b t _ h => absurd trivial h⟩ ?_ ?_ hd⟩
  · intro u hu
    have : u ∈ depsOf l1 := List.mem_flatMap.2 ⟨t, List.mem_of_getElem? hi, hu⟩
    rw [h1] at this; cases this
  · intro u hu
    have : u ∈ cdepsOf l1 := List.mem_flatMap.2 ⟨t, List.mem_of_getElem? hi, hu⟩
    rw [h2] at this; cases this
theorem lendcs_at {L : List Nat} {i : Nat} {t : Ty} : ∀ {l l' : List Ty}, LendCs A L l l' → l'[i]? = some t → ∃ s, l[i]? = some s ∧ LendC A L s t := by
  induction i with
  | zero =>
    intro l l' h e
    match l, l', h with
    | [], [], _ => cases e
    | s :: _, t' :: _, h => injection e with e; subst e; exact ⟨s, rfl, h.1⟩
  | succ i ih =>
    intro l l' h e
    match l, l', h with
    | [], [], _ => cases e
    | _ :: l, _ :: l', h => exact ih (l := l) (l' := l') h.2 e
theorem lendc_pp {L : List Nat} {l l' : List Ty} (h : LendCs A L l l') : LendC A L (.pp l) (.pp l') := fun w M v wf ht ⟨b, off, e, m1, m2, m3⟩ => by
  refine ⟨b, off, e, lend_none m1, m2, fun i t hi => ?_⟩
  obtain ⟨s, h1, h2⟩ := lendcs_at h hi
  obtain ⟨x, hx, hd⟩ := m3 i s h1
  exact ⟨x, hx, h2 w M x wf ht hd⟩
end
section
variable {P : Program} {fr : Fr} {A : As} {c : Code} {Q : Exit → Act → World → Prop}
theorem t_toOs {α : Type} {E : El α} {T J tg s : Nat} {xs : List α} (hs : Nat.blt s fr.n = true) (hc : A.slots s = .row E T tg xs) (h1 : Tag1 tg) (hJ : 4096 ≤ J) (hp : fr.pass.contains tg = false)
    (h : Tri P fr c ⟨fun i => bif Nat.beq i s then .rowO E T J xs else killSlots [] [tg] A.slots i, killTags [] [tg] A.tags⟩ Q) : Tri P fr c A Q := fun a w ⟨M, ok, hsl, ht⟩ => by
  have le : Le (· ∈ ([] : List Nat)) (· ∈ [tg]) w M w (giveJ M tg J) := giveJ_le
  refine h a w ⟨giveJ M tg J, ⟨giveJ_wf hJ ok.wf, Fr.base_step ok.base (by intro _ h; cases h) (fun t ht => by simp only [List.mem_singleton] at ht; subst ht; exact ⟨h1.1, by simpa using hp⟩) le, ok.size, ok.defers.step (by intro _ h; cases h) (fun t ht => by simp only [List.mem_singleton] at ht; subst ht; exact h1.1) le⟩, fun i hi => ?_, fun x hx => ?_⟩
  · cases hb : Nat.beq i s with
    | false =>
      simp only [hb, cond_false]
      rcases killSlots_spec [] [tg] A.slots i with ⟨e, hdj⟩ | ⟨_, e⟩
      · rw [e]; exact (A.slots i).mono le (safe_spec hdj).1 (safe_spec hdj).2 (hsl i hi)
      · rw [e]; trivial
    | true =>
      have his : i = s := Nat.eq_of_beq_eq_true hb
      subst his
      simp only [hb, cond_true]
      have hd := hsl i hi
      rw [hc] at hd
      obtain ⟨vs, hown, hcs, hM⟩ := hd
      rcases hown.2 with ⟨ez, h0⟩ | ⟨g, cap, cur, ez, _, hh, hnc, hcap, hsz, htk⟩
      · exact .inl ⟨List.length_eq_zero_iff.1 h0, ez⟩
      · have hg : M g = some tg := hM g (by rw [ez]; rfl)
        refine .inr ⟨g, 0, cap, cur, ez, by simp [giveJ, hg], hh, hnc, hcap, by omega, ?_⟩
        rw [List.drop_zero, htk]
        exact dens_mono (giveJ_le (w := w)) (by rw [E.flat_deps]; intro _ h; cases h) (by rw [E.flat_cdeps]; intro _ h; cases h) hcs
  · exact killTags_den le hx fun y hy _ => ht y hy
end
end Go.T

namespace Go.Proofs.YtelbollidfdcjaaGreat
open Go Go.T
set_option maxHeartbeats 8000000
theorem four {vs : List Value} {n : Nat} (h : vs.length = n) (e : n = 4) : ∃ a b c d, vs = [a, b, c, d] := by
  subst e
  match vs, h with
  | [a, b, c, d], _ => exact ⟨a, b, c, d, rfl⟩
def deskN (y : Yard) : List Ty := [Ty.int .i64 y.days, Ty.sl BinE y.bins, Ty.sl MoveE y.moves, Ty.sl LevelE y.levels, Ty.ex (.slice none 0 0), Ty.ex (.slice none 0 0)]
def deskR (y : Yard) (F A : Nat) (fl : List Flow) (a : List Int) : List Ty := [Ty.int .i64 y.days, Ty.sl BinE y.bins, Ty.sl MoveE y.moves, Ty.sl LevelE y.levels, Ty.row FlowE 187 F fl, Ty.row I64 3 A a]
theorem lo_take {fl : List Flow} {k : Nat} (h : k < fl.length) : (loL fl).take k ++ [(nth fl k).lo] = (loL fl).take (k + 1) := by
  unfold loL; rw [← List.map_take, ← List.map_take, take_nth h, List.map_append]; rfl
theorem desk_end {y : Yard} {fl : List Flow} {α : Type} {f : Flow → α} : [Ty.int .i64 y.days, Ty.sl BinE y.bins, Ty.sl MoveE y.moves, Ty.sl LevelE y.levels, Ty.row FlowE 187 23 (fl.take (fl.map f).length), Ty.row I64 3 31 ((loL fl).take (fl.map f).length)] = deskR y 23 31 fl (loL fl) := by
  rw [List.length_map, List.take_of_length_le (Nat.le_refl _), List.take_of_length_le (by unfold loL; rw [List.length_map]; exact Nat.le_refl _)]; rfl
def deskV (y : Yard) (F A m n : Nat) : List Ty := [Ty.int .i64 y.days, Ty.sl BinE y.bins, Ty.sl MoveE y.moves, Ty.sl LevelE y.levels, Ty.vs F m, Ty.vs A n]
def deskS (y : Yard) (fl : List Flow) (A n : Nat) : List Ty := [Ty.int .i64 y.days, Ty.sl BinE y.bins, Ty.sl MoveE y.moves, Ty.sl LevelE y.levels, Ty.sl FlowE fl, Ty.vs A n]
def deskP (y : Yard) (fl : List Flow) (a : List Int) : List Ty := [Ty.int .i64 y.days, Ty.sl BinE y.bins, Ty.sl MoveE y.moves, Ty.sl LevelE y.levels, Ty.sl FlowE fl, Ty.sl I64 a]
theorem lo_len (fl : List Flow) : (loL fl).length = fl.length := by unfold loL; rw [List.length_map]
theorem flows_few {y : Yard} (hr : y.Right) {c : Nat → Bool} : (flowsY y c).length ≤ 34 := by
  have h1 := hr.bins; have h2 := hr.days; have h3 := D_eq hr; have h4 := hr.moves
  have := Nat.mul_le_mul (show y.bins.length ≤ 4 by omega) (show y.D + 1 ≤ 6 by omega)
  rw [flows_len]; omega
attribute [local irreducible] flowsY loL
attribute [local irreducible] dInt dBool dSl dPp dPtr dAgg dTup dClo dAny dEx dStr dGd dCells dVec dVs dRow dOp nth Tri Into TOps Ctr bodyPost Exit.then Exit.inBlock Code.wp Code.wpIn dWhen dPa dPe dAo dArr dMp dPm dMap dCJ CtrG CtrI OpY keepPost iterPost bodyPostM roundQ
set_option maxRecDepth 100000 in
theorem k_each (y : Yard) (c8 : List Bool) (hc8 : c8.length = 8) : CtrG Tryz.prog 173 [1000] [(1000, Cont.cells 185 (deskN y))] [Ty.ptr 1000 0, Ty.arr BoolE c8] [(1000, Cont.cells 185 (deskN y))] (Ty.clo 196 [Ty.pp [Ty.ptr 1000 0], Ty.pa BoolE c8 0]) := by
  refine fnG_intro Tryz.func173 rfl (by decide) Tryz.ntmps173 (by exact Nat.le_of_ble_eq_true rfl) fun w0 M0 => ?_
  refine t_seq ?_
  refine t_region ?_
  refine r_box_one (ty := Ty.ptr 1000 0) rfl rfl ?_
  refine r_box_arr rfl ?_
  refine asX rfl ?_
  refine r_nil ?_
  refine i_then ?_
  refine t_seq ?_
  refine t_region ?_
  refine r_makeFunc rfl ?_
  refine asF rfl ?_
  refine r_nil ?_
  refine i_then ?_
  refine t_ret ?_
  refine g_ret1 [1000] rfl rfl (by decide) (by repeat (first | exact rc_nil | refine rc_cons rfl (cc_cells_eq (by decide) rfl rfl rfl) ?_)) ?_
  all_goals skip
  all_goals exact rg_cv (cv_clo (cv_cons (cv_cons cv_nil (cv_pub rfl rfl)) (cv_pp (cv_cons cv_nil (cv_ptr (by decide))))))
set_option maxRecDepth 100000 in
theorem k_worked (y : Yard) (hr : y.Right) (c8 : List Bool) (hc8 : c8.length = 8) : CtrG Tryz.prog 117 [] [] [yardT y, Ty.arr BoolE c8] [(23, Cont.vec FlowE 187 (flowsY y (nth c8))), (31, Cont.vec I64 3 (loL (flowsY y (nth c8))))] (Ty.pp (deskV y 23 31 (flowsY y (nth c8)).length (flowsY y (nth c8)).length)) := by
  refine fnMG_intro Tryz.func117 rfl (by decide) Tryz.ntmps117 (by exact Nat.le_of_ble_eq_true rfl) fun w0 M0 => ?_
  have hfl := flows_few (c := nth c8) hr
  refine t_seq ?_
  refine t_region ?_
  refine r_box_agg rfl ?_
  refine r_box_arr rfl ?_
  refine asX rfl ?_
  refine r_nil ?_
  refine i_then ?_
  refine t_seq ?_
  refine t_region ?_
  refine r_load_ppN rfl rfl rfl (by exact Nat.le_of_ble_eq_true rfl) ?_
  refine r_build rfl rfl (by exact List.cons_ne_nil _ _) rfl (by repeat (first | exact (Parts.nil : Parts _ _ [] _) | (show Parts _ _ ((_, _) :: _) _; apply Parts.agg; (· exact (rfl : _ = Ty.agg _))))) (by exact rfl) ?_
  refine r_box_own rfl rfl rfl ?_
  refine r_alloc rfl (by exact List.cons_ne_nil _ _) rfl ?_
  refine r_store1 rfl rfl (by decide) rfl rfl (by exact (rfl : _ = Ty.ptr _ _)) rfl (by exact Nat.le_of_ble_eq_true rfl) rfl rfl (by exact (rfl : _ = [_])) ?_
  refine r_nil ?_
  refine i_then ?_
  refine t_seq ?_
  refine t_seq ?_
  refine t_region ?_
  refine r_load_ptr rfl rfl (by decide) rfl rfl rfl ?_
  refine r_load_paA rfl rfl rfl (by rw [hc8]; rfl) ?_
  refine r_callG (res' := Ty.clo 196 [Ty.pp [Ty.ptr 10 0], Ty.pa BoolE c8 0]) [(10, 1000)] [] [(10, Cont.cells 185 (deskN y))] (k_each y c8 hc8) rfl rfl (cv_cons (cv_cons cv_nil (cv_pub rfl rfl)) (cv_ptr (by exact List.mem_cons_self))) (pre_cons (a := 10) (b := 1000) (by exact List.mem_cons_self) rfl (cc_cells_eq (by exact List.mem_cons_self) rfl rfl rfl) pre_nil) (post_cons (a := 10) (b := 1000) (by exact List.mem_cons_self) rfl (cc_cells_eq (by exact List.mem_cons_self) rfl rfl rfl) post_nil) (cv_clo (cv_cons (cv_cons cv_nil (cv_pub rfl rfl)) (cv_pp (cv_cons cv_nil (cv_ptr (by exact List.mem_cons_self)))))) ?_
  refine r_nil ?_
  refine i_then ?_
  refine t_name (D := 10) (Tb := 185) (tys := yardTys y) (r := [Ty.ex (.slice none 0 0), Ty.ex (.slice none 0 0)]) rfl rfl rfl (by decide) fun vs hvs => ?_
  obtain ⟨v0, v1, v2, v3, rfl⟩ := four hvs rfl
  refine t_block ?_
  refine t_rangeFuncT (ps := [13]) (lk [(5, Ty.ptr 6 0), (9, Ty.ptr 10 0)]) (fun k => [(6, Cont.cells 152 [Ty.ptr 10 0]), (10, Cont.cells 185 [Ty.ex v0, Ty.ex v1, Ty.ex v2, Ty.ex v3, Ty.row FlowE 187 23 ((flowsY y (nth c8)).take k), Ty.row I64 3 31 ((loL (flowsY y (nth c8))).take k)]), (4000, Cont.fact (yardTys y) [v0, v1, v2, v3] rfl rfl)]) false [] [6, 10, 4000] rfl rfl ((c_each1 y hr c8 hc8 0 10 (by decide) [v0, v1, v2, v3]).1) (ranges_X (D := 10) (n := 36) (sd := 9) (r := fun k => [Ty.row FlowE 187 23 ((flowsY y (nth c8)).take k), Ty.row I64 3 31 ((loL (flowsY y (nth c8))).take k)]) (fun b => c_each1 y hr c8 hc8 b 10 (by decide) [v0, v1, v2, v3]) (by decide) (by decide) rfl (fun k => List.mem_cons_of_mem _ List.mem_cons_self) (List.mem_cons_of_mem _ (List.mem_cons_of_mem _ List.mem_cons_self))) (deps_lt rfl) (deps_lt rfl) (by decide) (by intro t ht; obtain ⟨x, _, rfl⟩ := List.mem_map.1 ht; exact ⟨rfl, rfl, rfl⟩) rfl rfl (fun _ => rfl) rfl ?_ ?_ ?_ (by intro h; cases h)
  · (refine Ent.mk' ?_ ?_ <;> (repeat' (first | exact allSub_zero | exact allTags_nil | exact subs_nil | refine allSub_succ' ?_ (Ty.sub_any _) | refine allSub_succ' ?_ (Ty.sub_refl _) | refine allTags_cons rfl (Cont.sub_refl _) ?_ | refine allTags_cons rfl (Cont.sub_subs ?_) ?_ | refine subs_cons ?_ (Ty.sub_refl _) | refine subs_cons ?_ Ty.nil_row)))
    all_goals trace_state
  · intro k tys hk
    obtain ⟨hk1, rfl⟩ := enc_get hk
    refine ⟨live [(5, Ty.ptr 6 0), (6, Ty.ptr 7 0), (9, Ty.ptr 10 0)] [(6, Cont.cells 152 [Ty.ptr 10 0]), (7, Cont.cells 187 (FlowE.tys (nth (flowsY y (nth c8)) k))), (10, Cont.cells 185 [Ty.ex v0, Ty.ex v1, Ty.ex v2, Ty.ex v3, Ty.row FlowE 187 23 ((flowsY y (nth c8)).take k), Ty.row I64 3 31 ((loL (flowsY y (nth c8))).take k)]), (4000, Cont.fact (yardTys y) [v0, v1, v2, v3] rfl rfl)], fun l w M => ?_, fun l w M => ?_⟩
    ·
      refine t_region ?_
      refine r_alloc rfl (by exact List.cons_ne_nil _ _) rfl ?_
      refine r_storeN rfl rfl (by decide) rfl rfl rfl rfl rfl rfl ?_
      refine r_nil ?_
      refine i_join ?_
      (refine Ent.mk' ?_ ?_ <;> (repeat' (first | exact allSub_zero | exact allTags_nil | refine allSub_succ' ?_ (Ty.sub_any _) | refine allSub_succ' ?_ (Ty.sub_refl _) | refine allTags_cons rfl (Cont.sub_refl _) ?_)))
    ·
      refine t_block ?_
      refine t_nameR (D := 10) (Tb := 185) (tg := 23) [Ty.ex v0, Ty.ex v1, Ty.ex v2, Ty.ex v3] rfl fun v4 => ?_
      refine t_nameR (D := 10) (Tb := 185) (tg := 31) [Ty.ex v0, Ty.ex v1, Ty.ex v2, Ty.ex v3, Ty.ex v4] rfl fun v5 => ?_
      refine t_draw mixed rfl ?_
      refine r_load_ptr rfl rfl (by decide) rfl rfl rfl ?_
      refine r_load_ptr rfl rfl (by decide) rfl rfl rfl ?_
      refine r_load_ptr rfl rfl (by decide) rfl rfl rfl ?_
      refine r_nilCheck_ptr rfl ?_
      refine r_field_ptr rfl rfl rfl rfl rfl (by decide) ?_
      refine r_load_ptr rfl rfl (by decide) rfl rfl rfl ?_
      refine r_load_ptrN rfl rfl (by decide) rfl rfl (by exact Nat.le_of_ble_eq_true rfl) ?_
      refine r_buildSlice (E := FlowE) (xs := [_]) rfl rfl rfl rfl rfl (by decide) (by decide) (by repeat (first | exact (Parts.nil : Parts _ _ [] _) | (show Parts _ _ ((_, _) :: _) _; apply Parts.agg; (· exact (rfl : _ = Ty.agg _))))) (by exact rfl) rfl ?_
      refine r_appendV (tg := 23) rfl rfl rfl rfl (by decide) rfl rfl rfl rfl rfl rfl (by decide) (by (simp <;> omega)) (by (simp <;> omega)) rfl rfl ?_
      refine r_load_ptr rfl rfl (by decide) rfl rfl rfl ?_
      refine r_nilCheck_ptr rfl ?_
      refine r_field_ptr rfl rfl rfl rfl rfl (by decide) ?_
      refine r_load_ptr rfl rfl (by decide) rfl rfl rfl ?_
      refine r_field_ptr rfl rfl rfl rfl rfl (by decide) ?_
      refine r_load_ptr rfl rfl (by decide) rfl rfl rfl ?_
      refine r_buildSlice (E := I64) (xs := [_]) rfl rfl rfl rfl rfl (by decide) (by decide) (by repeat (first | exact (Parts.nil : Parts _ _ [] _) | (show Parts _ _ ((_, _) :: _) _; apply Parts.one; (· exact (rfl : _ = Ty.int _ _)); (· exact rfl)))) (by exact rfl) rfl ?_
      refine r_appendV (tg := 31) rfl rfl rfl rfl (by decide) rfl rfl rfl rfl rfl rfl (by decide) (by (simp <;> omega)) (by (simp <;> omega)) rfl rfl ?_
      refine r_nilCheck_ptr rfl ?_
      refine r_field_ptr rfl rfl rfl rfl rfl (by decide) ?_
      refine r_store1 rfl rfl (by decide) rfl rfl (by exact (rfl : _ = Ty.row _ _ _ _)) rfl (by exact Nat.le_of_ble_eq_true rfl) rfl rfl (by exact rfl) ?_
      refine r_nilCheck_ptr rfl ?_
      refine r_field_ptr rfl rfl rfl rfl rfl (by decide) ?_
      refine r_store1 rfl rfl (by decide) rfl rfl (by exact (rfl : _ = Ty.row _ _ _ _)) rfl (by exact Nat.le_of_ble_eq_true rfl) rfl rfl (by exact rfl) ?_
      refine r_nil ?_
      refine ⟨by kernel_rfl, ?_⟩
      refine i_block ?_
      refine q_normal ?_
      (refine Ent.mk' ?_ ?_ <;> (repeat' (first | exact allSub_zero | exact allTags_nil | exact subs_nil | refine allSub_succ' ?_ (Ty.sub_any _) | refine allTags_cons rfl (Cont.sub_refl _) ?_ | refine allTags_cons rfl (Cont.sub_subs ?_) ?_ | refine subs_cons ?_ (Ty.sub_refl _) | refine subs_cons ?_ ?_)))
      all_goals first | exact Ty.sub_row (take_nth hk1).symm | exact Ty.sub_row (lo_take hk1)
  ·
    refine i_block ?_
    refine i_then ?_
    refine t_seq ?_
    refine t_unname (D := 10) (Tb := 185) (vs := [v0, v1, v2, v3]) (tys := yardTys y) (r := [Ty.row FlowE 187 23 ((flowsY y (nth c8)).take ((flowsY y (nth c8)).map flowEnc).length), Ty.row I64 3 31 ((loL (flowsY y (nth c8))).take ((flowsY y (nth c8)).map flowEnc).length)]) rfl rfl ?_
    refine t_asC (tg := 10) rfl (Cont.sub_cells (T := 185) (desk_end (y := y) (fl := flowsY y (nth c8)) (f := flowEnc))) ?_
    refine t_ownCell (c0 := 10) (tg := 23) 4 rfl rfl ?_
    refine t_ownCell (c0 := 10) (tg := 31) 5 rfl rfl ?_
    refine t_asC (tg := 10) rfl (Cont.sub_cellsL (l' := deskV y 23 31 (flowsY y (nth c8)).length (flowsY y (nth c8)).length) ⟨Ty.sub_refl _, Ty.sub_refl _, Ty.sub_refl _, Ty.sub_refl _, Ty.row_vs rfl, Ty.row_vs (lo_len _), trivial⟩) ?_
    refine t_pubC (tg := 10) [] [(6, Cont.cells 152 [Ty.pp (deskV y 23 31 (flowsY y (nth c8)).length (flowsY y (nth c8)).length)])] (by decide) rfl trivial ⟨pubC_cells rfl rfl ⟨pubTy_ptr rfl rfl (by decide), trivial⟩, trivial⟩ ?_
    refine t_region ?_
    refine r_load_ptr rfl rfl (by decide) rfl rfl rfl ?_
    refine asP rfl ?_
    refine r_nil ?_
    refine i_then ?_
    refine t_ret ?_
    refine m_ret rfl ?_
    refine g_ret1 [23, 31] rfl rfl (by decide) (by repeat (first | exact rc_nil | refine rc_cons rfl (cc_vec (by decide) rfl) ?_)) ?_
    all_goals skip
    all_goals exact rg_cv (cv_pp (cv_cons (cv_cons (cv_cons (cv_cons (cv_cons (cv_cons cv_nil (cv_vs (by decide))) (cv_vs (by decide))) (cv_pub rfl rfl)) (cv_pub rfl rfl)) (cv_pub rfl rfl)) (cv_pub rfl rfl)))
end Go.Proofs.YtelbollidfdcjaaGreat

namespace Go.Proofs.YtelbollidfdcjaaGreat
open Go Go.T
section
variable {fl : List Flow} {a : List Int} {n k : Nat} {c : Int} {w : Way}
abbrev WQ : Type := List (Int × List Way)
def getQ (q : WQ) (c : Int) : List Way := (mget q c).getD []
def addQ (q : WQ) (c : Int) (w : Way) : WQ := mput q c (getQ q c ++ [w])
theorem addQ_get (q : WQ) (c c' : Int) (w : Way) : getQ (addQ q c w) c' = getQ q c' ++ (if c = c' then [w] else []) := by
  unfold addQ
  show (mget (mput _ _ _) c').getD [] = _
  rw [mget_mput]
  by_cases e : c = c'
  · subst e; rw [if_pos rfl, if_pos rfl]; rfl
  · rw [if_neg e, if_neg e, List.append_nil]; rfl
def waysH (fl : List Flow) (a : List Int) (q : WQ) (k : Nat) : WQ := if nth a k < (nth fl k).hi then addQ q (nth fl k).src ⟨k, true⟩ else q
def waysQ (fl : List Flow) (a : List Int) : Nat → WQ
  | 0 => []
  | k + 1 => if nth a k > (nth fl k).lo then addQ (waysH fl a (waysQ fl a k) k) (nth fl k).dst ⟨k, false⟩ else waysH fl a (waysQ fl a k) k
theorem ways_zero (fl : List Flow) (a : List Int) : ([] : WQ) = waysQ fl a 0 := rfl
theorem waysH_no {q : WQ} (h : ¬ nth a k < (nth fl k).hi) : q = waysH fl a q k := (if_neg h).symm
theorem waysQ_no (h : ¬ nth a k > (nth fl k).lo) : waysH fl a (waysQ fl a k) k = waysQ fl a (k + 1) := (if_neg h).symm
theorem waysH_get {q : WQ} : getQ (waysH fl a q k) c = getQ q c ++ (if nth a k < (nth fl k).hi ∧ (nth fl k).src = c then [⟨k, true⟩] else []) := by
  unfold waysH
  by_cases h : nth a k < (nth fl k).hi
  · rw [if_pos h, addQ_get]
    by_cases e : (nth fl k).src = c
    · rw [if_pos e, if_pos ⟨h, e⟩]
    · rw [if_neg e, if_neg fun h => e h.2]
  · rw [if_neg h, if_neg fun h' => h h'.1, List.append_nil]
theorem waysQ_get : ∀ k, getQ (waysQ fl a k) c = (List.range k).flatMap (wayF fl a c)
  | 0 => rfl
  | k + 1 => by
    rw [List.range_succ, List.flatMap_append, List.flatMap_singleton, ← waysQ_get k]
    show getQ (if _ then _ else _) c = _
    unfold wayF
    by_cases h : nth a k > (nth fl k).lo
    · rw [if_pos h, addQ_get, waysH_get, List.append_assoc]
      congr 2
      by_cases e : (nth fl k).dst = c
      · rw [if_pos e, if_pos ⟨h, e⟩]
      · rw [if_neg e, if_neg fun h => e h.2]
    · rw [if_neg h, waysH_get, if_neg (c := _ ∧ (nth fl k).dst = c) (fun h' => h h'.1), List.append_nil]
theorem ways_get : getQ (waysQ fl a fl.length) c = waysL fl a c := waysQ_get _
theorem waysQ_few (k : Nat) : (getQ (waysQ fl a k) c).length ≤ 2 * k := by
  rw [waysQ_get]
  have key : ∀ n, ((List.range n).flatMap (wayF fl a c)).length ≤ 2 * n := by
    intro n
    induction n with
    | zero => simp
    | succ n ih => rw [List.range_succ, List.flatMap_append, List.length_append, List.flatMap_singleton]; have := wayF_len (fl := fl) (a := a) (c := c) n; omega
  exact key k
theorem waysH_few : (getQ (waysH fl a (waysQ fl a k) k) c).length ≤ 2 * k + 1 := by
  rw [waysH_get, List.length_append]
  have := waysQ_few (fl := fl) (a := a) (c := c) k
  split <;> simp <;> omega
def overK (fl : List Flow) (a : List Int) (k : Nat) (c : Int) : Int := sumN (fun i => (ind ((nth fl i).dst = c) - ind ((nth fl i).src = c)) * nth a i) k
def overUp (fl : List Flow) (a : List Int) (n k : Nat) : List Int := (List.range n).map fun c => overK fl a k (c : Nat)
theorem overUp_len : (overUp fl a n k).length = n := by unfold overUp; rw [List.length_map, List.length_range]
theorem overUp_nth {c : Nat} (h : c < n) : nth (overUp fl a n k) c = overK fl a k c := range_nth _ h
theorem overUp_all : overUp fl a n fl.length = overL fl a n := rfl
theorem list_ext {l l' : List Int} (h : l.length = l'.length) (h' : ∀ i, i < l.length → nth l i = nth l' i) : l = l' := by
  refine List.ext_getElem h fun i h1 h2 => ?_
  have := h' i h1
  unfold nth at this
  rw [List.getD_eq_getElem?_getD, List.getD_eq_getElem?_getD, List.getElem?_eq_getElem h1, List.getElem?_eq_getElem h2] at this
  exact this
def overS (fl : List Flow) (a : List Int) (l : List Int) (k : Nat) : List Int := l.set (nth fl k).src.toNat (nth l (nth fl k).src.toNat - nth a k)
theorem overUp_succ (hs : 0 ≤ (nth fl k).src ∧ (nth fl k).src < n) (hd : 0 ≤ (nth fl k).dst ∧ (nth fl k).dst < n) :
    (overS fl a (overUp fl a n k) k).set (nth fl k).dst.toNat (nth (overS fl a (overUp fl a n k) k) (nth fl k).dst.toNat + nth a k) = overUp fl a n (k + 1) := by
  have hS : ∀ c, c < n → nth (overS fl a (overUp fl a n k) k) c = overK fl a k c - ind ((nth fl k).src = (c : Int)) * nth a k := fun c hc => by
    unfold overS
    rw [nthA_set (by rw [overUp_len]; exact hc)]
    by_cases e : (nth fl k).src.toNat = c
    · rw [if_pos e, e, overUp_nth hc, ind_yes (by omega), Int.one_mul]
    · rw [if_neg e, overUp_nth hc, ind_no (by omega), Int.zero_mul, Int.sub_zero]
  have hl : (overS fl a (overUp fl a n k) k).length = n := by unfold overS; rw [List.length_set, overUp_len]
  refine list_ext (by rw [List.length_set, hl, overUp_len]) fun c hc => ?_
  rw [List.length_set, hl] at hc
  rw [nthA_set (by rw [hl]; exact hc), overUp_nth hc]
  show _ = overK fl a k c + (ind ((nth fl k).dst = (c : Int)) - ind ((nth fl k).src = (c : Int))) * nth a k
  rw [Int.sub_mul]
  by_cases e : (nth fl k).dst.toNat = c
  · rw [if_pos e, e, hS c hc, ind_yes (p := (nth fl k).dst = (c : Int)) (by omega), Int.one_mul]; omega
  · rw [if_neg e, hS c hc, ind_no (p := (nth fl k).dst = (c : Int)) (by omega), Int.zero_mul]; omega
theorem overS_len (fl : List Flow) (a l : List Int) (k : Nat) : (overS fl a l k).length = l.length := List.length_set
theorem over_zero (fl : List Flow) (a : List Int) (n : Nat) : List.replicate (((n : Nat) : Int)).toNat 0 = overUp fl a n 0 := by
  rw [Int.toNat_natCast]
  refine list_ext (by rw [List.length_replicate, overUp_len]) fun i hi => ?_
  rw [List.length_replicate] at hi
  rw [overUp_nth hi, nth_rep _ _ _ hi]; rfl
theorem overS_abs {c : Nat} (h : ∀ c : Int, -(300 * (k : Int)) ≤ overK fl a k c ∧ overK fl a k c ≤ 300 * k) (ha : 0 ≤ nth a k ∧ nth a k ≤ 300) (hc : c < n) (hs : (nth fl k).src.toNat < n) : -(300 * (k : Int) + 300) ≤ nth (overS fl a (overUp fl a n k) k) c ∧ nth (overS fl a (overUp fl a n k) k) c ≤ 300 * k := by
  unfold overS
  rw [nthA_set (by rw [overUp_len]; exact hc)]
  split
  · rw [overUp_nth hs]; have := h ((nth fl k).src.toNat : Nat); omega
  · rw [overUp_nth hc]; have := h (c : Nat); omega
theorem overK_abs (ha : ∀ i, i < k → 0 ≤ nth a i ∧ nth a i ≤ 300) : -(300 * (k : Int)) ≤ overK fl a k c ∧ overK fl a k c ≤ 300 * k := by
  refine sumN_abs (b := 300) fun i hi => ?_
  have := ha i hi
  unfold ind
  split <;> split <;> simp <;> omega
end
end Go.Proofs.YtelbollidfdcjaaGreat

namespace Go.Proofs.YtelbollidfdcjaaGreat
open Go Go.T
set_option maxHeartbeats 8000000
section
variable {fl : List Flow} {a : List Int} {n : Nat} {w : Way}
theorem beg_yes (h : w.more = true) : (nth fl w.ix).src = w.beg fl := (if_pos h).symm
theorem beg_no (h : w.more = false) : (nth fl w.ix).dst = w.beg fl := (if_neg (by rw [h]; decide)).symm
theorem fin_yes (h : w.more = true) : (nth fl w.ix).dst = w.fin fl ∧ (nth fl w.ix).hi - nth a w.ix = w.room fl a := ⟨(if_pos h).symm, (if_pos h).symm⟩
theorem fin_no (h : w.more = false) : (nth fl w.ix).src = w.fin fl ∧ nth a w.ix - (nth fl w.ix).lo = w.room fl a := ⟨(if_neg (by rw [h]; decide)).symm, (if_neg (by rw [h]; decide)).symm⟩
structure Fine (y : Yard) (fl : List Flow) (a : List Int) : Prop where
  right : y.Right
  net : Net fl (y.cells + 1)
  bd : Bd fl
  inb : Inb fl a
  few : fl.length ≤ 34
theorem Fine.amt {y : Yard} (h : Fine y fl a) {i : Nat} (hi : i < fl.length) : (0 ≤ nth a i ∧ nth a i ≤ 300) ∧ (0 ≤ (nth fl i).lo ∧ (nth fl i).lo ≤ 300) ∧ 0 ≤ (nth fl i).hi ∧ (nth fl i).hi ≤ 300 := by
  have h1 := h.bd i hi
  have h2 := h.inb.2 i hi
  omega
theorem sendY {l : List Way} {k : Nat} {d : Int} (hk : k < l.length) (hm : (nth l k).more = true) : (sendM a (l.take k) d).set (nth l k).ix (nth (sendM a (l.take k) d) (nth l k).ix + d) = sendM a (l.take (k + 1)) d := by
  rw [take_nth hk, sendM_snoc]; unfold send1 sgn; rw [hm]; rfl
theorem sendN {l : List Way} {k : Nat} {d : Int} (hk : k < l.length) (hm : (nth l k).more = false) : (sendM a (l.take k) d).set (nth l k).ix (nth (sendM a (l.take k) d) (nth l k).ix - d) = sendM a (l.take (k + 1)) d := by
  rw [take_nth hk, sendM_snoc]; unfold send1 sgn; rw [hm]; rfl
theorem sendM_abs {l : List Way} {d : Int} (hd : 0 ≤ d ∧ d ≤ 20000) (ha : ∀ i, -300 ≤ nth a i ∧ nth a i ≤ 300) (hw : ∀ w ∈ l, w.ix < a.length) : ∀ k, k ≤ l.length → ∀ i, -(20000 * ((k : Int) + 1)) ≤ nth (sendM a (l.take k) d) i ∧ nth (sendM a (l.take k) d) i ≤ 20000 * ((k : Int) + 1)
  | 0, _, i => by rw [List.take_zero]; have := ha i; show _ ≤ nth a i ∧ nth a i ≤ _; omega
  | k + 1, hk, i => by
    have ih := sendM_abs hd ha hw k (by omega) i
    rw [take_nth (by omega), sendM_snoc, send1_nth (by rw [sendM_len]; exact hw _ (nth_mem (by omega)))]
    split
    · unfold sgn; split <;> omega
    · omega
theorem sendM_zero (a : List Int) (l : List Way) (d : Int) : a = sendM a (l.take 0) d := rfl
theorem nth_out {l : List Int} {i : Nat} (h : l.length ≤ i) : nth l i = 0 := by
  unfold nth; rw [List.getD_eq_getElem?_getD, List.getElem?_eq_none h]; rfl
theorem Fine.abs {y : Yard} (h : Fine y fl a) (i : Nat) : -300 ≤ nth a i ∧ nth a i ≤ 300 := by
  by_cases c : i < fl.length
  · have := (h.amt c).1; omega
  · rw [nth_out (by rw [h.inb.1]; omega)]; omega
end
theorem mapT227 : mapOf Tryz.prog 227 = some (3, 222) := by kernel_rfl
theorem zero222 : zeroOf Tryz.prog 222 = some (.slice none 0 0) := by kernel_rfl
def KI : KeyK Tryz.prog 3 Int := intKey Tryz.prog 3 .i64 Tryz.underlying3
theorem keyI (n : Int) : KeyAt (Ty.int .i64 n) (KI.enc n) := key_int
attribute [local irreducible] flowsY loL Way.beg Way.fin Way.room waysQ waysH addQ sendM overUp overK
attribute [local irreducible] dInt dBool dSl dPp dPtr dAgg dTup dClo dAny dEx dStr dGd dCells dVec dVs dRow dOp nth Tri Into TOps Ctr bodyPost Exit.then Exit.inBlock Code.wp Code.wpIn dWhen dPa dPe dAo dArr dMp dPm dMap dCJ CtrG CtrI OpY keepPost iterPost bodyPostM roundQ
set_option maxRecDepth 100000 in
theorem c_begin (y : Yard) (fl : List Flow) (a : List Int) (w : Way) (hw : w.ix < fl.length) : Ctr Tryz.prog 181 [Ty.pp (deskP y fl a), Ty.agg (WayE.tys w)] (Ty.int .i64 (w.beg fl)) := by
  refine fn_intro Tryz.func181 rfl (by decide) Tryz.ntmps181 (by exact Nat.le_of_ble_eq_true rfl) fun w0 M0 => ?_
  refine t_seq ?_
  refine t_region ?_
  refine r_box_agg rfl ?_
  refine asI rfl ?_
  refine r_nil ?_
  refine i_then ?_
  refine t_seq ?_
  refine t_seq ?_
  refine t_region ?_
  refine r_field_pp rfl rfl rfl rfl rfl (by decide) ?_
  refine r_load_pp rfl rfl rfl rfl ?_
  refine r_nil ?_
  refine i_then ?_
  refine t_cond rfl (fun hc1 => ?_) (fun hc1 => ?_)
  ·
    refine t_seq ?_
    refine t_draw mixed rfl ?_
    refine mvP rfl ?_
    refine r_nilCheck_pp rfl ?_
    refine r_field_pp rfl rfl rfl rfl rfl (by decide) ?_
    refine r_load_pp rfl rfl rfl rfl ?_
    refine r_field_pp rfl rfl rfl rfl rfl (by decide) ?_
    refine r_load_pp rfl rfl rfl rfl ?_
    refine r_index_slN rfl rfl rfl rfl rfl rfl (by omega) ?_
    refine r_field_pp rfl rfl rfl rfl rfl (by decide) ?_
    refine r_load_pp rfl rfl rfl rfl ?_
    refine asI rfl ?_
    refine r_nil ?_
    refine ⟨by kernel_rfl, ?_⟩
    refine i_then ?_
    refine t_ret ?_
    refine i_then_ret ?_
    refine i_rp1 rfl rfl ?_
    all_goals skip
    all_goals exact ret_eq rfl rfl (congrArg (Ty.int .i64) (beg_yes hc1))
  ·
    refine t_skip ?_
    refine i_then ?_
    refine t_seq ?_
    refine t_draw mixed rfl ?_
    refine mvP rfl ?_
    refine r_nilCheck_pp rfl ?_
    refine r_field_pp rfl rfl rfl rfl rfl (by decide) ?_
    refine r_load_pp rfl rfl rfl rfl ?_
    refine r_field_pp rfl rfl rfl rfl rfl (by decide) ?_
    refine r_load_pp rfl rfl rfl rfl ?_
    refine r_index_slN rfl rfl rfl rfl rfl rfl (by omega) ?_
    refine r_field_pp rfl rfl rfl rfl rfl (by decide) ?_
    refine r_load_pp rfl rfl rfl rfl ?_
    refine asI rfl ?_
    refine r_nil ?_
    refine ⟨by kernel_rfl, ?_⟩
    refine i_then ?_
    refine t_ret ?_
    refine i_rp1 rfl rfl ?_
    all_goals skip
    all_goals exact ret_eq rfl rfl (congrArg (Ty.int .i64) (beg_no hc1))
set_option maxRecDepth 100000 in
theorem c_end (y : Yard) (fl : List Flow) (a : List Int) (h : Fine y fl a) (w : Way) (hw : w.ix < fl.length) : Ctr Tryz.prog 182 [Ty.pp (deskP y fl a), Ty.agg (WayE.tys w)] (Ty.tup [Ty.int .i64 (w.fin fl), Ty.int .i64 (w.room fl a)]) := by
  refine fn_intro Tryz.func182 rfl (by decide) Tryz.ntmps182 (by exact Nat.le_of_ble_eq_true rfl) fun w0 M0 => ?_
  have hl := h.inb.1
  have hb := h.amt hw
  refine t_seq ?_
  refine t_region ?_
  refine r_box_agg rfl ?_
  refine asI rfl ?_
  refine asI rfl ?_
  refine r_nil ?_
  refine i_then ?_
  refine t_seq ?_
  refine t_draw mixed rfl ?_
  refine mvP rfl ?_
  refine r_nilCheck_pp rfl ?_
  refine r_field_pp rfl rfl rfl rfl rfl (by decide) ?_
  refine r_load_pp rfl rfl rfl rfl ?_
  refine r_field_pp rfl rfl rfl rfl rfl (by decide) ?_
  refine r_load_pp rfl rfl rfl rfl ?_
  refine r_index_slN rfl rfl rfl rfl rfl rfl (by omega) ?_
  refine r_load_ppN rfl rfl rfl (by exact Nat.le_of_ble_eq_true rfl) ?_
  refine r_alloc rfl (by exact List.cons_ne_nil _ _) rfl ?_
  refine r_storeN rfl rfl (by decide) rfl rfl rfl rfl rfl rfl ?_
  refine r_nil ?_
  refine ⟨by kernel_rfl, ?_⟩
  refine i_then ?_
  refine t_seq ?_
  refine t_seq ?_
  refine t_region ?_
  refine r_field_pp rfl rfl rfl rfl rfl (by decide) ?_
  refine r_load_pp rfl rfl rfl rfl ?_
  refine r_nil ?_
  refine i_then ?_
  refine t_cond rfl (fun hc1 => ?_) (fun hc1 => ?_)
  ·
    refine t_seq ?_
    refine t_draw mixed rfl ?_
    refine r_field_ptr rfl rfl rfl rfl rfl (by decide) ?_
    refine r_load_ptr rfl rfl (by decide) rfl rfl rfl ?_
    refine r_field_ptr rfl rfl rfl rfl rfl (by decide) ?_
    refine r_load_ptr rfl rfl (by decide) rfl rfl rfl ?_
    refine mvP rfl ?_
    refine r_nilCheck_pp rfl ?_
    refine r_field_pp rfl rfl rfl rfl rfl (by decide) ?_
    refine r_load_pp rfl rfl rfl rfl ?_
    refine r_field_pp rfl rfl rfl rfl rfl (by decide) ?_
    refine r_load_pp rfl rfl rfl rfl ?_
    refine r_index_slN rfl rfl rfl rfl rfl rfl (by omega) ?_
    refine r_load_pp rfl rfl rfl rfl ?_
    refine r_sub rfl rfl (by omega) (by omega) ?_
    refine asI rfl ?_
    refine asI rfl ?_
    refine r_nil ?_
    refine ⟨by kernel_rfl, ?_⟩
    refine i_then ?_
    refine t_ret ?_
    refine i_then_ret ?_
    refine i_rp2 rfl rfl rfl ?_ ?_
    all_goals skip
    all_goals first | exact ret_eq rfl rfl (congrArg (Ty.int .i64) (fin_yes (a := a) hc1).1) | exact ret_eq rfl rfl (congrArg (Ty.int .i64) (fin_yes (a := a) hc1).2)
  ·
    refine t_skip ?_
    refine i_then ?_
    refine t_seq ?_
    refine t_draw mixed rfl ?_
    refine r_field_ptr rfl rfl rfl rfl rfl (by decide) ?_
    refine r_load_ptr rfl rfl (by decide) rfl rfl rfl ?_
    refine mvP rfl ?_
    refine r_nilCheck_pp rfl ?_
    refine r_field_pp rfl rfl rfl rfl rfl (by decide) ?_
    refine r_load_pp rfl rfl rfl rfl ?_
    refine r_field_pp rfl rfl rfl rfl rfl (by decide) ?_
    refine r_load_pp rfl rfl rfl rfl ?_
    refine r_index_slN rfl rfl rfl rfl rfl rfl (by omega) ?_
    refine r_load_pp rfl rfl rfl rfl ?_
    refine r_field_ptr rfl rfl rfl rfl rfl (by decide) ?_
    refine r_load_ptr rfl rfl (by decide) rfl rfl rfl ?_
    refine r_sub rfl rfl (by omega) (by omega) ?_
    refine asI rfl ?_
    refine asI rfl ?_
    refine r_nil ?_
    refine ⟨by kernel_rfl, ?_⟩
    refine i_then ?_
    refine t_ret ?_
    refine i_rp2 rfl rfl rfl ?_ ?_
    all_goals skip
    all_goals first | exact ret_eq rfl rfl (congrArg (Ty.int .i64) (fin_no (a := a) hc1).1) | exact ret_eq rfl rfl (congrArg (Ty.int .i64) (fin_no (a := a) hc1).2)
set_option maxRecDepth 100000 in
theorem k_send (y : Yard) (fl : List Flow) (a : List Int) (h : Fine y fl a) (l : List Way) (hl : l.length ≤ 100) (hw : ∀ w ∈ l, w.ix < fl.length) (d : Int) (hd : 0 ≤ d ∧ d ≤ 20000) : CtrG Tryz.prog 183 [1000] [(1000, Cont.vec I64 3 a)] [Ty.pp (deskS y fl 1000 fl.length), Ty.sl WayE l, Ty.int .i64 d] [(1000, Cont.vec I64 3 (sendM a l d))] (Ty.tup []) := by
  refine fnG_intro Tryz.func183 rfl (by decide) Tryz.ntmps183 (by exact Nat.le_of_ble_eq_true rfl) fun w0 M0 => ?_
  have hal := h.inb.1
  refine t_seq ?_
  refine t_region ?_
  refine mvS rfl ?_
  refine r_len rfl rfl rfl ?_
  refine mvI rfl ?_
  refine r_nil ?_
  refine i_then ?_
  refine t_block ?_
  refine t_loop (fun (k : {k : Nat // k ≤ l.length}) => live [(0, Ty.pp (deskS y fl 1000 fl.length)), (2, Ty.int .i64 d), (8, Ty.sl WayE l), (9, Ty.int .i64 l.length), (10, Ty.int .i64 (k.1 : Nat))] [(1000, Cont.vec I64 3 (sendM a (l.take k.1) d))]) (fun k => l.length - k.1) (⟨0, by omega⟩) ?_ fun k => ?_
  · (refine Ent.mk' ?_ ?_ <;> (repeat' (first | exact allSub_zero | exact allTags_nil | refine allSub_succ' ?_ (Ty.sub_any _) | refine allSub_succ' ?_ (Ty.sub_refl _) | refine allTags_cons rfl ?_ ?_)))
    all_goals exact Cont.sub_vec (sendM_zero _ _ _)
  ·
    have hsl := sendM_len d (l.take k.1) a
    have hk := k.2
    have hsa := sendM_abs hd h.abs (fun w hw' => by rw [hal]; exact hw w hw') k.1 k.2
    refine t_seq ?_
    refine t_region ?_
    refine r_bin rfl rfl rfl ?_
    refine r_nil ?_
    refine i_then ?_
    refine t_seq ?_
    refine t_cond_dec rfl (fun hc1 => ?_) (fun hc1 => ?_)
    ·
      refine t_skip ?_
      refine i_then ?_
      refine t_seq ?_
      refine t_block ?_
      refine t_seq ?_
      have hwk := hw _ (nth_mem (xs := l) (k := k.1) (by omega))
      have hsk := hsa (nth l k.1).ix
      refine t_region ?_
      refine r_index_slN rfl rfl rfl rfl rfl rfl (by omega) ?_
      refine r_load_ppN rfl rfl rfl (by exact Nat.le_of_ble_eq_true rfl) ?_
      refine r_alloc rfl (by exact List.cons_ne_nil _ _) rfl ?_
      refine r_storeN rfl rfl (by decide) rfl rfl rfl rfl rfl rfl ?_
      refine r_nil ?_
      refine i_then ?_
      refine t_seq ?_
      refine t_region ?_
      refine r_field_ptr rfl rfl rfl rfl rfl (by decide) ?_
      refine r_load_ptr rfl rfl (by decide) rfl rfl rfl ?_
      refine r_nil ?_
      refine i_then ?_
      refine t_cond rfl (fun hc2 => ?_) (fun hc2 => ?_)
      ·
        refine t_draw mixed rfl ?_
        refine mvP rfl ?_
        refine r_nilCheck_pp rfl ?_
        refine r_field_pp rfl rfl rfl rfl rfl (by decide) ?_
        refine r_load_pp rfl rfl rfl rfl ?_
        refine r_field_ptr rfl rfl rfl rfl rfl (by decide) ?_
        refine r_load_ptr rfl rfl (by decide) rfl rfl rfl ?_
        refine r_index_vs rfl rfl rfl rfl rfl (by omega) ?_
        refine r_load_vecB rfl rfl rfl (by decide) rfl rfl (by omega) rfl ?_
        refine mvI rfl ?_
        refine r_add rfl rfl (by omega) (by omega) ?_
        refine r_index_vs rfl rfl rfl rfl rfl (by omega) ?_
        refine r_store_vecB rfl rfl rfl (by decide) rfl rfl (by exact (rfl : _ = Ty.int _ _)) rfl (by omega) (by decide) rfl rfl ?_
        refine r_nil ?_
        refine ⟨by kernel_rfl, ?_⟩
        refine i_block ?_
        refine i_then ?_
        refine t_region ?_
        refine r_add rfl rfl (by omega) (by omega) ?_
        refine mvI rfl ?_
        refine r_nil ?_
        refine i_round (⟨k.1 + 1, by omega⟩) ?_ (by show l.length - (k.1 + 1) < l.length - k.1; omega)
        (refine Ent.mk' ?_ ?_ <;> (repeat' (first | exact allSub_zero | exact allTags_nil | refine allSub_succ' ?_ (Ty.sub_any _) | refine allSub_succ' ?_ (Ty.sub_refl _) | refine allTags_cons rfl ?_ ?_)))
        all_goals skip
        all_goals exact Cont.sub_vec (sendY (by omega) hc2)
      ·
        refine t_draw mixed rfl ?_
        refine mvP rfl ?_
        refine r_nilCheck_pp rfl ?_
        refine r_field_pp rfl rfl rfl rfl rfl (by decide) ?_
        refine r_load_pp rfl rfl rfl rfl ?_
        refine r_field_ptr rfl rfl rfl rfl rfl (by decide) ?_
        refine r_load_ptr rfl rfl (by decide) rfl rfl rfl ?_
        refine r_index_vs rfl rfl rfl rfl rfl (by omega) ?_
        refine r_load_vecB rfl rfl rfl (by decide) rfl rfl (by omega) rfl ?_
        refine mvI rfl ?_
        refine r_sub rfl rfl (by omega) (by omega) ?_
        refine r_index_vs rfl rfl rfl rfl rfl (by omega) ?_
        refine r_store_vecB rfl rfl rfl (by decide) rfl rfl (by exact (rfl : _ = Ty.int _ _)) rfl (by omega) (by decide) rfl rfl ?_
        refine r_nil ?_
        refine ⟨by kernel_rfl, ?_⟩
        refine i_block ?_
        refine i_then ?_
        refine t_region ?_
        refine r_add rfl rfl (by omega) (by omega) ?_
        refine mvI rfl ?_
        refine r_nil ?_
        refine i_round (⟨k.1 + 1, by omega⟩) ?_ (by show l.length - (k.1 + 1) < l.length - k.1; omega)
        (refine Ent.mk' ?_ ?_ <;> (repeat' (first | exact allSub_zero | exact allTags_nil | refine allSub_succ' ?_ (Ty.sub_any _) | refine allSub_succ' ?_ (Ty.sub_refl _) | refine allTags_cons rfl ?_ ?_)))
        all_goals skip
        all_goals exact Cont.sub_vec (sendN (by omega) hc2)
    ·
      refine t_exit ?_
      refine i_then_exit ?_
      refine i_then_exit ?_
      refine i_block_exit rfl ?_
      refine i_end ?_
      refine g_ret0 [1000] rfl (by decide) ?_
      · exact rc_cons rfl (cc_vec (by decide) (by rw [List.take_of_length_le (by have := k.2; omega)])) rc_nil
set_option maxRecDepth 100000 in
theorem k_over (y : Yard) (fl : List Flow) (a : List Int) (h : Fine y fl a) : CtrG Tryz.prog 178 [1000] [(1000, Cont.vec I64 3 a)] [Ty.pp (deskS y fl 1000 fl.length)] [(1000, Cont.vec I64 3 a)] (Ty.sl I64 (overL fl a (y.cells + 1))) := by
  refine fnG_intro Tryz.func178 rfl (by decide) Tryz.ntmps178 (by exact Nat.le_of_ble_eq_true rfl) fun w0 M0 => ?_
  have hal := h.inb.1
  have hcl := cells_le h.right
  have hfl := h.few
  refine t_seq ?_
  refine t_region ?_
  refine asX rfl ?_
  refine r_nil ?_
  refine i_then ?_
  refine t_seq ?_
  refine t_region ?_
  refine mvP rfl ?_
  refine r_callLC [] (c_cells y h.right) rfl (lendcs_cons (lendc_pre (l1 := yardTys y) (l2 := [Ty.sl FlowE fl, Ty.vs 1000 fl.length]) rfl rfl) lendcs_nil) (by exact plain_int _ _) ?_
  refine r_add rfl rfl (by omega) (by omega) ?_
  refine r_makeV (E := I64) (x0 := 0) rfl rfl rfl rfl rfl rfl rfl (by decide) rfl (by omega) (by (dsimp only; omega)) (by omega) ?_
  refine asV rfl ?_
  refine r_nil ?_
  refine i_then ?_
  refine t_seq ?_
  refine t_seq ?_
  refine t_region ?_
  refine mvP rfl ?_
  refine r_nilCheck_pp rfl ?_
  refine r_field_pp rfl rfl rfl rfl rfl (by decide) ?_
  refine r_load_pp rfl rfl rfl rfl ?_
  refine r_len rfl rfl rfl ?_
  refine mvI rfl ?_
  refine r_nil ?_
  refine i_then ?_
  refine t_block ?_
  refine t_loop (fun (k : {k : Nat // k ≤ fl.length}) => live [(0, Ty.pp (deskS y fl 1000 fl.length)), (3, Ty.vs 10 (y.cells + 1)), (13, Ty.sl FlowE fl), (14, Ty.int .i64 fl.length), (15, Ty.int .i64 (k.1 : Nat))] [(1000, Cont.vec I64 3 a), (10, Cont.vec I64 3 (overUp fl a (y.cells + 1) k.1))]) (fun k => fl.length - k.1) (⟨0, by omega⟩) ?_ fun k => ?_
  · (refine Ent.mk' ?_ ?_ <;> (repeat' (first | exact allSub_zero | exact allTags_nil | refine allSub_succ' ?_ (Ty.sub_any _) | refine allSub_succ' ?_ (Ty.sub_refl _) | refine allTags_cons rfl (Cont.sub_refl _) ?_ | refine allTags_cons rfl ?_ ?_)))
    all_goals exact Cont.sub_vec (over_zero _ _ _)
  ·
    have hk := k.2
    have hul := overUp_len (fl := fl) (a := a) (n := y.cells + 1) (k := k.1)
    refine t_seq ?_
    refine t_region ?_
    refine r_bin rfl rfl rfl ?_
    refine r_nil ?_
    refine i_then ?_
    refine t_seq ?_
    refine t_cond_dec rfl (fun hc1 => ?_) (fun hc1 => ?_)
    ·
      refine t_skip ?_
      refine i_then ?_
      refine t_seq ?_
      refine t_block ?_
      refine t_seq ?_
      refine t_region ?_
      refine mvI rfl ?_
      refine r_index_slN rfl rfl rfl rfl rfl rfl (by omega) ?_
      refine r_load_ppN rfl rfl rfl (by exact Nat.le_of_ble_eq_true rfl) ?_
      refine r_alloc rfl (by exact List.cons_ne_nil _ _) rfl ?_
      refine asI rfl ?_
      refine r_storeN rfl rfl (by decide) rfl rfl rfl rfl rfl rfl ?_
      refine r_nil ?_
      refine i_then ?_
      refine t_seq ?_
      have hs := h.net.src k.1 (by omega)
      have hd := h.net.dst k.1 (by omega)
      have hamt := (h.amt (show k.1 < fl.length by omega)).1
      have habs := fun c => overK_abs (fl := fl) (a := a) (c := c) (k := k.1) fun i hi => (h.amt (show i < fl.length by omega)).1
      have hn1 := overUp_nth (fl := fl) (a := a) (n := y.cells + 1) (k := k.1) (c := (nth fl k.1).src.toNat) (by omega)
      have hb1 := habs ((nth fl k.1).src.toNat : Nat)
      refine t_draw mixed rfl ?_
      refine mvV rfl ?_
      refine r_field_ptr rfl rfl rfl rfl rfl (by decide) ?_
      refine r_load_ptr rfl rfl (by decide) rfl rfl rfl ?_
      refine r_index_vsI rfl rfl rfl rfl rfl hs.1 (by omega) ?_
      refine r_load_vecB rfl rfl rfl (by decide) rfl rfl (by omega) rfl ?_
      refine mvP rfl ?_
      refine r_nilCheck_pp rfl ?_
      refine r_field_pp rfl rfl rfl rfl rfl (by decide) ?_
      refine r_load_pp rfl rfl rfl rfl ?_
      refine mvI rfl ?_
      refine r_index_vs rfl rfl rfl rfl rfl (by omega) ?_
      refine r_load_vecB rfl rfl rfl (by decide) rfl rfl (by omega) rfl ?_
      refine r_sub rfl rfl (by omega) (by omega) ?_
      refine r_index_vsI rfl rfl rfl rfl rfl hs.1 (by omega) ?_
      refine r_store_vecB rfl rfl rfl (by decide) rfl rfl (by exact (rfl : _ = Ty.int _ _)) rfl (by omega) (by decide) rfl rfl ?_
      refine r_nil ?_
      refine ⟨by kernel_rfl, ?_⟩
      refine i_then ?_
      have hsl : (overS fl a (overUp fl a (y.cells + 1) k.1) k.1).length = y.cells + 1 := (overS_len _ _ _ _).trans hul
      have hb2 := overS_abs (fl := fl) (a := a) (n := y.cells + 1) (k := k.1) (c := (nth fl k.1).dst.toNat) habs hamt (by omega) (by omega)
      unfold overS at hb2 hsl
      refine t_draw mixed rfl ?_
      refine mvV rfl ?_
      refine r_field_ptr rfl rfl rfl rfl rfl (by decide) ?_
      refine r_load_ptr rfl rfl (by decide) rfl rfl rfl ?_
      refine r_index_vsI rfl rfl rfl rfl rfl hd.1 (by omega) ?_
      refine r_load_vecB rfl rfl rfl (by decide) rfl rfl (by omega) rfl ?_
      refine mvP rfl ?_
      refine r_nilCheck_pp rfl ?_
      refine r_field_pp rfl rfl rfl rfl rfl (by decide) ?_
      refine r_load_pp rfl rfl rfl rfl ?_
      refine mvI rfl ?_
      refine r_index_vs rfl rfl rfl rfl rfl (by omega) ?_
      refine r_load_vecB rfl rfl rfl (by decide) rfl rfl (by omega) rfl ?_
      refine r_add rfl rfl (by omega) (by omega) ?_
      refine r_index_vsI rfl rfl rfl rfl rfl hd.1 (by omega) ?_
      refine r_store_vecB rfl rfl rfl (by decide) rfl rfl (by exact (rfl : _ = Ty.int _ _)) rfl (by omega) (by decide) rfl rfl ?_
      refine r_nil ?_
      refine ⟨by kernel_rfl, ?_⟩
      refine i_block ?_
      refine i_then ?_
      refine t_region ?_
      refine r_add rfl rfl (by omega) (by omega) ?_
      refine mvI rfl ?_
      refine r_nil ?_
      refine i_round (⟨k.1 + 1, by omega⟩) ?_ (by show fl.length - (k.1 + 1) < fl.length - k.1; omega)
      (refine Ent.mk' ?_ ?_ <;> (repeat' (first | exact allSub_zero | exact allTags_nil | refine allSub_succ' ?_ (Ty.sub_any _) | refine allSub_succ' ?_ (Ty.sub_refl _) | refine allTags_cons rfl (Cont.sub_refl _) ?_ | refine allTags_cons rfl ?_ ?_)))
      all_goals skip
      all_goals exact Cont.sub_vec (overUp_succ hs hd)
    ·
      refine t_exit ?_
      refine i_then_exit ?_
      refine i_then_exit ?_
      refine i_block_exit rfl ?_
      refine i_then ?_
      refine t_seq ?_
      refine t_pub (tg := 10) [(3, Ty.sl I64 (overUp fl a (y.cells + 1) k.1))] (by decide) rfl ⟨pub_vs rfl rfl hul (by decide), trivial⟩ ?_
      refine t_as (s := 3) rfl (Ty.sub_sl (show overUp fl a (y.cells + 1) k.1 = overL fl a (y.cells + 1) by rw [show k.1 = fl.length by have := k.2; omega]; exact overUp_all)) ?_
      refine t_region ?_
      refine mvS rfl ?_
      refine asS rfl ?_
      refine r_nil ?_
      refine i_then ?_
      refine t_ret ?_
      refine g_ret1 [1000] rfl rfl (by decide) (by repeat (first | exact rc_nil | refine rc_cons rfl (cc_vec (by decide) rfl) ?_)) ?_
      all_goals exact rg_cv (cv_pub rfl rfl)
end Go.Proofs.YtelbollidfdcjaaGreat

namespace Go.Proofs.YtelbollidfdcjaaGreat
open Go Go.T
section
variable {fl : List Flow} {a : List Int} {n : Nat} {s t : Int} {x : BSt}
def headB (x : BSt) : Int := nth x.queue 0
def restB (x : BSt) : BSt := ⟨x.by_, x.queue.drop 1⟩
theorem queue_eq (h : 0 < x.queue.length) : x.queue = headB x :: x.queue.drop 1 := by
  unfold headB
  cases hq : x.queue with
  | nil => rw [hq] at h; exact absurd h (by simp)
  | cons c r => rfl
structure BIx (fl : List Flow) (a : List Int) (n : Nat) (s : Int) (x : BSt) : Prop where
  inv : BInv fl a n s x none
  same : outI (stepB fl a s) x = reachM fl a s
  short : x.queue.length ≤ x.by_.length + 1
theorem bix0 (hs : 0 ≤ s ∧ s < n) : BIx fl a n s ⟨[], [s]⟩ := ⟨binv0 hs, rfl, Nat.le_refl _⟩
theorem stepB_eq (h : 0 < x.queue.length) : stepB fl a s x = .inl (foldB fl a s (headB x) (restB x) (waysL fl a (headB x)).length) := by
  have e := queue_eq h
  unfold stepB
  rw [e]; rfl
theorem BIx.fold (hN : Net fl n) (h : BIx fl a n s x) (hq : 0 < x.queue.length) {k : Nat} (hk : k ≤ (waysL fl a (headB x)).length) :
    (foldB fl a s (headB x) (restB x) k).queue.length ≤ n ∧ (foldB fl a s (headB x) (restB x) k).by_.length ≤ n ∧ (foldB fl a s (headB x) (restB x) k).queue.length ≤ (foldB fl a s (headB x) (restB x) k).by_.length := by
  have h1 := (h.inv.pop (queue_eq hq)).fold hN k hk
  have h2 := h1.few
  have h3 := foldB_mu (fl := fl) (a := a) (s := s) (c := headB x) (x := restB x) k hk
  have h4 := h.short
  have e1 : (restB x).queue.length + 1 = x.queue.length := by show (x.queue.drop 1).length + 1 = _; rw [List.length_drop]; omega
  have e2 : (restB x).by_ = x.by_ := rfl
  rw [e2] at h3
  change (foldB fl a s (headB x) (restB x) k).by_.length ≤ n at h2
  omega
theorem BIx.next (hN : Net fl n) (h : BIx fl a n s x) (hq : 0 < x.queue.length) : BIx fl a n s (foldB fl a s (headB x) (restB x) (waysL fl a (headB x)).length) ∧ muB n (foldB fl a s (headB x) (restB x) (waysL fl a (headB x)).length) < muB n x := by
  obtain ⟨h1, h2⟩ := stepB_next hN h.inv (queue_eq hq)
  exact ⟨⟨h1, by rw [← outI_step (stepB_eq hq)]; exact h.same, by have := (h.fold hN hq (Nat.le_refl _)).2.2; omega⟩, h2⟩
theorem BIx.end (h : BIx fl a n s x) (hq : ¬ 0 < x.queue.length) : x.by_ = reachM fl a s := by
  rw [← h.same]
  refine (outI_stop ?_).symm
  unfold stepB
  rw [List.length_eq_zero_iff.1 (show x.queue.length = 0 by omega)]
theorem foldB_yes {c : Int} {z : BSt} {k : Nat} (hk : k < (waysL fl a c).length) (h : newB fl s (foldB fl a s c z k).by_ (nth (waysL fl a c) k) = true) :
    mput (foldB fl a s c z k).by_ ((nth (waysL fl a c) k).fin fl) (nth (waysL fl a c) k) = (foldB fl a s c z (k + 1)).by_ ∧ (foldB fl a s c z k).queue ++ [(nth (waysL fl a c) k).fin fl] = (foldB fl a s c z (k + 1)).queue := by
  rw [foldB_succ hk, lookB_yes h]; exact ⟨rfl, rfl⟩
theorem foldB_no {c : Int} {z : BSt} {k : Nat} (hk : k < (waysL fl a c).length) (h : newB fl s (foldB fl a s c z k).by_ (nth (waysL fl a c) k) = false) :
    (foldB fl a s c z k).by_ = (foldB fl a s c z (k + 1)).by_ ∧ (foldB fl a s c z k).queue = (foldB fl a s c z (k + 1)).queue := by
  rw [foldB_succ hk, lookB_no h]; exact ⟨rfl, rfl⟩
theorem foldB_zero {c : Int} {z : BSt} : foldB fl a s c z 0 = z := rfl
structure SIx (fl : List Flow) (n : Nat) (a0 a : List Int) : Prop where
  inb : Inb fl a
  same : outI (stepS fl n) a = settleM fl n a0
theorem SIx.done {a0 : List Int} (h : SIx fl n a0 a) (e : hasM fl a n < 0) : settleM fl n a0 = (0, false, a) := by
  rw [← h.same]; exact outI_stop (if_pos e)
theorem SIx.stuck {a0 : List Int} (h : SIx fl n a0 a) (e : ¬ hasM fl a n < 0) (e2 : lackM fl a n (reachM fl a (hasM fl a n)) < 0) : settleM fl n a0 = (hasM fl a n, true, a) := by
  rw [← h.same]; exact outI_stop ((if_neg e).trans (if_pos e2))
theorem SIx.next {a0 : List Int} (hN : Net fl n) (h : SIx fl n a0 a) (e : ¬ hasM fl a n < 0) (e2 : ¬ lackM fl a n (reachM fl a (hasM fl a n)) < 0) :
    SIx fl n a0 (sendS fl a (hasM fl a n) (lackM fl a n (reachM fl a (hasM fl a n)))) ∧ Sent fl a n (hasM fl a n) (lackM fl a n (reachM fl a (hasM fl a n))) := by
  obtain ⟨s, s1, s2, s3⟩ := has_some e
  obtain ⟨t, t1, t2, t3, t4⟩ := lack_some e2
  rw [s2] at t2 t3 ⊢
  rw [t2]
  have hS := sent hN h.inb s1 t1 s3 t3 t4
  refine ⟨⟨hS.inb, ?_⟩, hS⟩
  rw [← h.same]
  refine (outI_step ?_).symm
  unfold stepS
  rw [if_neg e, s2, if_neg (by rw [t2]; omega), t2]
structure PIx (fl : List Flow) (a : List Int) (q : List (Int × Way)) (s t : Int) (dep : Int → Nat) (x : Int × List Way) : Prop where
  inv : PInv fl a q s t dep x
  same : outI (stepP fl q s) x = pathM fl q s t
theorem pix0 {dep : Int → Nat} {q : List (Int × Way)} (ht : Met q s t) : PIx fl a q s t dep (t, []) :=
  ⟨⟨rfl, (fun w h => by cases h), (fun w h => by cases h), List.nodup_nil, ht, by simp⟩, rfl⟩
theorem stepP_stop {q : List (Int × Way)} {x : Int × List Way} (hx : x.1 = s) : stepP fl q s x = .inr x.2 := if_pos hx
theorem stepP_step {q : List (Int × Way)} {x : Int × List Way} (hx : ¬ x.1 = s) : stepP fl q s x = .inl ((wayTo q x.1).beg fl, x.2 ++ [wayTo q x.1]) := if_neg hx
theorem PIx.next {dep : Int → Nat} {q : List (Int × Way)} (hd : ∀ c w, mget q c = some w → Open fl a w ∧ w.fin fl = c ∧ Met q s (w.beg fl) ∧ dep (w.beg fl) < dep c ∧ dep c ≤ q.length) {x : Int × List Way} (h : PIx fl a q s t dep x) (hx : ¬ x.1 = s) :
    PIx fl a q s t dep ((wayTo q x.1).beg fl, x.2 ++ [wayTo q x.1]) ∧ dep ((wayTo q x.1).beg fl) < dep x.1 ∧ Open fl a (wayTo q x.1) := by
  obtain ⟨h1, h2⟩ := h.inv.next hd hx
  refine ⟨⟨h1, ?_⟩, h2, h1.ways _ (List.mem_append.2 (.inr (List.mem_singleton.2 rfl)))⟩
  rw [← h.same]
  exact (outI_step (stepP_step hx)).symm
theorem PIx.end {dep : Int → Nat} {q : List (Int × Way)} {x : Int × List Way} (h : PIx fl a q s t dep x) (hx : x.1 = s) : x.2 = pathM fl q s t := by
  rw [← h.same]; exact (outI_stop (stepP_stop hx)).symm
theorem PIx.few {dep : Int → Nat} {q : List (Int × Way)} {x : Int × List Way} (h : PIx fl a q s t dep x) : x.2.length ≤ dep t := by
  have := h.inv.few; omega
end
end Go.Proofs.YtelbollidfdcjaaGreat

namespace Go.Proofs.YtelbollidfdcjaaGreat
open Go Go.T
set_option maxHeartbeats 8000000
def WayV : VT Way := ⟨fun w => Ty.agg (WayE.tys w), fun _ => ⟨rfl, rfl⟩⟩
theorem mapT196 : mapOf Tryz.prog 196 = some (3, 199) := by kernel_rfl
theorem zero199 : zeroOf Tryz.prog 199 = some (.agg #[.int .i64 0, .bool false]) := by kernel_rfl
theorem way_zero : ∀ w M, (WayV.ty (default : Way)).den w M (.agg #[.int .i64 0, .bool false]) := fun _ _ => ⟨_, rfl, rfl, rfl, trivial⟩
theorem nil_ways : ∀ w M, ((VSl WayE).ty []).den w M (.slice none 0 0) := fun w M => Ty.nil_sl w M _ rfl
section
variable {fl : List Flow} {a : List Int} {s : Int} {q : List (Int × Way)} {w : Way}
theorem waysH_put {q : WQ} {k : Nat} (h : nth a k < (nth fl k).hi) : mput q (nth fl k).src ((mget q (nth fl k).src).getD [] ++ [⟨k, true⟩]) = waysH fl a q k := (if_pos h).symm
theorem waysQ_put {k : Nat} (h : nth a k > (nth fl k).lo) : mput (waysH fl a (waysQ fl a k) k) (nth fl k).dst ((mget (waysH fl a (waysQ fl a k) k) (nth fl k).dst).getD [] ++ [⟨k, false⟩]) = waysQ fl a (k + 1) := (if_pos h).symm
theorem new_eq : (!(mget q (w.fin fl)).isSome && !decide (w.fin fl = s)) = newB fl s q w := rfl
end
theorem mapU {α : Type} {E : El α} {T J : Nat} {l l' : List α} (e : l = l') : (Ty.rowO E T J l).Sub (Ty.rowO E T J l') := Ty.sub_eq (congrArg (Ty.rowO E T J) e)
attribute [local irreducible] flowsY loL Way.beg Way.fin Way.room waysQ waysH addQ sendM overUp overK waysL foldB reachM newB headB
attribute [local irreducible] dInt dBool dSl dPp dPtr dAgg dTup dClo dAny dEx dStr dGd dCells dVec dVs dRow dOp nth Tri Into TOps Ctr bodyPost Exit.then Exit.inBlock Code.wp Code.wpIn dWhen dPa dPe dAo dArr dMp dPm dMap dCJ CtrG CtrI OpY keepPost iterPost bodyPostM roundQ
set_option maxRecDepth 100000 in
theorem k_ways (y : Yard) (fl : List Flow) (a : List Int) (h : Fine y fl a) : CtrG Tryz.prog 184 [1000] [(1000, Cont.vec I64 3 a)] [Ty.pp (deskS y fl 1000 fl.length)] [(1000, Cont.vec I64 3 a)] (Ty.pm KI.enc (VSl WayE) (waysQ fl a fl.length)) := by
  refine fnG_intro Tryz.func184 rfl (by decide) Tryz.ntmps184 (by exact Nat.le_of_ble_eq_true rfl) fun w0 M0 => ?_
  have hal := h.inb.1
  have hfl := h.few
  refine t_seq ?_
  refine t_region ?_
  refine asX rfl ?_
  refine r_nil ?_
  refine i_then ?_
  refine t_seq ?_
  refine t_region ?_
  refine r_makeMapQ KI.enc WayE 199 6000 mapT227 rfl ?_
  refine asM rfl ?_
  refine r_nil ?_
  refine i_then ?_
  refine t_seq ?_
  refine t_seq ?_
  refine t_region ?_
  refine mvP rfl ?_
  refine r_nilCheck_pp rfl ?_
  refine r_field_pp rfl rfl rfl rfl rfl (by decide) ?_
  refine r_load_pp rfl rfl rfl rfl ?_
  refine r_len rfl rfl rfl ?_
  refine mvI rfl ?_
  refine r_nil ?_
  refine i_then ?_
  refine t_block ?_
  refine t_loop (fun (k : {k : Nat // k ≤ fl.length}) => live [(0, Ty.pp (deskS y fl 1000 fl.length)), (3, Ty.mp 7), (10, Ty.sl FlowE fl), (11, Ty.int .i64 fl.length), (12, Ty.int .i64 (k.1 : Nat))] [(1000, Cont.vec I64 3 a), (7, Cont.mr KI.enc WayE 199 6000 (waysQ fl a k.1))]) (fun k => fl.length - k.1) (⟨0, by omega⟩) ?_ fun k => ?_
  · (refine Ent.mk' ?_ ?_ <;> (repeat' (first | exact allSub_zero | exact allTags_nil | refine allSub_succ' ?_ (Ty.sub_any _) | refine allSub_succ' ?_ (Ty.sub_refl _) | refine allTags_cons rfl (Cont.sub_refl _) ?_ | refine allTags_cons rfl ?_ ?_)))
    all_goals exact Cont.sub_mr (ways_zero fl a)
  ·
    have hk := k.2
    refine t_seq ?_
    refine t_region ?_
    refine r_bin rfl rfl rfl ?_
    refine r_nil ?_
    refine i_then ?_
    refine t_seq ?_
    refine t_cond_dec rfl (fun hc1 => ?_) (fun hc1 => ?_)
    ·
      refine t_skip ?_
      refine i_then ?_
      refine t_seq ?_
      refine t_block ?_
      refine t_seq ?_
      refine t_region ?_
      refine mvI rfl ?_
      refine r_index_slN rfl rfl rfl rfl rfl rfl (by omega) ?_
      refine r_load_ppN rfl rfl rfl (by exact Nat.le_of_ble_eq_true rfl) ?_
      refine r_alloc rfl (by exact List.cons_ne_nil _ _) rfl ?_
      refine asI rfl ?_
      refine r_storeN rfl rfl (by decide) rfl rfl rfl rfl rfl rfl ?_
      refine r_nil ?_
      refine i_then ?_
      refine t_join (J := live [(0, Ty.pp (deskS y fl 1000 fl.length)), (3, Ty.mp 7), (4, Ty.int .i64 (k.1 : Nat)), (5, Ty.ptr 6 0), (10, Ty.sl FlowE fl), (11, Ty.int .i64 fl.length), (12, Ty.int .i64 (k.1 : Nat))] [(1000, Cont.vec I64 3 a), (7, Cont.mr KI.enc WayE 199 6000 (waysH fl a (waysQ fl a k.1) k.1)), (6, Cont.cells 187 (FlowE.tys (nth fl k.1)))]) ?_ ?_
      ·
        refine t_seq ?_
        refine t_draw mixed rfl ?_
        refine mvP rfl ?_
        refine r_nilCheck_pp rfl ?_
        refine r_field_pp rfl rfl rfl rfl rfl (by decide) ?_
        refine r_load_pp rfl rfl rfl rfl ?_
        refine mvI rfl ?_
        refine r_index_vs rfl rfl rfl rfl rfl (by omega) ?_
        refine r_load_vecB rfl rfl rfl (by decide) rfl rfl (by omega) rfl ?_
        refine r_field_ptr rfl rfl rfl rfl rfl (by decide) ?_
        refine r_load_ptr rfl rfl (by decide) rfl rfl rfl ?_
        refine r_bin rfl rfl rfl ?_
        refine r_nil ?_
        refine ⟨by kernel_rfl, ?_⟩
        refine i_then ?_
        refine t_cond_dec rfl (fun hc2 => ?_) (fun hc2 => ?_)
        ·
          have hq := fun c => waysQ_few (fl := fl) (a := a) (c := c) k.1
          have hq1 := hq (nth fl k.1).src
          refine t_draw mixed rfl ?_
          refine mvM rfl ?_
          refine r_field_ptr rfl rfl rfl rfl rfl (by decide) ?_
          refine r_load_ptr rfl rfl (by decide) rfl rfl rfl ?_
          refine mvM rfl ?_
          refine r_field_ptr rfl rfl rfl rfl rfl (by decide) ?_
          refine r_load_ptr rfl rfl (by decide) rfl rfl rfl ?_
          refine r_lookupQ KI rfl rfl (by decide) rfl (keyI _) mapT227 zero222 ?_
          refine mvI rfl ?_
          refine r_build rfl rfl (by exact List.cons_ne_nil _ _) rfl (by repeat (first | exact (Parts.nil : Parts _ _ [] _) | (show Parts _ _ ((_, _) :: _) _; apply Parts.one; (· first | exact (rfl : _ = Ty.int _ _) | exact (rfl : _ = Ty.bool _)); (· exact rfl)))) (by exact (rfl : _ = some [_, _])) ?_
          refine r_buildSlice (E := WayE) (xs := [⟨k.1, true⟩]) rfl rfl rfl rfl rfl (by decide) (by decide) (by repeat (first | exact (Parts.nil : Parts _ _ [] _) | (show Parts _ _ ((_, _) :: _) _; apply Parts.agg; (· exact (rfl : _ = Ty.agg _))))) (by exact rfl) rfl ?_
          refine r_appendQ rfl rfl rfl (by decide) (by decide) rfl (by show 0 < 1; decide) rfl rfl rfl rfl rfl (by decide) (by show (((mget _ _).getD []).length + 1) * 16 ≤ _; unfold getQ at hq1; omega) (by show ((mget _ _).getD []).length + 1 ≤ _; unfold getQ at hq1; omega) ?_
          refine r_updateQ KI rfl rfl (by decide) rfl (keyI _) rfl mapT227 rfl ?_
          refine r_nil ?_
          refine ⟨by kernel_rfl, ?_⟩
          refine i_join ?_
          (refine Ent.mk' ?_ ?_ <;> (repeat' (first | exact allSub_zero | exact allTags_nil | refine allSub_succ' ?_ (Ty.sub_any _) | refine allSub_succ' ?_ (Ty.sub_refl _) | refine allTags_cons rfl (Cont.sub_refl _) ?_ | refine allTags_cons rfl ?_ ?_)))
          all_goals exact Cont.sub_mr (waysH_put hc2)
        ·
          refine t_skip ?_
          refine i_join ?_
          (refine Ent.mk' ?_ ?_ <;> (repeat' (first | exact allSub_zero | exact allTags_nil | refine allSub_succ' ?_ (Ty.sub_any _) | refine allSub_succ' ?_ (Ty.sub_refl _) | refine allTags_cons rfl (Cont.sub_refl _) ?_ | refine allTags_cons rfl ?_ ?_)))
          all_goals exact Cont.sub_mr (waysH_no hc2)
      ·
        refine t_seq ?_
        refine t_draw mixed rfl ?_
        refine mvP rfl ?_
        refine r_nilCheck_pp rfl ?_
        refine r_field_pp rfl rfl rfl rfl rfl (by decide) ?_
        refine r_load_pp rfl rfl rfl rfl ?_
        refine mvI rfl ?_
        refine r_index_vs rfl rfl rfl rfl rfl (by omega) ?_
        refine r_load_vecB rfl rfl rfl (by decide) rfl rfl (by omega) rfl ?_
        refine r_field_ptr rfl rfl rfl rfl rfl (by decide) ?_
        refine r_load_ptr rfl rfl (by decide) rfl rfl rfl ?_
        refine r_bin rfl rfl rfl ?_
        refine r_nil ?_
        refine ⟨by kernel_rfl, ?_⟩
        refine i_then ?_
        refine t_cond_dec rfl (fun hc3 => ?_) (fun hc3 => ?_)
        ·
          have hq2 := waysH_few (fl := fl) (a := a) (c := (nth fl k.1).dst) (k := k.1)
          refine t_draw mixed rfl ?_
          refine mvM rfl ?_
          refine r_field_ptr rfl rfl rfl rfl rfl (by decide) ?_
          refine r_load_ptr rfl rfl (by decide) rfl rfl rfl ?_
          refine mvM rfl ?_
          refine r_field_ptr rfl rfl rfl rfl rfl (by decide) ?_
          refine r_load_ptr rfl rfl (by decide) rfl rfl rfl ?_
          refine r_lookupQ KI rfl rfl (by decide) rfl (keyI _) mapT227 zero222 ?_
          refine mvI rfl ?_
          refine r_build rfl rfl (by exact List.cons_ne_nil _ _) rfl (by repeat (first | exact (Parts.nil : Parts _ _ [] _) | (show Parts _ _ ((_, _) :: _) _; apply Parts.one; (· first | exact (rfl : _ = Ty.int _ _) | exact (rfl : _ = Ty.bool _)); (· exact rfl)))) (by exact (rfl : _ = some [_, _])) ?_
          refine r_buildSlice (E := WayE) (xs := [⟨k.1, false⟩]) rfl rfl rfl rfl rfl (by decide) (by decide) (by repeat (first | exact (Parts.nil : Parts _ _ [] _) | (show Parts _ _ ((_, _) :: _) _; apply Parts.agg; (· exact (rfl : _ = Ty.agg _))))) (by exact rfl) rfl ?_
          refine r_appendQ rfl rfl rfl (by decide) (by decide) rfl (by show 0 < 1; decide) rfl rfl rfl rfl rfl (by decide) (by show (((mget _ _).getD []).length + 1) * 16 ≤ _; unfold getQ at hq2; omega) (by show ((mget _ _).getD []).length + 1 ≤ _; unfold getQ at hq2; omega) ?_
          refine r_updateQ KI rfl rfl (by decide) rfl (keyI _) rfl mapT227 rfl ?_
          refine r_nil ?_
          refine ⟨by kernel_rfl, ?_⟩
          refine i_block ?_
          refine i_then ?_
          refine t_region ?_
          refine r_add rfl rfl (by omega) (by omega) ?_
          refine mvI rfl ?_
          refine r_nil ?_
          refine i_round (⟨k.1 + 1, by omega⟩) ?_ (by show fl.length - (k.1 + 1) < fl.length - k.1; omega)
          (refine Ent.mk' ?_ ?_ <;> (repeat' (first | exact allSub_zero | exact allTags_nil | refine allSub_succ' ?_ (Ty.sub_any _) | refine allSub_succ' ?_ (Ty.sub_refl _) | refine allTags_cons rfl (Cont.sub_refl _) ?_ | refine allTags_cons rfl ?_ ?_)))
          all_goals skip
          all_goals exact Cont.sub_mr (waysQ_put hc3)
        ·
          refine t_skip ?_
          refine i_block ?_
          refine i_then ?_
          refine t_region ?_
          refine r_add rfl rfl (by omega) (by omega) ?_
          refine mvI rfl ?_
          refine r_nil ?_
          refine i_round (⟨k.1 + 1, by omega⟩) ?_ (by show fl.length - (k.1 + 1) < fl.length - k.1; omega)
          (refine Ent.mk' ?_ ?_ <;> (repeat' (first | exact allSub_zero | exact allTags_nil | refine allSub_succ' ?_ (Ty.sub_any _) | refine allSub_succ' ?_ (Ty.sub_refl _) | refine allTags_cons rfl (Cont.sub_refl _) ?_ | refine allTags_cons rfl ?_ ?_)))
          all_goals skip
          all_goals exact Cont.sub_mr (waysQ_no hc3)
    ·
      refine t_exit ?_
      refine i_then_exit ?_
      refine i_then_exit ?_
      refine i_block_exit rfl ?_
      refine i_then ?_
      refine t_seq ?_
      refine t_asC (tg := 7) rfl (Cont.sub_mr (show waysQ fl a k.1 = waysQ fl a fl.length by rw [show k.1 = fl.length by have := k.2; omega])) ?_
      refine t_pubC (tg := 6000) [] [(7, Cont.mp KI.enc (VSl WayE) (waysQ fl a fl.length))] (by decide) rfl trivial ⟨pubC_mr rfl rfl, trivial⟩ ?_
      refine t_pub (tg := 7) [(3, Ty.pm KI.enc (VSl WayE) (waysQ fl a fl.length))] (by decide) rfl ⟨pub_mp rfl rfl (by decide), trivial⟩ ?_
      refine t_region ?_
      refine mvMP rfl ?_
      refine asMP rfl ?_
      refine r_nil ?_
      refine i_then ?_
      refine t_ret ?_
      refine g_ret1 [1000] rfl rfl (by decide) (by repeat (first | exact rc_nil | refine rc_cons rfl (cc_vec (by decide) rfl) ?_)) ?_
      all_goals exact rg_cv (cv_pub rfl rfl)
set_option maxRecDepth 100000 in
theorem k_reach (y : Yard) (fl : List Flow) (a : List Int) (h : Fine y fl a) (s : Int) (hs : 0 ≤ s ∧ s < (y.cells + 1 : Nat)) : CtrG Tryz.prog 130 [1000] [(1000, Cont.vec I64 3 a)] [Ty.pp (deskS y fl 1000 fl.length), Ty.int .i64 s] [(1000, Cont.vec I64 3 a), (16, Cont.mp KI.enc WayV (reachM fl a s))] (Ty.mp 16) := by
  refine fnG_intro Tryz.func130 rfl (by decide) Tryz.ntmps130 (by exact Nat.le_of_ble_eq_true rfl) fun w0 M0 => ?_
  have hal := h.inb.1
  have hN := h.net
  have hcl := cells_le h.right
  refine t_seq ?_
  refine t_region ?_
  refine asX rfl ?_
  refine r_nil ?_
  refine i_then ?_
  refine t_seq ?_
  refine t_region ?_
  refine r_makeMap KI.enc WayV mapT196 rfl ?_
  refine asM rfl ?_
  refine r_nil ?_
  refine i_then ?_
  refine t_seq ?_
  refine t_region ?_
  refine mvP rfl ?_
  refine r_callG [(1000, 1000)] [] [(1000, Cont.vec I64 3 a)] (k_ways y fl a h) rfl rfl (cv_cons cv_nil (cv_pp (cv_cons (cv_cons (cv_cons (cv_cons (cv_cons (cv_cons cv_nil (cv_vs (by exact List.mem_cons_self))) (cv_pub rfl rfl)) (cv_pub rfl rfl)) (cv_pub rfl rfl)) (cv_pub rfl rfl)) (cv_pub rfl rfl)))) (pre_cons (a := 1000) (b := 1000) (by exact List.mem_cons_self) rfl (cc_vec (by exact List.mem_cons_self) rfl) pre_nil) (post_cons (a := 1000) (b := 1000) (by exact List.mem_cons_self) rfl (cc_vec (by exact List.mem_cons_self) rfl) post_nil) (cv_pub rfl rfl) ?_
  refine asMP rfl ?_
  refine r_nil ?_
  refine i_then ?_
  refine t_seq ?_
  refine t_region ?_
  refine mvI rfl ?_
  refine r_buildRowN (E := I64) (xs := [s]) rfl rfl rfl rfl rfl (by decide) (by decide) (by repeat (first | exact (Parts.nil : Parts _ _ [] _) | (show Parts _ _ ((_, _) :: _) _; apply Parts.one; (· exact (rfl : _ = Ty.int _ _)); (· exact rfl)))) (by exact rfl) rfl rfl ?_
  refine asR rfl ?_
  refine r_nil ?_
  refine i_then ?_
  refine t_seq ?_
  refine t_toOs (s := 7) (J := 4100) (tg := 20) rfl rfl (by decide) (by decide) rfl ?_
  refine t_block ?_
  refine t_loop (fun (x : {x : BSt // BIx fl a (y.cells + 1) s x}) => live [(0, Ty.pp (deskS y fl 1000 fl.length)), (1, Ty.int .i64 s), (5, Ty.mp 16), (6, Ty.pm KI.enc (VSl WayE) (waysQ fl a fl.length)), (7, Ty.rowO I64 3 4100 x.1.queue)] [(1000, Cont.vec I64 3 a), (16, Cont.mp KI.enc WayV x.1.by_)]) (fun x => muB (y.cells + 1) x.1) (⟨⟨[], [s]⟩, bix0 hs⟩) ?_ fun x => ?_
  · (refine Ent.mk' ?_ ?_ <;> (repeat' (first | exact allSub_zero | exact allTags_nil | refine allSub_succ' ?_ (Ty.sub_any _) | refine allSub_succ' ?_ (Ty.sub_refl _) | refine allTags_cons rfl (Cont.sub_refl _) ?_)))
  ·
    refine t_seq ?_
    refine t_seq ?_
    refine t_region ?_
    refine r_move (rfl : _ = Ty.rowO _ _ _ _) ?_
    refine r_lenO rfl rfl rfl ?_
    refine r_bin rfl rfl rfl ?_
    refine r_nil ?_
    refine i_then ?_
    refine t_cond_dec rfl (fun hc1 => ?_) (fun hc1 => ?_)
    ·
      refine t_skip ?_
      refine i_then ?_
      refine t_block ?_
      refine t_seq ?_
      have hlen : 0 < x.1.queue.length := by omega
      refine t_region ?_
      refine r_move (rfl : _ = Ty.rowO _ _ _ _) ?_
      refine r_indexO (i := 0) rfl rfl rfl rfl rfl rfl hlen ?_
      refine r_load_op rfl rfl rfl rfl ?_
      refine asI rfl ?_
      refine r_nil ?_
      refine i_then ?_
      refine t_seq ?_
      refine t_region ?_
      refine r_move (rfl : _ = Ty.rowO _ _ _ _) ?_
      refine r_cutO (lo := 1) rfl rfl rfl rfl rfl rfl hlen hlen ?_
      refine r_assign (rfl : _ = Ty.rowO _ _ _ _) ?_
      refine r_nil ?_
      refine i_then ?_
      refine t_seq ?_
      refine t_as (s := 8) rfl (Ty.sub_int (show nth x.1.queue 0 = headB x.1 by unfold headB; rfl)) ?_
      refine t_region ?_
      refine mvMP rfl ?_
      refine mvI rfl ?_
      refine r_lookupP KI (z0 := []) rfl rfl (keyI _) mapT227 zero222 nil_ways ?_
      refine r_len (E := WayE) (xs := getQ (waysQ fl a fl.length) (headB x.1)) rfl rfl rfl ?_
      refine mvI rfl ?_
      refine r_nil ?_
      refine i_then ?_
      refine t_as (s := 30) rfl (show (Ty.sl WayE (getQ (waysQ fl a fl.length) (headB x.1))).Sub (Ty.sl WayE (waysL fl a (headB x.1))) from Ty.sub_sl ways_get) ?_
      refine t_as (s := 31) rfl (Ty.sub_int (congrArg (fun l : List Way => ((l.length : Nat) : Int)) (ways_get (c := headB x.1)))) ?_
      refine t_block ?_
      refine t_loop (fun (j : {j : Nat // j ≤ (waysL fl a (headB x.1)).length}) => live [(0, Ty.pp (deskS y fl 1000 fl.length)), (1, Ty.int .i64 s), (5, Ty.mp 16), (6, Ty.pm KI.enc (VSl WayE) (waysQ fl a fl.length)), (7, Ty.rowO I64 3 4100 (foldB fl a s (headB x.1) (restB x.1) j.1).queue), (8, Ty.int .i64 (headB x.1)), (30, Ty.sl WayE (waysL fl a (headB x.1))), (31, Ty.int .i64 (waysL fl a (headB x.1)).length), (32, Ty.int .i64 (j.1 : Nat))] [(1000, Cont.vec I64 3 a), (16, Cont.mp KI.enc WayV (foldB fl a s (headB x.1) (restB x.1) j.1).by_)]) (fun j => (waysL fl a (headB x.1)).length - j.1) (⟨0, by omega⟩) ?_ fun j => ?_
      · (refine Ent.mk' ?_ ?_ <;> (repeat' (first | exact allSub_zero | exact allTags_nil | refine allSub_succ' ?_ (Ty.sub_any _) | refine allSub_succ' ?_ (Ty.sub_refl _) | refine allTags_cons rfl (Cont.sub_refl _) ?_ | refine allTags_cons rfl ?_ ?_ | refine allSub_succ' ?_ ?_)))
        all_goals first | exact mapU (congrArg BSt.queue (foldB_zero (fl := fl) (a := a) (s := s) (c := headB x.1) (z := restB x.1)).symm) | exact Cont.sub_mp (show x.1.by_ = (foldB fl a s (headB x.1) (restB x.1) 0).by_ by rw [foldB_zero]; rfl)
      ·
        have hj := j.2
        have hwl := ways_len (fl := fl) (a := a) (c := headB x.1)
        have hfl := h.few
        have hff := x.2.fold hN hlen hj
        refine t_seq ?_
        refine t_region ?_
        refine r_bin rfl rfl rfl ?_
        refine r_nil ?_
        refine i_then ?_
        refine t_seq ?_
        refine t_cond_dec rfl (fun hc2 => ?_) (fun hc2 => ?_)
        ·
          refine t_skip ?_
          refine i_then ?_
          refine t_seq ?_
          refine t_block ?_
          refine t_seq ?_
          refine t_region ?_
          refine r_index_slN rfl rfl rfl rfl rfl rfl (by omega) ?_
          refine r_load_ppN rfl rfl rfl (by exact Nat.le_of_ble_eq_true rfl) ?_
          refine r_alloc rfl (by exact List.cons_ne_nil _ _) rfl ?_
          refine r_storeN rfl rfl (by decide) rfl rfl rfl rfl rfl rfl ?_
          refine r_nil ?_
          refine i_then ?_
          refine t_seq ?_
          have hwj := (mem_ways.1 (nth_mem (xs := waysL fl a (headB x.1)) (k := j.1) (by omega))).1
          refine t_region ?_
          refine mvP rfl ?_
          refine r_load_ptrN rfl rfl (by decide) rfl rfl (by exact Nat.le_of_ble_eq_true rfl) ?_
          refine r_callLC [1000] (c_end y fl a h (nth (waysL fl a (headB x.1)) j.1) hwj.1) rfl (lendcs_cons (lendc_pp (lendcs_cons (lendc_of (lend_pub rfl rfl)) (lendcs_cons (lendc_of (lend_pub rfl rfl)) (lendcs_cons (lendc_of (lend_pub rfl rfl)) (lendcs_cons (lendc_of (lend_pub rfl rfl)) (lendcs_cons (lendc_of (lend_pub rfl rfl)) (lendcs_cons (lendc_vs rfl hal (by decide) rfl) lendcs_nil))))))) (lendcs_cons (lendc_of (lend_pub rfl rfl)) lendcs_nil)) (by exact plain_tup (by repeat (first | exact plain_nil | refine plain_cons (by exact plain_int _ _) ?_))) ?_
          refine mvT rfl ?_
          refine r_extract rfl rfl ?_
          refine r_extract rfl rfl ?_
          refine asI rfl ?_
          refine asI rfl ?_
          refine r_nil ?_
          refine i_then ?_
          refine t_seq ?_
          refine t_region ?_
          refine mvM rfl ?_
          refine mvI rfl ?_
          refine r_lookup2 KI (k := (nth (waysL fl a (headB x.1)) j.1).fin fl) (z0 := (default : Way)) rfl rfl (by decide) rfl (keyI _) mapT196 zero199 way_zero ?_
          refine mvT rfl ?_
          refine r_extract rfl rfl ?_
          refine r_extract rfl rfl ?_
          refine r_alloc rfl (by exact List.cons_ne_nil _ _) rfl ?_
          refine r_storeN rfl rfl (by decide) rfl rfl rfl rfl rfl rfl ?_
          refine asB rfl ?_
          refine r_nil ?_
          refine i_then ?_
          refine t_seq ?_
          refine t_region ?_
          refine mvB rfl ?_
          refine r_not rfl ?_
          refine mvB rfl ?_
          apply r_guard (s := 50) rfl rfl rfl
          · intro hg; apply opT_of; (refine mvI rfl ?_); refine r_nil ?_; exact rfl
          · exact rfl
          · exact rfl
          apply r_guard (s := 50) rfl rfl rfl
          · intro hg; apply opT_of; (refine mvI rfl ?_); refine r_nil ?_; exact rfl
          · exact rfl
          · exact rfl
          apply r_guard (s := 50) rfl rfl rfl
          · intro hg; apply opT_strip (s := 51) rfl (by (rw [hg]; rfl)); apply opT_strip (s := 52) rfl (by (rw [hg]; rfl)); apply opT_of; (refine r_bin rfl rfl rfl ?_); refine r_nil ?_; exact rfl
          · exact rfl
          · exact rfl
          refine r_and rfl rfl ?_
          refine r_nil ?_
          refine i_then ?_
          refine t_cond rfl (fun hc3 => ?_) (fun hc3 => ?_)
          ·
            refine t_seq ?_
            refine t_region ?_
            refine mvM rfl ?_
            refine mvI rfl ?_
            refine r_load_ptrN rfl rfl (by decide) rfl rfl (by exact Nat.le_of_ble_eq_true rfl) ?_
            refine r_mapUpdate KI (k := (nth (waysL fl a (headB x.1)) j.1).fin fl) (v := nth (waysL fl a (headB x.1)) j.1) rfl rfl (by decide) rfl (keyI _) rfl rfl mapT196 ?_
            refine r_nil ?_
            refine i_then ?_
            refine t_region ?_
            refine r_move (rfl : _ = Ty.rowO _ _ _ _) ?_
            refine mvI rfl ?_
            refine r_buildSlice (E := I64) (xs := [_]) rfl rfl rfl rfl rfl (by decide) (by decide) (by repeat (first | exact (Parts.nil : Parts _ _ [] _) | (show Parts _ _ ((_, _) :: _) _; apply Parts.one; (· exact (rfl : _ = Ty.int _ _)); (· exact rfl)))) (by exact rfl) rfl ?_
            refine r_appendO rfl rfl (by decide) rfl (by show 0 < 1; decide) rfl rfl rfl rfl rfl (by decide) (by show (_ + 1) * 8 ≤ _; omega) (by show _ + 1 ≤ _; omega) ?_
            refine r_assign (rfl : _ = Ty.rowO _ _ _ _) ?_
            refine r_nil ?_
            refine i_block ?_
            refine i_then ?_
            refine t_region ?_
            refine r_add rfl rfl (by omega) (by omega) ?_
            refine mvI rfl ?_
            refine r_nil ?_
            refine i_round (⟨j.1 + 1, by omega⟩) ?_ (by show (waysL fl a (headB x.1)).length - (j.1 + 1) < (waysL fl a (headB x.1)).length - j.1; omega)
            (refine Ent.mk' ?_ ?_ <;> (repeat' (first | exact allSub_zero | exact allTags_nil | refine allSub_succ' ?_ (Ty.sub_any _) | refine allSub_succ' ?_ (Ty.sub_refl _) | refine allTags_cons rfl (Cont.sub_refl _) ?_ | refine allTags_cons rfl ?_ ?_ | refine allSub_succ' ?_ ?_)))
            all_goals skip
            all_goals first | exact mapU (foldB_yes (by omega) (by rw [← new_eq]; exact hc3)).2 | exact Cont.sub_mp (foldB_yes (by omega) (by rw [← new_eq]; exact hc3)).1
          ·
            refine t_skip ?_
            refine i_block ?_
            refine i_then ?_
            refine t_region ?_
            refine r_add rfl rfl (by omega) (by omega) ?_
            refine mvI rfl ?_
            refine r_nil ?_
            refine i_round (⟨j.1 + 1, by omega⟩) ?_ (by show (waysL fl a (headB x.1)).length - (j.1 + 1) < (waysL fl a (headB x.1)).length - j.1; omega)
            (refine Ent.mk' ?_ ?_ <;> (repeat' (first | exact allSub_zero | exact allTags_nil | refine allSub_succ' ?_ (Ty.sub_any _) | refine allSub_succ' ?_ (Ty.sub_refl _) | refine allTags_cons rfl (Cont.sub_refl _) ?_ | refine allTags_cons rfl ?_ ?_ | refine allSub_succ' ?_ ?_)))
            all_goals skip
            all_goals first | exact mapU (foldB_no (by omega) (by rw [← new_eq]; exact hc3)).2 | exact Cont.sub_mp (foldB_no (by omega) (by rw [← new_eq]; exact hc3)).1
        ·
          refine t_exit ?_
          refine i_then_exit ?_
          refine i_then_exit ?_
          refine i_block_exit rfl ?_
          refine i_block ?_
          refine i_round (⟨foldB fl a s (headB x.1) (restB x.1) (waysL fl a (headB x.1)).length, (x.2.next hN hlen).1⟩) ?_ (by exact (x.2.next hN hlen).2)
          (refine Ent.mk' ?_ ?_ <;> (repeat' (first | exact allSub_zero | exact allTags_nil | refine allSub_succ' ?_ (Ty.sub_any _) | refine allSub_succ' ?_ (Ty.sub_refl _) | refine allTags_cons rfl (Cont.sub_refl _) ?_ | refine allTags_cons rfl ?_ ?_ | refine allSub_succ' ?_ ?_)))
          all_goals skip
          all_goals first | exact mapU (congrArg (fun n => (foldB fl a s (headB x.1) (restB x.1) n).queue) (show j.1 = _ by have := j.2; omega)) | exact Cont.sub_mp (congrArg (fun n => (foldB fl a s (headB x.1) (restB x.1) n).by_) (show j.1 = _ by have := j.2; omega))
    ·
      refine t_exit ?_
      refine i_then_exit ?_
      refine i_then_exit ?_
      refine i_block_exit rfl ?_
      refine i_then ?_
      refine t_seq ?_
      refine t_asC (tg := 16) rfl (Cont.sub_mp (x.2.end (by omega))) ?_
      refine t_region ?_
      refine mvM rfl ?_
      refine asM rfl ?_
      refine r_nil ?_
      refine i_then ?_
      refine t_ret ?_
      refine g_ret1 [1000, 16] rfl rfl (by decide) (by repeat (first | exact rc_nil | refine rc_cons rfl (cc_vec (by decide) rfl) ?_ | refine rc_cons rfl (cc_mp (by decide) rfl) ?_)) ?_
      all_goals skip
      all_goals exact rg_cv (cv_mp (by decide))
end Go.Proofs.YtelbollidfdcjaaGreat

namespace Go.Proofs.YtelbollidfdcjaaGreat
open Go Go.T
section
variable {fl : List Flow} {a : List Int} {n : Nat} {q : List (Int × Way)}
theorem range_take {n k : Nat} (h : k ≤ n) : (List.range n).take k = List.range k := by
  rw [List.take_range, Nat.min_eq_left h]
theorem lack_at {j : Nat} (hj : j < n) (h : ∀ i, i < j → lackB fl a q i = false) (hc : lackB fl a q j = true) : (j : Int) = lackM fl a n q := by
  unfold lackM
  refine (fidx_found (by rw [List.length_range]; exact hj) (fun x hx => ?_) ?_).symm
  · rw [range_take (by omega)] at hx
    exact h x (List.mem_range.1 hx)
  · rw [List.getElem_range]; exact hc
theorem lack_end {j : Nat} (hj : n ≤ j) (h : ∀ i, i < j → lackB fl a q i = false) : -1 = lackM fl a n q := by
  unfold lackM
  refine (fidx_none fun x hx => ?_).symm
  exact h x (by have := List.mem_range.1 hx; omega)
theorem lackB_eq {j : Nat} (hj : j < n) : ((mget q (j : Int)).isSome && decide (nth (overL fl a n) j < 0)) = lackB fl a q j := by
  unfold lackB; rw [overL_nth hj]
theorem over_abs (hl : fl.length ≤ 34) (ha : ∀ i, i < fl.length → 0 ≤ nth a i ∧ nth a i ≤ 300) (c : Int) : -10200 ≤ over fl a c ∧ over fl a c ≤ 10200 := by
  have h := overK_abs (fl := fl) (a := a) (c := c) (k := fl.length) ha
  have e : overK fl a fl.length c = over fl a c := rfl
  rw [e] at h; omega
theorem mostL_zero (m : Int) (fl : List Flow) (a : List Int) : m = mostL fl a m [] := rfl
theorem sendS_eq {s t : Int} {l : List Way} (e : l = pathM fl (reachM fl a s) s t) : sendM a l (mostL fl a (min (over fl a s) (-over fl a t)) l) = sendS fl a s t := by subst e; rfl
end
end Go.Proofs.YtelbollidfdcjaaGreat
