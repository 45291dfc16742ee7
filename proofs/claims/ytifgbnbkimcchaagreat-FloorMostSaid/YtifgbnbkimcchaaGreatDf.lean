/- Lemmas: the program and the reference walked, plain laws. -/
import Derived.Test.YtifgbnbkimcchaaGreatDe
namespace Go.Proofs.YtifgbnbkimcchaaGreat
open Go Go.T
set_option maxHeartbeats 2000000
theorem paysL_le {f : Flr} (hp : checkP f = 0) (b : Nat) : (paysL f b).length ≤ 64 := by
  have h8 := (check_right hp).ranged.turnings
  have := paysUp_len (ledT f b) h8 f.turnings.length
  rw [← paysL_eq] at this; omega
theorem pay_ok {f : Flr} (hp : checkP f = 0) {b : Nat} (hb : b < f.bears.length) : payE f b = 0 := by
  unfold payE openE
  rw [if_neg (by rw [hp]; decide)]
  have : inB (b : Int) 0 (f.bears.length - 1) = true := by unfold inB; simp; omega
  rw [this]; rfl
theorem bounds_ok {f : Flr} (h0 : checkM f = 0) {b : Nat} (hb : b < f.bears.length) : boundsR f b (paysL f b) = (heavyV f b, 0) := by
  have hp : checkP f = 0 := by rw [check_eq]; exact h0
  obtain ⟨h1, h2⟩ := pays_most hp hb
  obtain ⟨b1, b2, _⟩ := bounds_holds hp hb (paysL f b)
  have e := b1.2 h1
  rw [← boundsP_eq h0 hb]
  exact Prod.ext ((b2 e).trans h2) e
theorem pay_bad {f : Flr} (hp : checkP f = 0) {b : Int} (hc : ¬ (if b < 0 ∨ b ≥ f.bears.length then (1 : Int) else 0) = 0) : (if b < 0 ∨ b ≥ f.bears.length then (1 : Int) else 0) = 1 ∧ payE f b = 1 ∧ mostP f b = (0, 1) := by
  have hb : b < 0 ∨ b ≥ f.bears.length := by
    by_cases h : b < 0 ∨ b ≥ f.bears.length
    · exact h
    · rw [if_neg h] at hc; exact absurd rfl hc
  have e : inB b 0 (f.bears.length - 1) = false := by unfold inB; simp; omega
  have e1 : payE f b = 1 := by
    unfold payE openE
    rw [if_neg (by rw [hp]; decide), e]; rfl
  refine ⟨if_pos hb, e1, ?_⟩
  unfold mostP
  unfold payE at e1
  rw [e1]; rfl
theorem pay_wrong {f : Flr} (hp : ¬ checkP f = 0) (b : Int) : payE f b = checkP f ∧ mostP f b = (0, checkP f) ∧ riskR f = [] := by
  have e : ∀ x, openE f x = checkP f := fun x => by unfold openE; rw [if_pos hp]
  refine ⟨e _, ?_, if_neg hp⟩
  unfold mostP
  rw [e, if_pos hp]
theorem risk_ok {f : Flr} (hp : checkP f = 0) {k : Nat} (hk : k = f.bears.length) : riskR f = riskUp f k := by subst hk; exact if_pos hp
theorem worst_ok {f : Flr} {n : Nat} (h : payE f n = 0) : worstR f n = worstL f n := if_pos h
theorem set_ok {l : List Int} {T k : Nat} (hinc : Inc l) (hr : 0 ≤ nth l k ∧ nth l k < T) (hk : k < l.length) : (!decide ((if nth l k < 0 ∨ nth l k ≥ (T : Int) then (1 : Int) else 0) = 0) || decide ((0 : Int) < (k : Int)) && decide (nth l k ≤ nth l ((k : Int) - 1).toNat)) = false := by
  rw [if_neg (by omega)]
  cases k with
  | zero => simp
  | succ m =>
    have := hinc m hk
    rw [show (((m + 1 : Nat) : Int) - 1).toNat = m by omega, decide_eq_false (show ¬ nth l (m + 1) ≤ nth l m by omega)]
    simp
theorem closed_ok {f : Flr} (hp : checkP f = 0) {n : Nat} (hb : n < f.bears.length) {t : Int} (ht : t ∈ membersM (topS f n)) : ((aheadM f t).any fun u => !decide (u ∈ membersM (topS f n))) = false := by
  rw [List.any_eq_false]
  intro u hu
  simp [heavy_closed hp hb ht hu]
attribute [local irreducible] dInt dBool dSl dPp dPtr dAgg dTup dClo dAny dEx dStr dGd dCells dVec dVs dRow dOp nth Tri Into TOps Ctr bodyPost Exit.then Exit.inBlock Code.wp Code.wpIn dWhen dPa dPe dAo dArr dMp dPm dMap dCJ CtrG CtrI OpY keepPost iterPost bodyPostM roundQ
set_option maxRecDepth 100000 in
theorem c_FloorMost1 (l : List Int) (t : Int) : Ctr Tryz.prog 24 [Ty.int .i64 t, Ty.pp [Ty.sl I64 l]] (Ty.bool (!decide (t ∈ l))) := by
  refine fn_intro Tryz.func24 rfl (by decide) Tryz.ntmps24 (by exact Nat.le_of_ble_eq_true rfl) fun w0 M0 => ?_
  refine t_seq ?_
  refine t_region ?_
  refine asB rfl ?_
  refine r_nil ?_
  refine i_then ?_
  refine t_seq ?_
  refine t_region ?_
  refine r_load_pp rfl rfl rfl rfl ?_
  refine mvI rfl ?_
  refine r_call (c_Contains_int _ _) rfl rfl rfl rfl rfl ?_
  refine r_not rfl ?_
  refine asB rfl ?_
  refine r_nil ?_
  refine i_then ?_
  refine t_ret ?_
  refine i_rp1 rfl rfl ?_
  all_goals exact ret_refl rfl rfl
attribute [local irreducible] mostUp rowUp heavyV paysL worstL worstR heavyR topS riskUp riskR payE payR mostP ordersR
set_option maxRecDepth 100000 in
theorem c_FloorMost (f : Flr) (bay : Int) : Ctr Tryz.prog 3 [flrT f, Ty.int .i64 bay] (Ty.bool true) := by
  refine fn_intro Tryz.func3 rfl (by decide) Tryz.ntmps3 (by exact Nat.le_of_ble_eq_true rfl) fun w0 M0 => ?_
  refine t_seq ?_
  refine t_region ?_
  refine r_box_agg rfl ?_
  refine asB rfl ?_
  refine r_nil ?_
  refine i_then ?_
  refine t_seq ?_
  refine t_seq ?_
  refine t_region ?_
  refine r_load_ppN rfl rfl rfl (by exact Nat.le_of_ble_eq_true rfl) ?_
  refine r_call (c_wide f) rfl rfl rfl rfl rfl ?_
  refine r_nil ?_
  refine i_then ?_
  refine t_cond rfl (fun hc1 => ?_) (fun hc1 => ?_)
  ·
    refine t_seq ?_
    refine t_region ?_
    refine r_call (c_awake) rfl rfl rfl rfl rfl ?_
    refine asB rfl ?_
    refine r_nil ?_
    refine i_then ?_
    refine t_ret ?_
    refine i_then_ret ?_
    refine i_rp1 rfl rfl ?_
    all_goals exact ret_refl rfl rfl
    all_goals first
      | (have he := bounds_ok hc2 hb; exact ret_eq rfl rfl (congrArg Ty.bool (by rw [he, show mostUp f [worstL f n] n [worstL f n].length = heavyV f n from most_one hp hb]; simp)))
      | (have hz : ¬ payE f bay = 0 := by rw [(pay_bad hp hc5).2.1]; decide
         exact ret_eq rfl rfl (congrArg Ty.bool (by rw [heavy_no hz, worst_no hz, payR_no hz]; rfl)))
      | (have hz : ¬ payE f bay = 0 := by rw [(pay_wrong (by rw [check_eq]; exact hc2) bay).1, check_eq]; exact hc2
         exact ret_eq rfl rfl (congrArg Ty.bool (by rw [heavy_no hz, worst_no hz, payR_no hz]; rfl)))
  ·
    refine t_skip ?_
    refine i_then ?_
    refine t_seq ?_
    have hs : f.Small := small_of_great (by have h := hc1; simp only [Bool.or_eq_false_iff] at h; exact h.1)
    refine t_draw mixed rfl ?_
    refine r_load_ppN rfl rfl rfl (by exact Nat.le_of_ble_eq_true rfl) ?_
    refine r_call (c_Own f hs) rfl rfl rfl rfl rfl ?_
    refine r_load_ppN rfl rfl rfl (by exact Nat.le_of_ble_eq_true rfl) ?_
    refine r_call (c_theirs f hs) rfl rfl rfl rfl rfl ?_
    refine r_alloc rfl (by exact List.cons_ne_nil _ _) rfl ?_
    refine r_alloc rfl (by exact List.cons_ne_nil _ _) rfl ?_
    refine r_storeN rfl rfl (by decide) rfl rfl rfl rfl rfl rfl ?_
    refine r_storeN rfl rfl (by decide) rfl rfl rfl rfl rfl rfl ?_
    refine r_nil ?_
    refine ⟨by kernel_rfl, ?_⟩
    refine i_then ?_
    refine t_seq ?_
    refine t_region ?_
    refine r_load_ptrN rfl rfl (by decide) rfl rfl (by exact Nat.le_of_ble_eq_true rfl) ?_
    refine r_call (c_rCheck f hs) rfl rfl rfl rfl rfl ?_
    refine asI rfl ?_
    refine r_nil ?_
    refine i_then ?_
    refine t_seq ?_
    refine t_region ?_
    refine mvI rfl ?_
    refine asI rfl ?_
    refine r_nil ?_
    refine i_then ?_
    refine t_seq ?_
    refine t_region ?_
    refine asI rfl ?_
    refine r_nil ?_
    refine i_then ?_
    refine t_seq ?_
    refine t_region ?_
    refine asX rfl ?_
    refine r_nil ?_
    refine i_then ?_
    refine t_seq ?_
    refine t_seq ?_
    refine t_region ?_
    refine mvI rfl ?_
    refine r_bin rfl rfl rfl ?_
    refine r_nil ?_
    refine i_then ?_
    refine t_cond_dec rfl (fun hc2 => ?_) (fun hc2 => ?_)
    ·
      refine t_seq ?_
      have hp : checkP f = 0 := by rw [check_eq]; exact hc2
      have hr := check_right hp
      have hof := orders_fit hp
      have hb4 := hr.ranged.bears
      have h8 := hr.ranged.turnings
      refine t_region ?_
      refine r_load_ptrN rfl rfl (by decide) rfl rfl (by exact Nat.le_of_ble_eq_true rfl) ?_
      refine r_callP [] (s_Orders f hs hr.ranged.turnings) rfl (by repeat (first | exact lends_nil | refine lends_cons (lend_pub rfl rfl) ?_ | refine lends_cons lend_nil ?_)) rfl rfl (by intro u hu; cases hu) ?_
      refine asS rfl ?_
      refine r_nil ?_
      refine i_then ?_
      refine t_seq ?_
      refine t_seq ?_
      refine t_region ?_
      refine r_field_pp rfl rfl rfl rfl rfl (by decide) ?_
      refine r_load_pp rfl rfl rfl rfl ?_
      refine r_len rfl rfl rfl ?_
      refine mvI rfl ?_
      refine r_nil ?_
      refine i_then ?_
      refine t_block ?_
      refine t_loop (fun (k : {k : Nat // k ≤ f.bears.length}) => live [(1, Ty.int .i64 bay), (2, Ty.pp (flrTys f)), (5, Ty.ptr 6 0), (6, Ty.ptr 7 0), (7, Ty.int .i64 (checkM f)), (8, Ty.int .i64 (checkM f)), (9, Ty.int .i64 0), (10, Ty.row I64 3 60 (riskUp f k.1)), (11, Ty.sl RowE (ordersR f)), (43, Ty.sl I64 f.bears), (44, Ty.int .i64 f.bears.length), (45, Ty.int .i64 (k.1 : Nat))] [(6, Cont.cells 27 (flrTys f)), (7, Cont.cells 35 (flrTys f))]) (fun k => f.bears.length - k.1) (⟨0, by omega⟩) ?_ fun k => ?_
      · (refine Ent.mk' ?_ ?_ <;> (repeat' (first | exact allSub_zero | exact allTags_nil | refine allSub_succ' ?_ (Ty.sub_any _) | refine allSub_succ' ?_ (Ty.sub_refl _) | refine allTags_cons rfl (Cont.sub_refl _) ?_ | refine allSub_succ' ?_ ?_)))
        all_goals exact nil_row_eq (risk_zero f)
      ·
        have hk := k.2
        have hrl := risk_len f k.1
        refine t_seq ?_
        refine t_region ?_
        refine r_bin rfl rfl rfl ?_
        refine r_nil ?_
        refine i_then ?_
        refine t_seq ?_
        refine t_cond_dec rfl (fun hc3 => ?_) (fun hc3 => ?_)
        ·
          refine t_skip ?_
          refine i_then ?_
          refine t_seq ?_
          refine t_block ?_
          refine t_seq ?_
          refine t_region ?_
          refine mvI rfl ?_
          refine r_index_slN rfl rfl rfl rfl rfl rfl (by omega) ?_
          refine r_load_pp rfl rfl rfl rfl ?_
          refine asI rfl ?_
          refine asI rfl ?_
          refine r_nil ?_
          refine i_then ?_
          refine t_seq ?_
          refine t_region ?_
          refine r_load_ptrN rfl rfl (by decide) rfl rfl (by exact Nat.le_of_ble_eq_true rfl) ?_
          refine mvS rfl ?_
          refine mvI rfl ?_
          refine r_call (c_rMost f hs hr.ranged hr.named (ordersR f) (fun l hl => ⟨(hof l hl).1, by have := (hof l hl).2; omega⟩) k.1 (by omega)) rfl rfl rfl rfl rfl ?_
          refine mvI rfl ?_
          refine r_bin rfl rfl rfl ?_
          refine r_nil ?_
          refine i_then ?_
          refine t_cond_dec rfl (fun hc4 => ?_) (fun hc4 => ?_)
          ·
            refine t_region ?_
            refine mvR rfl ?_
            refine mvI rfl ?_
            refine r_buildSlice (E := I64) (xs := [_]) rfl rfl rfl rfl rfl (by decide) (by decide) (by repeat (first | exact (Parts.nil : Parts _ _ [] _) | (show Parts _ _ ((_, _) :: _) _; apply Parts.one; (· exact (rfl : _ = Ty.int _ _)); (· exact rfl)))) (by exact rfl) rfl ?_
            refine r_append rfl rfl (by decide) rfl rfl rfl rfl rfl rfl (by decide) (by (simp <;> omega)) (by (simp <;> omega)) ?_
            refine asR rfl ?_
            refine r_nil ?_
            refine i_block ?_
            refine i_then ?_
            refine t_region ?_
            refine r_add rfl rfl (by omega) (by omega) ?_
            refine mvI rfl ?_
            refine r_nil ?_
            refine i_round (⟨k.1 + 1, by omega⟩) ?_ (by show f.bears.length - (k.1 + 1) < f.bears.length - k.1; omega)
            (refine Ent.mk' ?_ ?_ <;> (repeat' (first | exact allSub_zero | exact allTags_nil | refine allSub_succ' ?_ (Ty.sub_any _) | refine allSub_succ' ?_ (Ty.sub_refl _) | refine allTags_cons rfl (Cont.sub_refl _) ?_ | refine allSub_succ' ?_ ?_)))
            all_goals skip
            all_goals exact Ty.sub_row (by rw [riskUp_succ, if_pos (by rw [← most_orders hp (show k.1 < f.bears.length by omega)]; exact hc4)])
          ·
            refine t_skip ?_
            refine i_block ?_
            refine i_then ?_
            refine t_region ?_
            refine r_add rfl rfl (by omega) (by omega) ?_
            refine mvI rfl ?_
            refine r_nil ?_
            refine i_round (⟨k.1 + 1, by omega⟩) ?_ (by show f.bears.length - (k.1 + 1) < f.bears.length - k.1; omega)
            (refine Ent.mk' ?_ ?_ <;> (repeat' (first | exact allSub_zero | exact allTags_nil | refine allSub_succ' ?_ (Ty.sub_any _) | refine allSub_succ' ?_ (Ty.sub_refl _) | refine allTags_cons rfl (Cont.sub_refl _) ?_ | refine allSub_succ' ?_ ?_)))
            all_goals skip
            all_goals exact Ty.sub_row (by rw [riskUp_succ, if_neg (by rw [← most_orders hp (show k.1 < f.bears.length by omega)]; exact hc4), List.append_nil])
        ·
          refine t_exit ?_
          refine i_then_exit ?_
          refine i_then_exit ?_
          refine i_block_exit rfl ?_
          refine i_then ?_
          refine t_seq ?_
          refine t_region ?_
          refine r_load_ptrN rfl rfl (by decide) rfl rfl (by exact Nat.le_of_ble_eq_true rfl) ?_
          refine mvI rfl ?_
          refine r_call (c_Bay f hs bay) rfl rfl rfl rfl rfl ?_
          refine asI rfl ?_
          refine r_nil ?_
          refine i_then ?_
          refine t_seq ?_
          refine t_region ?_
          refine mvI rfl ?_
          refine r_bin rfl rfl rfl ?_
          refine r_nil ?_
          refine i_then ?_
          refine t_cond_dec rfl (fun hc5 => ?_) (fun hc5 => ?_)
          ·
            have hbn : 0 ≤ bay ∧ bay < f.bears.length := by have h := hc5; split at h <;> omega
            obtain ⟨n, rfl⟩ := Int.eq_ofNat_of_zero_le hbn.1
            have hb : n < f.bears.length := by omega
            have hwo := worst_order hp hb
            have hws := order_spec hwo
            have hbs := best_spec hp hb
            have hrm := rep_members hp hbs.2.1 hbs.2.2.1
            have hml := members_len (topS f n)
            have hwl := hws.1
            refine t_region ?_
            refine r_load_ptrN rfl rfl (by decide) rfl rfl (by exact Nat.le_of_ble_eq_true rfl) ?_
            refine mvS rfl ?_
            refine mvI rfl ?_
            refine r_call (c_rMost f hs hr.ranged hr.named (ordersR f) (fun l hl => ⟨(hof l hl).1, by have := (hof l hl).2; omega⟩) n hb) rfl rfl rfl rfl rfl ?_
            refine asI rfl ?_
            refine r_nil ?_
            refine i_then ?_
            refine t_seq ?_
            refine t_region ?_
            refine r_load_ptrN rfl rfl (by decide) rfl rfl (by exact Nat.le_of_ble_eq_true rfl) ?_
            refine mvI rfl ?_
            refine r_call (c_Most f hs _) rfl rfl rfl rfl rfl ?_
            refine mvT rfl ?_
            refine r_extract rfl rfl ?_
            refine r_extract rfl rfl ?_
            refine asI rfl ?_
            refine asI rfl ?_
            refine r_nil ?_
            refine i_then ?_
            refine t_seq ?_
            refine t_region ?_
            refine r_load_ptrN rfl rfl (by decide) rfl rfl (by exact Nat.le_of_ble_eq_true rfl) ?_
            refine mvI rfl ?_
            refine r_call (c_Heaviest f hs _) rfl rfl rfl rfl rfl ?_
            refine mvT rfl ?_
            refine r_extract rfl rfl ?_
            refine r_extract rfl rfl ?_
            refine r_alloc rfl (by exact List.cons_ne_nil _ _) rfl ?_
            refine r_store1 rfl rfl (by decide) rfl rfl (by exact (rfl : _ = Ty.sl _ _)) rfl (by exact Nat.le_of_ble_eq_true rfl) rfl rfl (by exact (rfl : _ = [_])) ?_
            refine asI rfl ?_
            refine r_nil ?_
            refine i_then ?_
            refine t_seq ?_
            refine t_region ?_
            refine r_load_ptrN rfl rfl (by decide) rfl rfl (by exact Nat.le_of_ble_eq_true rfl) ?_
            refine mvI rfl ?_
            refine r_call (c_Worst f hs _) rfl rfl rfl rfl rfl ?_
            refine mvT rfl ?_
            refine r_extract rfl rfl ?_
            refine r_extract rfl rfl ?_
            refine asS rfl ?_
            refine asI rfl ?_
            refine r_nil ?_
            refine i_then ?_
            refine t_seq ?_
            refine t_region ?_
            refine r_load_ptrN rfl rfl (by decide) rfl rfl (by exact Nat.le_of_ble_eq_true rfl) ?_
            refine mvI rfl ?_
            refine r_call (c_Payments f hs _) rfl rfl rfl rfl rfl ?_
            refine mvT rfl ?_
            refine r_extract rfl rfl ?_
            refine r_extract rfl rfl ?_
            refine asS rfl ?_
            refine asI rfl ?_
            refine r_nil ?_
            refine i_then ?_
            refine t_seq ?_
            refine t_region ?_
            refine r_load_ptrN rfl rfl (by decide) rfl rfl (by exact Nat.le_of_ble_eq_true rfl) ?_
            refine r_call (c_Risk f hs) rfl rfl rfl rfl rfl ?_
            refine mvT rfl ?_
            refine r_extract rfl rfl ?_
            refine r_extract rfl rfl ?_
            refine asS rfl ?_
            refine asI rfl ?_
            refine r_nil ?_
            refine i_then ?_
            refine t_seq ?_
            refine t_seq ?_
            refine t_region ?_
            refine mvI rfl ?_
            refine mvI rfl ?_
            refine r_bin rfl rfl rfl ?_
            refine mvB rfl ?_
            apply r_guard (s := 102) rfl rfl rfl
            · intro hg; apply opT_of; (refine mvI rfl ?_); refine r_nil ?_; exact rfl
            · exact rfl
            · exact rfl
            apply r_guard (s := 102) rfl rfl rfl
            · intro hg; apply opT_of; (refine mvI rfl ?_); refine r_nil ?_; exact rfl
            · exact rfl
            · exact rfl
            apply r_guard (s := 102) rfl rfl rfl
            · intro hg; apply opT_strip (s := 103) rfl (by (rw [hg]; rfl)); apply opT_strip (s := 104) rfl (by (rw [hg]; rfl)); apply opT_of; (refine r_bin rfl rfl rfl ?_); refine r_nil ?_; exact rfl
            · exact rfl
            · exact rfl
            refine r_or rfl rfl ?_
            refine mvB rfl ?_
            apply r_guard (s := 107) rfl rfl rfl
            · intro hg; apply opT_of; (refine mvI rfl ?_); refine r_nil ?_; exact rfl
            · exact rfl
            · exact rfl
            apply r_guard (s := 107) rfl rfl rfl
            · intro hg; apply opT_of; (refine mvI rfl ?_); refine r_nil ?_; exact rfl
            · exact rfl
            · exact rfl
            apply r_guard (s := 107) rfl rfl rfl
            · intro hg; apply opT_strip (s := 108) rfl (by (rw [hg]; rfl)); apply opT_strip (s := 109) rfl (by (rw [hg]; rfl)); apply opT_of; (refine r_bin rfl rfl rfl ?_); refine r_nil ?_; exact rfl
            · exact rfl
            · exact rfl
            refine r_or rfl rfl ?_
            refine mvB rfl ?_
            apply r_guard (s := 112) rfl rfl rfl
            · intro hg; apply opT_of; (refine mvI rfl ?_); refine r_nil ?_; exact rfl
            · exact rfl
            · exact rfl
            apply r_guard (s := 112) rfl rfl rfl
            · intro hg; apply opT_of; (refine mvI rfl ?_); refine r_nil ?_; exact rfl
            · exact rfl
            · exact rfl
            apply r_guard (s := 112) rfl rfl rfl
            · intro hg; apply opT_strip (s := 113) rfl (by (rw [hg]; rfl)); apply opT_strip (s := 114) rfl (by (rw [hg]; rfl)); apply opT_of; (refine r_bin rfl rfl rfl ?_); refine r_nil ?_; exact rfl
            · exact rfl
            · exact rfl
            refine r_or rfl rfl ?_
            refine mvB rfl ?_
            apply r_guard (s := 117) rfl rfl rfl
            · intro hg; apply opT_of; (refine mvI rfl ?_); refine r_nil ?_; exact rfl
            · exact rfl
            · exact rfl
            apply r_guard (s := 117) rfl rfl rfl
            · intro hg; apply opT_of; (refine mvI rfl ?_); refine r_nil ?_; exact rfl
            · exact rfl
            · exact rfl
            apply r_guard (s := 117) rfl rfl rfl
            · intro hg; apply opT_strip (s := 118) rfl (by (rw [hg]; rfl)); apply opT_strip (s := 119) rfl (by (rw [hg]; rfl)); apply opT_of; (refine r_bin rfl rfl rfl ?_); refine r_nil ?_; exact rfl
            · exact rfl
            · exact rfl
            refine r_or rfl rfl ?_
            refine mvB rfl ?_
            apply r_guard (s := 122) rfl rfl rfl
            · intro hg; apply opT_of; (refine mvI rfl ?_); refine r_nil ?_; exact rfl
            · exact rfl
            · exact rfl
            apply r_guard (s := 122) rfl rfl rfl
            · intro hg; apply opT_of; (refine mvI rfl ?_); refine r_nil ?_; exact rfl
            · exact rfl
            · exact rfl
            apply r_guard (s := 122) rfl rfl rfl
            · intro hg; apply opT_strip (s := 123) rfl (by (rw [hg]; rfl)); apply opT_strip (s := 124) rfl (by (rw [hg]; rfl)); apply opT_of; (refine r_bin rfl rfl rfl ?_); refine r_nil ?_; exact rfl
            · exact rfl
            · exact rfl
            refine r_or rfl rfl ?_
            refine mvB rfl ?_
            apply r_guard (s := 127) rfl rfl rfl
            · intro hg; apply opT_of; (refine mvS rfl ?_); refine r_nil ?_; exact rfl
            · exact rfl
            · exact rfl
            apply r_guard (s := 127) rfl rfl rfl
            · intro hg; apply opT_of; (refine mvR rfl ?_); refine r_nil ?_; exact rfl
            · exact rfl
            · exact rfl
            apply r_guard (s := 127) rfl rfl rfl
            · intro hg; apply opT_strip (s := 128) rfl (by (rw [hg]; rfl)); apply opT_strip (s := 129) rfl (by (rw [hg]; rfl)); apply opT_of; (refine r_callL [6, 7, 17, 60] (c_Eq_int _ _) rfl (by repeat (first | exact lends_nil | refine lends_cons (lend_pub rfl rfl) ?_ | refine lends_cons (lend_row rfl) ?_)) (by exact plain_bool _) ?_); refine r_nil ?_; exact rfl
            · exact rfl
            · exact rfl
            apply r_guard (s := 127) rfl rfl rfl
            · intro hg; apply opT_strip (s := 130) rfl (by (rw [hg]; rfl)); apply opT_of; (refine r_not rfl ?_); refine r_nil ?_; exact rfl
            · exact rfl
            · exact rfl
            refine r_or rfl rfl ?_
            refine mvB rfl ?_
            apply r_guard (s := 133) rfl rfl rfl
            · intro hg; apply opT_of; (refine r_load_ptrN rfl rfl (by decide) rfl rfl (by exact Nat.le_of_ble_eq_true rfl) ?_); refine r_nil ?_; exact rfl
            · exact rfl
            · exact rfl
            apply r_guard (s := 133) rfl rfl rfl
            · intro hg; apply opT_of; (refine r_load_ppN rfl rfl rfl (by exact Nat.le_of_ble_eq_true rfl) ?_); refine r_nil ?_; exact rfl
            · exact rfl
            · exact rfl
            apply r_guard (s := 133) rfl rfl rfl
            · intro hg; apply opT_strip (s := 134) rfl (by (rw [hg]; rfl)); apply opT_strip (s := 135) rfl (by (rw [hg]; rfl)); apply opT_of; (refine r_call (c_same f f) rfl rfl rfl rfl rfl ?_); refine r_nil ?_; exact rfl
            · exact rfl
            · exact rfl
            apply r_guard (s := 133) rfl rfl rfl
            · intro hg; apply opT_strip (s := 136) rfl (by (rw [hg]; rfl)); apply opT_of; (refine r_not rfl ?_); refine r_nil ?_; exact rfl
            · exact rfl
            · exact rfl
            refine r_or rfl rfl ?_
            refine r_nil ?_
            refine i_then ?_
            refine t_cond_ff rfl (by rw [hc5, most_in hp hb, pay_ok hp hb, hc2, hp, most_orders hp hb, risk_ok hp (k := k.1) (by omega)]; simp) ?_
            refine t_skip ?_
            refine i_then ?_
            refine t_seq ?_
            refine t_seq ?_
            refine t_region ?_
            refine mvI rfl ?_
            refine r_bin rfl rfl rfl ?_
            refine r_nil ?_
            refine i_then ?_
            refine t_cond_ff rfl (by rw [hc5]; rfl) ?_
            refine t_skip ?_
            refine i_then ?_
            refine t_seq ?_
            refine t_seq ?_
            refine t_forget (B := live [(1, Ty.int .i64 (n : Nat)), (6, Ty.ptr 7 0), (9, Ty.int .i64 (heavyV f n)), (16, Ty.ptr 17 0), (18, Ty.sl I64 (worstL f n)), (20, Ty.sl PayE (paysL f n))] [(7, Cont.cells 35 (flrTys f)), (17, Cont.cells 22 [Ty.sl I64 (membersM (topS f n))])]) ?_ ?_
            · (refine Ent.mk' ?_ ?_ <;> (repeat' (first | exact allSub_zero | exact allTags_nil | exact subs_nil | refine allSub_succ' ?_ (Ty.sub_any _) | refine allSub_succ' ?_ (Ty.sub_refl _) | refine allTags_cons rfl (Cont.sub_refl _) ?_ | refine allTags_cons rfl (Cont.sub_subs ?_) ?_ | refine subs_cons ?_ ?_ | refine allSub_succ' ?_ ?_)))
              all_goals first | exact Ty.sub_int (most_orders hp hb) | exact Ty.sub_sl (worst_ok (pay_ok hp hb)) | exact Ty.sub_sl (payR_in (pay_ok hp hb)) | exact Ty.sub_sl (heavy_in (pay_ok hp hb)).symm
            refine t_pub (tg := 17) [(16, Ty.pp [Ty.sl I64 (membersM (topS f n))])] (by decide) rfl ⟨pub_ptr (T := 22) (tg := 17) (off := 0) (l := [Ty.sl I64 (membersM (topS f n))]) rfl rfl rfl (by decide), trivial⟩ ?_
            refine t_region ?_
            refine r_load_pp rfl rfl rfl rfl ?_
            refine r_len rfl rfl rfl ?_
            refine mvI rfl ?_
            refine r_nil ?_
            refine i_then ?_
            refine t_block ?_
            refine t_loop (fun (k : {k : Nat // k ≤ (membersM (topS f n)).length}) => live [(1, Ty.int .i64 (n : Nat)), (6, Ty.ptr 7 0), (9, Ty.int .i64 (heavyV f n)), (16, Ty.pp [Ty.sl I64 (membersM (topS f n))]), (18, Ty.sl I64 (worstL f n)), (20, Ty.sl PayE (paysL f n)), (153, Ty.sl I64 (membersM (topS f n))), (154, Ty.int .i64 (membersM (topS f n)).length), (155, Ty.int .i64 (k.1 : Nat))] [(7, Cont.cells 35 (flrTys f))]) (fun k => (membersM (topS f n)).length - k.1) (⟨0, by omega⟩) ?_ fun k => ?_
            · (refine Ent.mk' ?_ ?_ <;> (repeat' (first | exact allSub_zero | exact allTags_nil | refine allSub_succ' ?_ (Ty.sub_any _) | refine allSub_succ' ?_ (Ty.sub_refl _) | refine allTags_cons rfl (Cont.sub_refl _) ?_)))
            ·
              have hk := k.2
              refine t_seq ?_
              refine t_region ?_
              refine r_bin rfl rfl rfl ?_
              refine r_nil ?_
              refine i_then ?_
              refine t_seq ?_
              refine t_cond_dec rfl (fun hc8 => ?_) (fun hc8 => ?_)
              ·
                refine t_skip ?_
                refine i_then ?_
                refine t_seq ?_
                refine t_block ?_
                refine t_seq ?_
                refine t_region ?_
                refine mvI rfl ?_
                refine r_index_slN rfl rfl rfl rfl rfl rfl (by omega) ?_
                refine r_load_pp rfl rfl rfl rfl ?_
                refine asI rfl ?_
                refine asI rfl ?_
                refine r_nil ?_
                refine i_then ?_
                refine t_seq ?_
                have hxr := hrm.rng _ (nth_mem (xs := membersM (topS f n)) (k := k.1) (by omega))
                refine t_region ?_
                refine r_load_ptrN rfl rfl (by decide) rfl rfl (by exact Nat.le_of_ble_eq_true rfl) ?_
                refine mvI rfl ?_
                refine r_call (c_There f hs _) rfl rfl rfl rfl rfl ?_
                refine r_bin rfl rfl rfl ?_
                refine mvB rfl ?_
                apply r_guard (s := 164) rfl rfl rfl
                · intro hg; apply opT_of; (refine mvI rfl ?_); refine r_nil ?_; exact rfl
                · exact rfl
                · exact rfl
                apply r_guard (s := 164) rfl rfl rfl
                · intro hg; apply opT_strip (s := 165) rfl (by (rw [hg]; rfl)); apply opT_of; (refine r_bin rfl rfl rfl ?_); refine r_nil ?_; exact rfl
                · exact rfl
                · exact rfl
                apply r_guard (s := 164) rfl rfl rfl
                · intro hg; apply opT_strip (s := 166) rfl (by (rw [hg]; rfl)); apply opT_of; (refine mvB rfl ?_); refine r_nil ?_; exact rfl
                · exact rfl
                · exact rfl
                apply r_guardG (s := 167) rfl rfl rfl
                · intro hg1 hg2; apply opT_of; (refine mvI rfl ?_); refine r_nil ?_; exact rfl
                · exact rfl
                · exact rfl
                apply r_guardG (s := 167) rfl rfl rfl
                · intro hg1 hg2; apply opT_of; (refine r_load_pp rfl rfl rfl rfl ?_); refine r_nil ?_; exact rfl
                · exact rfl
                · exact rfl
                apply r_guardG (s := 167) rfl rfl rfl
                · intro hg1 hg2; apply opT_of; (refine mvI rfl ?_); refine r_nil ?_; exact rfl
                · exact rfl
                · exact rfl
                apply r_guardG (s := 167) rfl rfl rfl
                · intro hg1 hg2; apply opT_strip (s := 170) rfl (by (rw [hg1, hg2]; rfl)); apply opT_of; (refine r_sub rfl rfl (by omega) (by omega) ?_); refine r_nil ?_; exact rfl
                · exact rfl
                · exact rfl
                apply r_guardG (s := 167) rfl rfl rfl
                · intro hg1 hg2; apply opT_strip (s := 169) rfl (by (rw [hg1, hg2]; rfl)); apply opT_strip (s := 171) rfl (by (rw [hg1, hg2]; rfl)); apply opT_of; (refine r_index_sl rfl rfl rfl rfl rfl rfl (by have := of_decide_eq_true hg2; omega) (by have := of_decide_eq_true hg2; omega) ?_); refine r_nil ?_; exact rfl
                · exact rfl
                · exact rfl
                apply r_guardG (s := 167) rfl rfl rfl
                · intro hg1 hg2; apply opT_strip (s := 172) rfl (by (rw [hg1, hg2]; rfl)); apply opT_of; (refine r_load_pp rfl rfl rfl rfl ?_); refine r_nil ?_; exact rfl
                · exact rfl
                · exact rfl
                apply r_guardG (s := 167) rfl rfl rfl
                · intro hg1 hg2; apply opT_strip (s := 168) rfl (by (rw [hg1, hg2]; rfl)); apply opT_strip (s := 173) rfl (by (rw [hg1, hg2]; rfl)); apply opT_of; (refine r_bin rfl rfl rfl ?_); refine r_nil ?_; exact rfl
                · exact rfl
                · exact rfl
                apply r_guard (s := 164) rfl rfl rfl
                · intro hg; apply opT_strip (s := 167) rfl (by (rw [hg]; rfl)); apply opT_stripG (s := 174) rfl (by (rw [hg]; rfl)); apply opT_of; (refine r_and rfl rfl ?_); refine r_nil ?_; exact rfl
                · exact rfl
                · exact rfl
                refine r_or rfl rfl ?_
                refine mvB rfl ?_
                apply r_guard (s := 177) rfl rfl rfl
                · intro hg; apply opT_of; (refine r_load_ptrN rfl rfl (by decide) rfl rfl (by exact Nat.le_of_ble_eq_true rfl) ?_); refine r_nil ?_; exact rfl
                · exact rfl
                · exact rfl
                apply r_guard (s := 177) rfl rfl rfl
                · intro hg; apply opT_of; (refine mvI rfl ?_); refine r_nil ?_; exact rfl
                · exact rfl
                · exact rfl
                apply r_guard (s := 177) rfl rfl rfl
                · intro hg; apply opT_strip (s := 178) rfl (by (rw [hg]; rfl)); apply opT_strip (s := 179) rfl (by (rw [hg]; rfl)); apply opT_of; (refine r_call (c_Ahead f hs (nth (membersM (topS f n)) k.1)) rfl rfl rfl rfl rfl ?_); refine r_nil ?_; exact rfl
                · exact rfl
                · exact rfl
                apply r_guard (s := 177) rfl rfl rfl
                · intro hg; apply opT_of; (refine r_makeFunc rfl ?_); refine r_nil ?_; exact rfl
                · exact rfl
                · exact rfl
                apply r_guard (s := 177) rfl rfl rfl
                · intro hg; apply opT_strip (s := 180) rfl (by (rw [hg]; rfl)); apply opT_strip (s := 181) rfl (by (rw [hg]; rfl)); apply opT_of; (refine r_call (c_ContainsFunc_int (aheadM f (nth (membersM (topS f n)) k.1)) (Ty.clo 24 [Ty.pp [Ty.sl I64 (membersM (topS f n))]]) rfl (fun u => !decide (u ∈ membersM (topS f n))) rfl rfl fun u _ => cal_clo (c_FloorMost1 _ u) rfl rfl rfl rfl rfl rfl) rfl rfl rfl rfl rfl ?_); refine r_nil ?_; exact rfl
                · exact rfl
                · exact rfl
                refine r_or rfl rfl ?_
                refine r_nil ?_
                refine i_then ?_
                refine t_cond_ff rfl (by rw [set_ok (inc_members _) hxr (by omega), closed_ok hp hb (nth_mem (xs := membersM (topS f n)) (k := k.1) (by omega))]; rfl) ?_
                refine t_skip ?_
                refine i_block ?_
                refine i_then ?_
                refine t_region ?_
                refine r_add rfl rfl (by omega) (by omega) ?_
                refine mvI rfl ?_
                refine r_nil ?_
                refine i_round (⟨k.1 + 1, by omega⟩) ?_ (by show (membersM (topS f n)).length - (k.1 + 1) < (membersM (topS f n)).length - k.1; omega)
                (refine Ent.mk' ?_ ?_ <;> (repeat' (first | exact allSub_zero | exact allTags_nil | refine allSub_succ' ?_ (Ty.sub_any _) | refine allSub_succ' ?_ (Ty.sub_refl _) | refine allTags_cons rfl (Cont.sub_refl _) ?_)))
                all_goals skip
              ·
                refine t_exit ?_
                refine i_then_exit ?_
                refine i_then_exit ?_
                refine i_block_exit rfl ?_
                refine i_then ?_
                refine t_seq ?_
                refine t_seq ?_
                refine t_region ?_
                refine r_load_ptrN rfl rfl (by decide) rfl rfl (by exact Nat.le_of_ble_eq_true rfl) ?_
                refine r_load_pp rfl rfl rfl rfl ?_
                refine r_call (c_rLoads f hs hr.ranged hr.named (membersM (topS f n)) hrm.rng (by omega)) rfl rfl rfl rfl rfl ?_
                refine asS rfl ?_
                refine r_nil ?_
                refine i_then ?_
                refine t_seq ?_
                refine t_region ?_
                refine mvS rfl ?_
                refine r_load_pp rfl rfl rfl rfl ?_
                refine r_len rfl rfl rfl ?_
                refine r_index_slN rfl rfl rfl rfl rfl rfl (by rw [loadsM_len]; omega) ?_
                refine r_load_pp rfl rfl rfl rfl ?_
                refine mvI rfl ?_
                refine r_index_sl rfl rfl rfl rfl rfl rfl (by omega) (by rw [Int.toNat_natCast, rowM_len f (by rw [loadsM_len]; omega)]; omega) ?_
                refine r_load_pp rfl rfl rfl rfl ?_
                refine mvI rfl ?_
                refine r_bin rfl rfl rfl ?_
                refine mvB rfl ?_
                apply r_guard (s := 198) rfl rfl rfl
                · intro hg; apply opT_of; (refine r_load_ptrN rfl rfl (by decide) rfl rfl (by exact Nat.le_of_ble_eq_true rfl) ?_); refine r_nil ?_; exact rfl
                · exact rfl
                · exact rfl
                apply r_guard (s := 198) rfl rfl rfl
                · intro hg; apply opT_of; (refine mvS rfl ?_); refine r_nil ?_; exact rfl
                · exact rfl
                · exact rfl
                apply r_guard (s := 198) rfl rfl rfl
                · intro hg; apply opT_strip (s := 199) rfl (by (rw [hg]; rfl)); apply opT_strip (s := 200) rfl (by (rw [hg]; rfl)); apply opT_of; (refine r_call (c_rOrder f hs (worstL f n) (by omega)) rfl rfl rfl rfl rfl ?_); refine r_nil ?_; exact rfl
                · exact rfl
                · exact rfl
                apply r_guard (s := 198) rfl rfl rfl
                · intro hg; apply opT_strip (s := 201) rfl (by (rw [hg]; rfl)); apply opT_of; (refine r_bin rfl rfl rfl ?_); refine r_nil ?_; exact rfl
                · exact rfl
                · exact rfl
                refine r_or rfl rfl ?_
                refine r_nil ?_
                refine i_then ?_
                refine t_cond_ff rfl (by rw [Int.toNat_natCast, loads_loadO hr.named hrm.rng hb (Nat.le_refl _), heavy_load hp hb, hwo]; simp) ?_
                refine t_skip ?_
                refine i_then ?_
                refine t_seq ?_
                refine t_draw mixed rfl ?_
                refine r_load_ptrN rfl rfl (by decide) rfl rfl (by exact Nat.le_of_ble_eq_true rfl) ?_
                refine mvI rfl ?_
                refine mvS rfl ?_
                refine r_call (c_paid (paysL f n) (by have := paysL_le hp n; omega)) rfl rfl rfl rfl rfl ?_
                refine r_call (c_rBounds f hs hr.ranged hr.named n hb (paysL f n) (by have := paysL_le hp n; omega)) rfl rfl rfl rfl rfl ?_
                refine mvT rfl ?_
                refine r_extract rfl rfl ?_
                refine r_extract rfl rfl ?_
                refine asI rfl ?_
                refine asI rfl ?_
                refine r_nil ?_
                refine ⟨by kernel_rfl, ?_⟩
                refine i_then ?_
                refine t_seq ?_
                refine t_region ?_
                refine mvI rfl ?_
                refine r_bin rfl rfl rfl ?_
                refine mvB rfl ?_
                apply r_guard (s := 214) rfl rfl rfl
                · intro hg; apply opT_of; (refine mvI rfl ?_); refine r_nil ?_; exact rfl
                · exact rfl
                · exact rfl
                apply r_guard (s := 214) rfl rfl rfl
                · intro hg; apply opT_of; (refine mvI rfl ?_); refine r_nil ?_; exact rfl
                · exact rfl
                · exact rfl
                apply r_guard (s := 214) rfl rfl rfl
                · intro hg; apply opT_strip (s := 215) rfl (by (rw [hg]; rfl)); apply opT_strip (s := 216) rfl (by (rw [hg]; rfl)); apply opT_of; (refine r_bin rfl rfl rfl ?_); refine r_nil ?_; exact rfl
                · exact rfl
                · exact rfl
                refine r_and rfl rfl ?_
                refine mvB rfl ?_
                apply r_guard (s := 219) rfl rfl rfl
                · intro hg; apply opT_of; (refine r_load_ptrN rfl rfl (by decide) rfl rfl (by exact Nat.le_of_ble_eq_true rfl) ?_); refine r_nil ?_; exact rfl
                · exact rfl
                · exact rfl
                apply r_guard (s := 219) rfl rfl rfl
                · intro hg; apply opT_of; (refine mvS rfl ?_); refine r_nil ?_; exact rfl
                · exact rfl
                · exact rfl
                apply r_guard (s := 219) rfl rfl rfl
                · intro hg; apply opT_strip (s := 221) rfl (by (rw [hg]; rfl)); apply opT_of; (refine r_buildSlice (E := RowE) (xs := [worstL f n]) rfl rfl rfl rfl rfl (by decide) (by decide) (by repeat (first | exact (Parts.nil : Parts _ _ [] _) | (show Parts _ _ ((_, _) :: _) _; apply Parts.one; (· exact (rfl : _ = Ty.sl _ _)); (· exact rfl)))) (by exact rfl) rfl ?_); refine r_nil ?_; exact rfl
                · exact rfl
                · exact rfl
                apply r_guard (s := 219) rfl rfl rfl
                · intro hg; apply opT_of; (refine mvI rfl ?_); refine r_nil ?_; exact rfl
                · exact rfl
                · exact rfl
                apply r_guard (s := 219) rfl rfl rfl
                · intro hg; apply opT_strip (s := 220) rfl (by (rw [hg]; rfl)); apply opT_strip (s := 222) rfl (by (rw [hg]; rfl)); apply opT_strip (s := 223) rfl (by (rw [hg]; rfl)); apply opT_of; (refine r_callL [223] (c_rMost f hs hr.ranged hr.named [worstL f n] (fun l hl => by rw [List.mem_singleton.1 hl]; exact ⟨hws.2.1, by omega⟩) n hb) rfl (by repeat (first | exact lends_nil | refine lends_cons (lend_pub rfl rfl) ?_)) (by exact plain_int _ _) ?_); refine r_nil ?_; exact rfl
                · exact rfl
                · exact rfl
                apply r_guard (s := 219) rfl rfl rfl
                · intro hg; apply opT_of; (refine mvI rfl ?_); refine r_nil ?_; exact rfl
                · exact rfl
                · exact rfl
                apply r_guard (s := 219) rfl rfl rfl
                · intro hg; apply opT_strip (s := 224) rfl (by (rw [hg]; rfl)); apply opT_strip (s := 225) rfl (by (rw [hg]; rfl)); apply opT_of; (refine r_bin rfl rfl rfl ?_); refine r_nil ?_; exact rfl
                · exact rfl
                · exact rfl
                refine r_and rfl rfl ?_
                refine mvB rfl ?_
                apply r_guard (s := 228) rfl rfl rfl
                · intro hg; apply opT_of; (refine r_call (c_awake) rfl rfl rfl rfl rfl ?_); refine r_nil ?_; exact rfl
                · exact rfl
                · exact rfl
                refine r_and rfl rfl ?_
                refine asB rfl ?_
                refine r_nil ?_
                refine i_then ?_
                refine t_ret ?_
                refine i_rp1 rfl rfl ?_
                all_goals skip
                all_goals first
                  | (have he := bounds_ok hc2 hb; exact ret_eq rfl rfl (congrArg Ty.bool (by rw [he, show mostUp f [worstL f n] n [worstL f n].length = heavyV f n from most_one hp hb]; simp)))
                  | (have hz : ¬ payE f bay = 0 := by rw [(pay_bad hp hc5).2.1]; decide
                     exact ret_eq rfl rfl (congrArg Ty.bool (by rw [heavy_no hz, worst_no hz, payR_no hz]; rfl)))
                  | (have hz : ¬ payE f bay = 0 := by rw [(pay_wrong (by rw [check_eq]; exact hc2) bay).1, check_eq]; exact hc2
                     exact ret_eq rfl rfl (congrArg Ty.bool (by rw [heavy_no hz, worst_no hz, payR_no hz]; rfl)))
          ·
            refine t_skip ?_
            refine i_then ?_
            refine t_seq ?_
            refine t_region ?_
            refine r_load_ptrN rfl rfl (by decide) rfl rfl (by exact Nat.le_of_ble_eq_true rfl) ?_
            refine mvI rfl ?_
            refine r_call (c_Most f hs _) rfl rfl rfl rfl rfl ?_
            refine mvT rfl ?_
            refine r_extract rfl rfl ?_
            refine r_extract rfl rfl ?_
            refine asI rfl ?_
            refine asI rfl ?_
            refine r_nil ?_
            refine i_then ?_
            refine t_seq ?_
            refine t_region ?_
            refine r_load_ptrN rfl rfl (by decide) rfl rfl (by exact Nat.le_of_ble_eq_true rfl) ?_
            refine mvI rfl ?_
            refine r_call (c_Heaviest f hs _) rfl rfl rfl rfl rfl ?_
            refine mvT rfl ?_
            refine r_extract rfl rfl ?_
            refine r_extract rfl rfl ?_
            refine r_alloc rfl (by exact List.cons_ne_nil _ _) rfl ?_
            refine r_store1 rfl rfl (by decide) rfl rfl (by exact (rfl : _ = Ty.sl _ _)) rfl (by exact Nat.le_of_ble_eq_true rfl) rfl rfl (by exact (rfl : _ = [_])) ?_
            refine asI rfl ?_
            refine r_nil ?_
            refine i_then ?_
            refine t_seq ?_
            refine t_region ?_
            refine r_load_ptrN rfl rfl (by decide) rfl rfl (by exact Nat.le_of_ble_eq_true rfl) ?_
            refine mvI rfl ?_
            refine r_call (c_Worst f hs _) rfl rfl rfl rfl rfl ?_
            refine mvT rfl ?_
            refine r_extract rfl rfl ?_
            refine r_extract rfl rfl ?_
            refine asS rfl ?_
            refine asI rfl ?_
            refine r_nil ?_
            refine i_then ?_
            refine t_seq ?_
            refine t_region ?_
            refine r_load_ptrN rfl rfl (by decide) rfl rfl (by exact Nat.le_of_ble_eq_true rfl) ?_
            refine mvI rfl ?_
            refine r_call (c_Payments f hs _) rfl rfl rfl rfl rfl ?_
            refine mvT rfl ?_
            refine r_extract rfl rfl ?_
            refine r_extract rfl rfl ?_
            refine asS rfl ?_
            refine asI rfl ?_
            refine r_nil ?_
            refine i_then ?_
            refine t_seq ?_
            refine t_region ?_
            refine r_load_ptrN rfl rfl (by decide) rfl rfl (by exact Nat.le_of_ble_eq_true rfl) ?_
            refine r_call (c_Risk f hs) rfl rfl rfl rfl rfl ?_
            refine mvT rfl ?_
            refine r_extract rfl rfl ?_
            refine r_extract rfl rfl ?_
            refine asS rfl ?_
            refine asI rfl ?_
            refine r_nil ?_
            refine i_then ?_
            refine t_seq ?_
            refine t_seq ?_
            refine t_region ?_
            refine mvI rfl ?_
            refine mvI rfl ?_
            refine r_bin rfl rfl rfl ?_
            refine mvB rfl ?_
            apply r_guard (s := 102) rfl rfl rfl
            · intro hg; apply opT_of; (refine mvI rfl ?_); refine r_nil ?_; exact rfl
            · exact rfl
            · exact rfl
            apply r_guard (s := 102) rfl rfl rfl
            · intro hg; apply opT_of; (refine mvI rfl ?_); refine r_nil ?_; exact rfl
            · exact rfl
            · exact rfl
            apply r_guard (s := 102) rfl rfl rfl
            · intro hg; apply opT_strip (s := 103) rfl (by (rw [hg]; rfl)); apply opT_strip (s := 104) rfl (by (rw [hg]; rfl)); apply opT_of; (refine r_bin rfl rfl rfl ?_); refine r_nil ?_; exact rfl
            · exact rfl
            · exact rfl
            refine r_or rfl rfl ?_
            refine mvB rfl ?_
            apply r_guard (s := 107) rfl rfl rfl
            · intro hg; apply opT_of; (refine mvI rfl ?_); refine r_nil ?_; exact rfl
            · exact rfl
            · exact rfl
            apply r_guard (s := 107) rfl rfl rfl
            · intro hg; apply opT_of; (refine mvI rfl ?_); refine r_nil ?_; exact rfl
            · exact rfl
            · exact rfl
            apply r_guard (s := 107) rfl rfl rfl
            · intro hg; apply opT_strip (s := 108) rfl (by (rw [hg]; rfl)); apply opT_strip (s := 109) rfl (by (rw [hg]; rfl)); apply opT_of; (refine r_bin rfl rfl rfl ?_); refine r_nil ?_; exact rfl
            · exact rfl
            · exact rfl
            refine r_or rfl rfl ?_
            refine mvB rfl ?_
            apply r_guard (s := 112) rfl rfl rfl
            · intro hg; apply opT_of; (refine mvI rfl ?_); refine r_nil ?_; exact rfl
            · exact rfl
            · exact rfl
            apply r_guard (s := 112) rfl rfl rfl
            · intro hg; apply opT_of; (refine mvI rfl ?_); refine r_nil ?_; exact rfl
            · exact rfl
            · exact rfl
            apply r_guard (s := 112) rfl rfl rfl
            · intro hg; apply opT_strip (s := 113) rfl (by (rw [hg]; rfl)); apply opT_strip (s := 114) rfl (by (rw [hg]; rfl)); apply opT_of; (refine r_bin rfl rfl rfl ?_); refine r_nil ?_; exact rfl
            · exact rfl
            · exact rfl
            refine r_or rfl rfl ?_
            refine mvB rfl ?_
            apply r_guard (s := 117) rfl rfl rfl
            · intro hg; apply opT_of; (refine mvI rfl ?_); refine r_nil ?_; exact rfl
            · exact rfl
            · exact rfl
            apply r_guard (s := 117) rfl rfl rfl
            · intro hg; apply opT_of; (refine mvI rfl ?_); refine r_nil ?_; exact rfl
            · exact rfl
            · exact rfl
            apply r_guard (s := 117) rfl rfl rfl
            · intro hg; apply opT_strip (s := 118) rfl (by (rw [hg]; rfl)); apply opT_strip (s := 119) rfl (by (rw [hg]; rfl)); apply opT_of; (refine r_bin rfl rfl rfl ?_); refine r_nil ?_; exact rfl
            · exact rfl
            · exact rfl
            refine r_or rfl rfl ?_
            refine mvB rfl ?_
            apply r_guard (s := 122) rfl rfl rfl
            · intro hg; apply opT_of; (refine mvI rfl ?_); refine r_nil ?_; exact rfl
            · exact rfl
            · exact rfl
            apply r_guard (s := 122) rfl rfl rfl
            · intro hg; apply opT_of; (refine mvI rfl ?_); refine r_nil ?_; exact rfl
            · exact rfl
            · exact rfl
            apply r_guard (s := 122) rfl rfl rfl
            · intro hg; apply opT_strip (s := 123) rfl (by (rw [hg]; rfl)); apply opT_strip (s := 124) rfl (by (rw [hg]; rfl)); apply opT_of; (refine r_bin rfl rfl rfl ?_); refine r_nil ?_; exact rfl
            · exact rfl
            · exact rfl
            refine r_or rfl rfl ?_
            refine mvB rfl ?_
            apply r_guard (s := 127) rfl rfl rfl
            · intro hg; apply opT_of; (refine mvS rfl ?_); refine r_nil ?_; exact rfl
            · exact rfl
            · exact rfl
            apply r_guard (s := 127) rfl rfl rfl
            · intro hg; apply opT_of; (refine mvR rfl ?_); refine r_nil ?_; exact rfl
            · exact rfl
            · exact rfl
            apply r_guard (s := 127) rfl rfl rfl
            · intro hg; apply opT_strip (s := 128) rfl (by (rw [hg]; rfl)); apply opT_strip (s := 129) rfl (by (rw [hg]; rfl)); apply opT_of; (refine r_callL [6, 7, 17, 60] (c_Eq_int _ _) rfl (by repeat (first | exact lends_nil | refine lends_cons (lend_pub rfl rfl) ?_ | refine lends_cons (lend_row rfl) ?_)) (by exact plain_bool _) ?_); refine r_nil ?_; exact rfl
            · exact rfl
            · exact rfl
            apply r_guard (s := 127) rfl rfl rfl
            · intro hg; apply opT_strip (s := 130) rfl (by (rw [hg]; rfl)); apply opT_of; (refine r_not rfl ?_); refine r_nil ?_; exact rfl
            · exact rfl
            · exact rfl
            refine r_or rfl rfl ?_
            refine mvB rfl ?_
            apply r_guard (s := 133) rfl rfl rfl
            · intro hg; apply opT_of; (refine r_load_ptrN rfl rfl (by decide) rfl rfl (by exact Nat.le_of_ble_eq_true rfl) ?_); refine r_nil ?_; exact rfl
            · exact rfl
            · exact rfl
            apply r_guard (s := 133) rfl rfl rfl
            · intro hg; apply opT_of; (refine r_load_ppN rfl rfl rfl (by exact Nat.le_of_ble_eq_true rfl) ?_); refine r_nil ?_; exact rfl
            · exact rfl
            · exact rfl
            apply r_guard (s := 133) rfl rfl rfl
            · intro hg; apply opT_strip (s := 134) rfl (by (rw [hg]; rfl)); apply opT_strip (s := 135) rfl (by (rw [hg]; rfl)); apply opT_of; (refine r_call (c_same f f) rfl rfl rfl rfl rfl ?_); refine r_nil ?_; exact rfl
            · exact rfl
            · exact rfl
            apply r_guard (s := 133) rfl rfl rfl
            · intro hg; apply opT_strip (s := 136) rfl (by (rw [hg]; rfl)); apply opT_of; (refine r_not rfl ?_); refine r_nil ?_; exact rfl
            · exact rfl
            · exact rfl
            refine r_or rfl rfl ?_
            refine r_nil ?_
            refine i_then ?_
            refine t_cond_ff rfl (by rw [(pay_bad hp hc5).1, (pay_bad hp hc5).2.1, (pay_bad hp hc5).2.2, hc2, hp, risk_ok hp (k := k.1) (by omega)]; simp) ?_
            refine t_skip ?_
            refine i_then ?_
            refine t_seq ?_
            refine t_seq ?_
            refine t_region ?_
            refine mvI rfl ?_
            refine r_bin rfl rfl rfl ?_
            refine r_nil ?_
            refine i_then ?_
            refine t_cond_tt rfl (by rw [(pay_bad hp hc5).1]; rfl) ?_
            refine t_seq ?_
            refine t_region ?_
            refine r_load_ptr rfl rfl (by decide) rfl rfl rfl ?_
            refine r_len rfl rfl rfl ?_
            refine mvS rfl ?_
            refine r_len rfl rfl rfl ?_
            refine r_bin rfl rfl rfl ?_
            refine mvS rfl ?_
            refine r_len rfl rfl rfl ?_
            refine r_bin rfl rfl rfl ?_
            refine r_bin rfl rfl rfl ?_
            refine mvB rfl ?_
            apply r_guard (s := 150) rfl rfl rfl
            · intro hg; apply opT_of; (refine r_call (c_awake) rfl rfl rfl rfl rfl ?_); refine r_nil ?_; exact rfl
            · exact rfl
            · exact rfl
            refine r_and rfl rfl ?_
            refine asB rfl ?_
            refine r_nil ?_
            refine i_then ?_
            refine t_ret ?_
            refine i_then_ret ?_
            refine i_rp1 rfl rfl ?_
            all_goals skip
            all_goals first
              | (have he := bounds_ok hc2 hb; exact ret_eq rfl rfl (congrArg Ty.bool (by rw [he, show mostUp f [worstL f n] n [worstL f n].length = heavyV f n from most_one hp hb]; simp)))
              | (have hz : ¬ payE f bay = 0 := by rw [(pay_bad hp hc5).2.1]; decide
                 exact ret_eq rfl rfl (congrArg Ty.bool (by rw [heavy_no hz, worst_no hz, payR_no hz]; rfl)))
              | (have hz : ¬ payE f bay = 0 := by rw [(pay_wrong (by rw [check_eq]; exact hc2) bay).1, check_eq]; exact hc2
                 exact ret_eq rfl rfl (congrArg Ty.bool (by rw [heavy_no hz, worst_no hz, payR_no hz]; rfl)))
    ·
      refine t_skip ?_
      refine i_then ?_
      refine t_seq ?_
      refine t_region ?_
      refine r_load_ptrN rfl rfl (by decide) rfl rfl (by exact Nat.le_of_ble_eq_true rfl) ?_
      refine mvI rfl ?_
      refine r_call (c_Most f hs _) rfl rfl rfl rfl rfl ?_
      refine mvT rfl ?_
      refine r_extract rfl rfl ?_
      refine r_extract rfl rfl ?_
      refine asI rfl ?_
      refine asI rfl ?_
      refine r_nil ?_
      refine i_then ?_
      refine t_seq ?_
      refine t_region ?_
      refine r_load_ptrN rfl rfl (by decide) rfl rfl (by exact Nat.le_of_ble_eq_true rfl) ?_
      refine mvI rfl ?_
      refine r_call (c_Heaviest f hs _) rfl rfl rfl rfl rfl ?_
      refine mvT rfl ?_
      refine r_extract rfl rfl ?_
      refine r_extract rfl rfl ?_
      refine r_alloc rfl (by exact List.cons_ne_nil _ _) rfl ?_
      refine r_store1 rfl rfl (by decide) rfl rfl (by exact (rfl : _ = Ty.sl _ _)) rfl (by exact Nat.le_of_ble_eq_true rfl) rfl rfl (by exact (rfl : _ = [_])) ?_
      refine asI rfl ?_
      refine r_nil ?_
      refine i_then ?_
      refine t_seq ?_
      refine t_region ?_
      refine r_load_ptrN rfl rfl (by decide) rfl rfl (by exact Nat.le_of_ble_eq_true rfl) ?_
      refine mvI rfl ?_
      refine r_call (c_Worst f hs _) rfl rfl rfl rfl rfl ?_
      refine mvT rfl ?_
      refine r_extract rfl rfl ?_
      refine r_extract rfl rfl ?_
      refine asS rfl ?_
      refine asI rfl ?_
      refine r_nil ?_
      refine i_then ?_
      refine t_seq ?_
      refine t_region ?_
      refine r_load_ptrN rfl rfl (by decide) rfl rfl (by exact Nat.le_of_ble_eq_true rfl) ?_
      refine mvI rfl ?_
      refine r_call (c_Payments f hs _) rfl rfl rfl rfl rfl ?_
      refine mvT rfl ?_
      refine r_extract rfl rfl ?_
      refine r_extract rfl rfl ?_
      refine asS rfl ?_
      refine asI rfl ?_
      refine r_nil ?_
      refine i_then ?_
      refine t_seq ?_
      refine t_region ?_
      refine r_load_ptrN rfl rfl (by decide) rfl rfl (by exact Nat.le_of_ble_eq_true rfl) ?_
      refine r_call (c_Risk f hs) rfl rfl rfl rfl rfl ?_
      refine mvT rfl ?_
      refine r_extract rfl rfl ?_
      refine r_extract rfl rfl ?_
      refine asS rfl ?_
      refine asI rfl ?_
      refine r_nil ?_
      refine i_then ?_
      refine t_seq ?_
      refine t_seq ?_
      refine t_region ?_
      refine mvI rfl ?_
      refine mvI rfl ?_
      refine r_bin rfl rfl rfl ?_
      refine mvB rfl ?_
      apply r_guard (s := 102) rfl rfl rfl
      · intro hg; apply opT_of; (refine mvI rfl ?_); refine r_nil ?_; exact rfl
      · exact rfl
      · exact rfl
      apply r_guard (s := 102) rfl rfl rfl
      · intro hg; apply opT_of; (refine mvI rfl ?_); refine r_nil ?_; exact rfl
      · exact rfl
      · exact rfl
      apply r_guard (s := 102) rfl rfl rfl
      · intro hg; apply opT_strip (s := 103) rfl (by (rw [hg]; rfl)); apply opT_strip (s := 104) rfl (by (rw [hg]; rfl)); apply opT_of; (refine r_bin rfl rfl rfl ?_); refine r_nil ?_; exact rfl
      · exact rfl
      · exact rfl
      refine r_or rfl rfl ?_
      refine mvB rfl ?_
      apply r_guard (s := 107) rfl rfl rfl
      · intro hg; apply opT_of; (refine mvI rfl ?_); refine r_nil ?_; exact rfl
      · exact rfl
      · exact rfl
      apply r_guard (s := 107) rfl rfl rfl
      · intro hg; apply opT_of; (refine mvI rfl ?_); refine r_nil ?_; exact rfl
      · exact rfl
      · exact rfl
      apply r_guard (s := 107) rfl rfl rfl
      · intro hg; apply opT_strip (s := 108) rfl (by (rw [hg]; rfl)); apply opT_strip (s := 109) rfl (by (rw [hg]; rfl)); apply opT_of; (refine r_bin rfl rfl rfl ?_); refine r_nil ?_; exact rfl
      · exact rfl
      · exact rfl
      refine r_or rfl rfl ?_
      refine mvB rfl ?_
      apply r_guard (s := 112) rfl rfl rfl
      · intro hg; apply opT_of; (refine mvI rfl ?_); refine r_nil ?_; exact rfl
      · exact rfl
      · exact rfl
      apply r_guard (s := 112) rfl rfl rfl
      · intro hg; apply opT_of; (refine mvI rfl ?_); refine r_nil ?_; exact rfl
      · exact rfl
      · exact rfl
      apply r_guard (s := 112) rfl rfl rfl
      · intro hg; apply opT_strip (s := 113) rfl (by (rw [hg]; rfl)); apply opT_strip (s := 114) rfl (by (rw [hg]; rfl)); apply opT_of; (refine r_bin rfl rfl rfl ?_); refine r_nil ?_; exact rfl
      · exact rfl
      · exact rfl
      refine r_or rfl rfl ?_
      refine mvB rfl ?_
      apply r_guard (s := 117) rfl rfl rfl
      · intro hg; apply opT_of; (refine mvI rfl ?_); refine r_nil ?_; exact rfl
      · exact rfl
      · exact rfl
      apply r_guard (s := 117) rfl rfl rfl
      · intro hg; apply opT_of; (refine mvI rfl ?_); refine r_nil ?_; exact rfl
      · exact rfl
      · exact rfl
      apply r_guard (s := 117) rfl rfl rfl
      · intro hg; apply opT_strip (s := 118) rfl (by (rw [hg]; rfl)); apply opT_strip (s := 119) rfl (by (rw [hg]; rfl)); apply opT_of; (refine r_bin rfl rfl rfl ?_); refine r_nil ?_; exact rfl
      · exact rfl
      · exact rfl
      refine r_or rfl rfl ?_
      refine mvB rfl ?_
      apply r_guard (s := 122) rfl rfl rfl
      · intro hg; apply opT_of; (refine mvI rfl ?_); refine r_nil ?_; exact rfl
      · exact rfl
      · exact rfl
      apply r_guard (s := 122) rfl rfl rfl
      · intro hg; apply opT_of; (refine mvI rfl ?_); refine r_nil ?_; exact rfl
      · exact rfl
      · exact rfl
      apply r_guard (s := 122) rfl rfl rfl
      · intro hg; apply opT_strip (s := 123) rfl (by (rw [hg]; rfl)); apply opT_strip (s := 124) rfl (by (rw [hg]; rfl)); apply opT_of; (refine r_bin rfl rfl rfl ?_); refine r_nil ?_; exact rfl
      · exact rfl
      · exact rfl
      refine r_or rfl rfl ?_
      refine mvB rfl ?_
      apply r_guard (s := 127) rfl rfl rfl
      · intro hg; apply opT_of; (refine mvS rfl ?_); refine r_nil ?_; exact rfl
      · exact rfl
      · exact rfl
      apply r_guard (s := 127) rfl rfl rfl
      · intro hg; apply opT_of; (refine mvX rfl ?_); refine r_nil ?_; exact rfl
      · exact rfl
      · exact rfl
      apply r_guard (s := 127) rfl rfl rfl
      · intro hg; apply opT_strip (s := 128) rfl (by (rw [hg]; rfl)); apply opT_strip (s := 129) rfl (by (rw [hg]; rfl)); apply opT_of; (refine r_callL [6, 7, 17, 60] (c_Eq_int _ _) rfl (by repeat (first | exact lends_nil | refine lends_cons (lend_pub rfl rfl) ?_ | refine lends_cons lend_nil ?_)) (by exact plain_bool _) ?_); refine r_nil ?_; exact rfl
      · exact rfl
      · exact rfl
      apply r_guard (s := 127) rfl rfl rfl
      · intro hg; apply opT_strip (s := 130) rfl (by (rw [hg]; rfl)); apply opT_of; (refine r_not rfl ?_); refine r_nil ?_; exact rfl
      · exact rfl
      · exact rfl
      refine r_or rfl rfl ?_
      refine mvB rfl ?_
      apply r_guard (s := 133) rfl rfl rfl
      · intro hg; apply opT_of; (refine r_load_ptrN rfl rfl (by decide) rfl rfl (by exact Nat.le_of_ble_eq_true rfl) ?_); refine r_nil ?_; exact rfl
      · exact rfl
      · exact rfl
      apply r_guard (s := 133) rfl rfl rfl
      · intro hg; apply opT_of; (refine r_load_ppN rfl rfl rfl (by exact Nat.le_of_ble_eq_true rfl) ?_); refine r_nil ?_; exact rfl
      · exact rfl
      · exact rfl
      apply r_guard (s := 133) rfl rfl rfl
      · intro hg; apply opT_strip (s := 134) rfl (by (rw [hg]; rfl)); apply opT_strip (s := 135) rfl (by (rw [hg]; rfl)); apply opT_of; (refine r_call (c_same f f) rfl rfl rfl rfl rfl ?_); refine r_nil ?_; exact rfl
      · exact rfl
      · exact rfl
      apply r_guard (s := 133) rfl rfl rfl
      · intro hg; apply opT_strip (s := 136) rfl (by (rw [hg]; rfl)); apply opT_of; (refine r_not rfl ?_); refine r_nil ?_; exact rfl
      · exact rfl
      · exact rfl
      refine r_or rfl rfl ?_
      refine r_nil ?_
      refine i_then ?_
      refine t_cond_ff rfl (by rw [(pay_wrong (show ¬ checkP f = 0 by rw [check_eq]; exact hc2) bay).1, (pay_wrong (show ¬ checkP f = 0 by rw [check_eq]; exact hc2) bay).2.1, (pay_wrong (show ¬ checkP f = 0 by rw [check_eq]; exact hc2) bay).2.2, check_eq]; simp) ?_
      refine t_skip ?_
      refine i_then ?_
      refine t_seq ?_
      refine t_seq ?_
      refine t_region ?_
      refine mvI rfl ?_
      refine r_bin rfl rfl rfl ?_
      refine r_nil ?_
      refine i_then ?_
      refine t_cond_tt rfl (by rw [decide_eq_false hc2]; rfl) ?_
      refine t_seq ?_
      refine t_region ?_
      refine r_load_ptr rfl rfl (by decide) rfl rfl rfl ?_
      refine r_len rfl rfl rfl ?_
      refine mvS rfl ?_
      refine r_len rfl rfl rfl ?_
      refine r_bin rfl rfl rfl ?_
      refine mvS rfl ?_
      refine r_len rfl rfl rfl ?_
      refine r_bin rfl rfl rfl ?_
      refine r_bin rfl rfl rfl ?_
      refine mvB rfl ?_
      apply r_guard (s := 150) rfl rfl rfl
      · intro hg; apply opT_of; (refine r_call (c_awake) rfl rfl rfl rfl rfl ?_); refine r_nil ?_; exact rfl
      · exact rfl
      · exact rfl
      refine r_and rfl rfl ?_
      refine asB rfl ?_
      refine r_nil ?_
      refine i_then ?_
      refine t_ret ?_
      refine i_then_ret ?_
      refine i_rp1 rfl rfl ?_
      all_goals skip
      all_goals first
        | (have he := bounds_ok hc2 hb; exact ret_eq rfl rfl (congrArg Ty.bool (by rw [he, show mostUp f [worstL f n] n [worstL f n].length = heavyV f n from most_one hp hb]; simp)))
        | (have hz : ¬ payE f bay = 0 := by rw [(pay_bad hp hc5).2.1]; decide
           exact ret_eq rfl rfl (congrArg Ty.bool (by rw [heavy_no hz, worst_no hz, payR_no hz]; rfl)))
        | (have hz : ¬ payE f bay = 0 := by rw [(pay_wrong (by rw [check_eq]; exact hc2) bay).1, check_eq]; exact hc2
           exact ret_eq rfl rfl (congrArg Ty.bool (by rw [heavy_no hz, worst_no hz, payR_no hz]; rfl)))
end Go.Proofs.YtifgbnbkimcchaaGreat

namespace Go.T
open Go Go.RowKit Go.ChangeShapes Go.WideShapes Go.ChangeAt
def pubs : Tags := fun _ => none
theorem wf_pubs (w : World) : Wf w pubs := ⟨fun _ _ h => (by cases h), fun _ _ _ h => (by cases h)⟩
theorem pubs_zero : ∀ b t, pubs b = some t → t = 0 := fun _ _ h => by cases h
structure Rd {α : Type} (P : Program) (e : TypeId) (E : El α) : Prop where
  size : P.cellsOf e = E.size
  pos : 0 < E.size
  rd : ∀ {H : Type} {enc : TypeId × Value → H} {w : World} {base : Nat} {held : Bool} {n : Nat} {cs : List Value} {y : DataW H × List MemPlace}, DataW.trod enc P w base (fun _ => true) held n e cs = some y → ∃ x, dens w pubs (E.tys x) cs
section
variable {H : Type} {enc : TypeId × Value → H} {P : Program} {w : World} {base : Nat} {held : Bool} {α : Type} {E : El α} {t e : TypeId} {n : Nat} {cs : List Value} {y : DataW H × List MemPlace}
theorem rd_sl (hR : Rd P e E) (ht : P.underlying t = some (.slice e)) (h : DataW.trod enc P w base (fun _ => true) held n t cs = some y) : ∃ v xs, cs = [v] ∧ (Ty.sl E xs).den w pubs v := by
  rcases Go.Deep.open_slice ht h with ⟨rfl, _⟩ | ⟨a, len, cap, m, k, D, Pl, rfl, _, hl, hm, hmm, _, hel⟩
  · exact ⟨_, [], rfl, none, 0, rfl, Nat.le_refl _, Nat.zero_le _, fun h => absurd h (Nat.lt_irrefl _)⟩
  have hlm : len ≤ m := by rw [hmm]; simpa using hl
  have hX : ∀ i : Fin len, ∃ x : α, ∃ cs', w.cells? base (a.add (i.1 * P.cellsOf e)) (P.cellsOf e) = some cs' ∧ dens w pubs (E.tys x) cs' := fun i => by
    obtain ⟨cs', h1, h2⟩ := hel i.1 (Nat.lt_of_lt_of_le i.2 hlm)
    obtain ⟨x, hx⟩ := hR.rd h2
    exact ⟨x, cs', h1, hx⟩
  let X : Fin len → α := fun i => (hX i).choose
  have hXs : ∀ i : Fin len, ∃ cs', w.cells? base (a.add (i.1 * P.cellsOf e)) (P.cellsOf e) = some cs' ∧ dens w pubs (E.tys (X i)) cs' := fun i => (hX i).choose_spec
  have hlen : (List.ofFn X).length = len := by simp
  refine ⟨_, List.ofFn X, rfl, some a, cap, by rw [hlen], by rw [hlen]; exact hl, hm, fun h0 => ?_⟩
  rw [hlen] at h0
  have hcell : ∀ (i : Fin len) (j : Nat) (u : Ty), (E.tys (X i))[j]? = some u → ∃ v, w.cell? (a.add (i.1 * E.size + j)) = some v ∧ u.den w pubs v := fun i j u hu => by
    obtain ⟨cs', h1, h2⟩ := hXs i
    obtain ⟨v, hv, hd⟩ := dens_get h2 j u hu
    obtain ⟨_, g1, g2⟩ := World.cells?_some h1
    have hj : j < P.cellsOf e := by
      rw [hR.size, ← E.len (X i)]
      exact (List.getElem?_eq_some_iff.1 hu).1
    refine ⟨v, ?_, hd⟩
    have := g2 j hj
    rw [Go.Deep.add_add, hv, hR.size] at this
    exact this
  have hsz := hR.pos
  have hfirst : ∃ v, w.cell? (a.add 0) = some v := by
    obtain ⟨u, hu⟩ : ∃ u, (E.tys (X ⟨0, h0⟩))[0]? = some u := ⟨_, List.getElem?_eq_getElem (by rw [E.len]; exact hsz)⟩
    obtain ⟨v, hv, _⟩ := hcell ⟨0, h0⟩ 0 u hu
    exact ⟨v, by simpa using hv⟩
  obtain ⟨b, off, sp⟩ := a
  obtain ⟨v0, hv0⟩ := hfirst
  have hsp : sp = none := by simpa [Addr.add] using World.cell?_spot hv0
  subst hsp
  have hb : b < w.heap.size := by
    obtain ⟨cs', h1, _⟩ := hXs ⟨0, h0⟩
    have := World.cells?_block h1 (by rw [hR.size]; exact hsz)
    simpa [Addr.add] using this
  refine ⟨b, off, rfl, rfl, hb, fun i u hu => ?_⟩
  have hi : i < len * E.size := by
    have := (List.getElem?_eq_some_iff.1 hu).1
    rw [flat_len, hlen] at this; exact this
  have hk : i / E.size < len := Nat.div_lt_of_lt_mul (by rw [Nat.mul_comm]; exact hi)
  have hj : i % E.size < E.size := Nat.mod_lt _ hsz
  have hij : i / E.size * E.size + i % E.size = i := by rw [Nat.mul_comm]; exact Nat.div_add_mod i E.size
  have hu2 := hu
  rw [← hij, flat_get E _ _ _ (by rw [hlen]; exact hk) hj, List.getElem?_ofFn, dif_pos hk] at hu2
  obtain ⟨v, hv, hd⟩ := hcell ⟨i / E.size, hk⟩ (i % E.size) u hu2
  refine ⟨v, ?_, hd⟩
  rw [← Go.WideShapes.add_plain]
  rw [hij] at hv
  exact hv
theorem rd_struct2 {f0 f1 : Field} (hs : P.underlying t = some (.struct #[f0, f1])) (hC : P.cellsOf t = 2) (h0 : f0.offset = 0 ∧ P.cellsOf f0.type = 1) (h1 : f1.offset = 1 ∧ P.cellsOf f1.type = 1) (h : DataW.trod enc P w base (fun _ => true) held n t cs = some y) :
    ∃ c0 c1 y0 y1 m, cs = [c0, c1] ∧ DataW.trod enc P w base (fun _ => true) held m f0.type [c0] = some y0 ∧ DataW.trod enc P w base (fun _ => true) held m f1.type [c1] = some y1 := by
  obtain ⟨y0, y1, m, _, hl, g0, g1⟩ := Go.ChangeShapes.trod_struct2 hs h
  rw [hC] at hl
  match cs, hl with
  | [c0, c1], _ =>
    rw [h0.1, h0.2] at g0
    rw [h1.1, h1.2] at g1
    exact ⟨c0, c1, y0, y1, m, rfl, g0, g1⟩
theorem rd_struct3 {f0 f1 f2 : Field} (hs : P.underlying t = some (.struct #[f0, f1, f2])) (hC : P.cellsOf t = 3) (h0 : f0.offset = 0 ∧ P.cellsOf f0.type = 1) (h1 : f1.offset = 1 ∧ P.cellsOf f1.type = 1) (h2 : f2.offset = 2 ∧ P.cellsOf f2.type = 1) (h : DataW.trod enc P w base (fun _ => true) held n t cs = some y) :
    ∃ c0 c1 c2 y0 y1 y2 m, cs = [c0, c1, c2] ∧ DataW.trod enc P w base (fun _ => true) held m f0.type [c0] = some y0 ∧ DataW.trod enc P w base (fun _ => true) held m f1.type [c1] = some y1 ∧ DataW.trod enc P w base (fun _ => true) held m f2.type [c2] = some y2 := by
  obtain ⟨y0, y1, y2, m, _, hl, g0, g1, g2⟩ := Go.Deep.trod_struct3 hs h
  rw [hC] at hl
  match cs, hl with
  | [c0, c1, c2], _ =>
    rw [h0.1, h0.2] at g0
    rw [h1.1, h1.2] at g1
    rw [h2.1, h2.2] at g2
    exact ⟨c0, c1, c2, y0, y1, y2, m, rfl, g0, g1, g2⟩
theorem rd_int {k : IntKind} {c : Value} (ht : P.underlying t = some (.int k)) (h : DataW.trod enc P w base (fun _ => true) held n t [c] = some y) : ∃ i, c = .int k i := by
  obtain ⟨i, e, _⟩ := DataW.trod_int ht h
  exact ⟨i, by simpa using e⟩
theorem rd_sl1 {c : Value} (hR : Rd P e E) (ht : P.underlying t = some (.slice e)) (h : DataW.trod enc P w base (fun _ => true) held n t [c] = some y) : ∃ xs, (Ty.sl E xs).den w pubs c := by
  obtain ⟨v, xs, e, hd⟩ := rd_sl hR ht h
  exact ⟨xs, by rw [show c = v by simpa using e]; exact hd⟩
end
section
variable {w w' : World} {S K : Nat → Prop} {M' : Tags}
theorem le_block (le : Le S K w pubs w' M') {b : Nat} (hb : b < w.heap.size) : w'.heap[b]? = w.heap[b]? := (le.pub b hb rfl).2
theorem le_same (le : Le S K w pubs w' M') {p : MemPlace} (hp : p.block < w.heap.size) : w.sameAt w' p := by
  cases p with
  | cell b o => exact World.cell?_of_block (w := w) (le_block le hp)
  | map b => exact le_block le hp
theorem le_kept (le : Le S K w pubs w' M') (may : MemPlace → Prop) : w.keptBut w' may := by
  refine ⟨le.os, le.out, fun i hi => ?_⟩
  have e := le_block le hi
  rw [e]
  split
  · rename_i h1 h2
    rw [h1] at h2
    simp only [Option.some.injEq, Obj.cells.injEq] at h2
    obtain ⟨rfl, rfl, rfl⟩ := h2
    exact ⟨rfl, rfl, rfl, fun _ _ => rfl⟩
  · rename_i h1 h2
    rw [h1] at h2
    simp only [Option.some.injEq, Obj.map.injEq] at h2
    exact Or.inr ⟨h2.1.symm, h2.2.symm⟩
  · rfl
theorem le_frozen (le : Le S K w pubs w' M') {a : Addr} (ha : a.block < w.heap.size) : w'.frozen? a = w.frozen? a := by
  unfold World.frozen?
  rw [le_block le ha]
end
section
variable {H : Type} {enc : TypeId × Value → H} {P : Program}
theorem trodAll_stays (hl : laidOutB P = true) {w w' : World} {sp : Nat → Bool} : ∀ {ts : List TypeId} {vs : List Value} {ds : List (DataW H)} {ps : List MemPlace}, (∀ t ∈ ts, P.readableRec t = true ∧ t < P.types.size) →
    DataW.TrodAll enc P w 0 (fun _ => true) true ts vs ds ps → (∀ p ∈ ps, w.sameAt w' p) → (∀ p ∈ ps, sp p.block = true) → DataW.TrodAll enc P w' 0 sp true ts vs ds ps
  | [], [], [], _, _, h, _, _ => h
  | t :: ts, v :: vs, d :: ds, _, ht, ⟨p, q, h1, h2, e⟩, hs, hsp => by
    subst e
    have h0 := ht t List.mem_cons_self
    exact ⟨p, q, Go.WideElems.Trod_stays hl h0.1 h0.2 h1 (fun x hx => hs x (List.mem_append_left _ hx)) (fun x hx => hsp x (List.mem_append_left _ hx)),
      trodAll_stays hl (fun t h => ht t (List.mem_cons_of_mem _ h)) h2 (fun x hx => hs x (List.mem_append_right _ hx)) (fun x hx => hsp x (List.mem_append_right _ hx)), rfl⟩
theorem post_true {f : Func} {s : ChangeSpec} {apart fresh handsOn again : Bool} {W W' : World} {args : Array Value} {ds : List (DataW H)} {before : List MemPlace} {S K : Nat → Prop} {M' : Tags}
    (hl : laidOutB P = true) (hv : s.vars = []) (hrd : ∀ t ∈ f.params.toList, P.readableRec t = true ∧ t < P.types.size) {tb : TypeId} (htb : P.underlying tb = some .bool) (hrt : f.resultTypes = #[tb])
    (hW : DataW.Whole enc P f.params.toList s.vars apart W args.toList ds [] before) (hres : (s.fn H (ds ++ [])).results = [.lit (.bool true)]) (hargs : (s.fn H (ds ++ [])).args = ds) (hvars : (s.fn H (ds ++ [])).vars = [])
    (le : Le S K W pubs W' M') : s.post enc P f apart fresh handsOn again W args (.bool true) W' := by
  have hW0 := hW
  obtain ⟨p, q, hA, hV, hb, hfz, hn⟩ := hW0
  have hlt := DataW.TrodAll.lt hA
  have hq : q = [] := by rw [hv] at hV; exact (trodVars_none hV).2
  subst hq
  have hbp : before = p := by rw [hb]; simp
  have hre : ∀ (b : Nat) (sp : Nat → Bool) (hd : Bool), DataW.TrodAll enc P W' b sp hd f.resultTypes.toList ((Value.bool true).resultList f.resultTypes.size) (s.fn H (ds ++ [])).results [] := fun b sp hd => by
    rw [hrt, hres]; exact trodAll_mk1 (shut_bool htb true)
  have har : ∀ sp : Nat → Bool, (∀ x ∈ p, sp x.block = true) → DataW.TrodAll enc P W' 0 sp true f.params.toList args.toList (s.fn H (ds ++ [])).args p := fun sp hsp => by
    rw [hargs]; exact trodAll_stays hl hrd hA (fun x hx => le_same le (hlt x hx)) hsp
  have hva : ∀ sp : Nat → Bool, DataW.TrodVars enc P W' sp s.vars (s.fn H (ds ++ [])).vars [] := fun sp => by
    rw [hvars, hv]; exact rfl
  have hok : ∀ (j : Nat) (t : TypeId) (r : Value), f.resultTypes[j]? = some t → ((Value.bool true).resultList f.resultTypes.size)[j]? = some r → Value.okWide P W' .any 0 t r := by
    exact ok_one (by rw [hrt]) rfl (okWide_bool_mk htb true)
  refine ⟨ds, [], before, [], p, [], hW, hre _ _ _, har _ (fun x hx => by simpa using hlt x hx), hva _, World.keptBut_mono (fun x hx => hx) (le_kept le _), fun _ => ?_⟩
  refine ⟨hok, _, _, ([] ++ p) ++ [], ⟨[] ++ p, [], trodAll_append (har _ (fun _ _ => rfl)) (hre _ _ _), hva _, rfl, ?_, ?_⟩, ?_⟩
  · intro b off hp
    have hp' : MemPlace.cell b off ∈ p := by simpa using hp
    rw [le_frozen le (hlt _ hp')]
    exact hfz b off (by rw [hbp]; exact hp')
  · intro ha
    have := hn ha
    rw [hbp] at this
    simpa using this
  · intro x hx _
    rw [hbp]
    simpa using hx
end
end Go.T

namespace Go.Proofs.YtifgbnbkimcchaaGreat
open Go Go.T Go.RowKit Go.ChangeShapes Go.WideShapes Go.ChangeAt
theorem rdI64 : Rd Tryz.prog 3 I64 := ⟨by kernel_rfl, by decide, fun h => by
  obtain ⟨i, rfl, _⟩ := DataW.trod_int Tryz.underlying3 h
  exact ⟨i, rfl, trivial⟩⟩
theorem rdTrn : Rd Tryz.prog 71 TrnE := ⟨by kernel_rfl, by decide, fun h => by
  obtain ⟨c0, c1, c2, y0, y1, y2, m, rfl, h0, h1, h2⟩ := rd_struct3 Tryz.underlying71 (by kernel_rfl) ⟨rfl, by kernel_rfl⟩ ⟨rfl, by kernel_rfl⟩ ⟨rfl, by kernel_rfl⟩ h
  obtain ⟨a, rfl⟩ := rd_int Tryz.underlying3 h0
  obtain ⟨b, rfl⟩ := rd_int Tryz.underlying3 h1
  obtain ⟨c, rfl⟩ := rd_int Tryz.underlying3 h2
  exact ⟨⟨a, b, c⟩, rfl, rfl, rfl, trivial⟩⟩
theorem rdRul : Rd Tryz.prog 64 RulE := ⟨by kernel_rfl, by decide, fun h => by
  obtain ⟨c0, c1, y0, y1, m, rfl, h0, h1⟩ := rd_struct2 Tryz.underlying64 (by kernel_rfl) ⟨rfl, by kernel_rfl⟩ ⟨rfl, by kernel_rfl⟩ h
  obtain ⟨a, rfl⟩ := rd_int Tryz.underlying3 h0
  obtain ⟨b, rfl⟩ := rd_int Tryz.underlying3 h1
  exact ⟨⟨a, b⟩, rfl, rfl, trivial⟩⟩
theorem rdBin : Rd Tryz.prog 69 BinE := ⟨by kernel_rfl, by decide, fun h => by
  obtain ⟨c0, c1, y0, y1, m, rfl, h0, h1⟩ := rd_struct2 Tryz.underlying69 (by kernel_rfl) ⟨rfl, by kernel_rfl⟩ ⟨rfl, by kernel_rfl⟩ h
  obtain ⟨a, rfl⟩ := rd_int Tryz.underlying3 h0
  obtain ⟨xs, hd⟩ := rd_sl1 rdI64 Tryz.underlying22 h1
  exact ⟨⟨a, xs⟩, rfl, hd, trivial⟩⟩
section
variable {H : Type} {enc : TypeId × Value → H} {W : World} {base : Nat} {held : Bool} {v : Value} {d : DataW H} {p : List MemPlace}
set_option maxRecDepth 100000 in
theorem rd_flr (hv : Value.okWide Tryz.prog W .any base 27 v) (h : DataW.Trod enc Tryz.prog W 0 (fun _ => true) held 27 v d p) : ∃ f, (flrT f).den W pubs v := by
  obtain ⟨c0, c1, c2, c3, y0, y1, y2, y3, n, rfl, _, _, h0, h1, h2, h3⟩ := Go.Joins.open_agg4 Tryz.underlying27 (by kernel_rfl) (by kernel_rfl) hv h
  obtain ⟨bs, e0⟩ := rd_sl1 rdI64 Tryz.underlying22 h0
  obtain ⟨bi, e1⟩ := rd_sl1 rdBin Tryz.underlying23 h1
  obtain ⟨ts, e2⟩ := rd_sl1 rdTrn Tryz.underlying24 h2
  obtain ⟨rs, e3⟩ := rd_sl1 rdRul Tryz.underlying25 h3
  exact ⟨⟨bs, bi, ts, rs⟩, _, rfl, e0, e1, e2, e3, trivial⟩
set_option maxRecDepth 100000 in
theorem rd_i64 (hv : Value.okWide Tryz.prog W .any base 3 v) (h : DataW.Trod enc Tryz.prog W 0 (fun _ => true) held 3 v d p) : ∃ n, (Ty.int .i64 n).den W pubs v := by
  obtain ⟨n, rfl, _⟩ := open_int Tryz.underlying3 hv h
  exact ⟨n, rfl⟩
end
end Go.Proofs.YtifgbnbkimcchaaGreat

namespace Go.Proofs.YtifgbnbkimcchaaGreat
open Go Go.T Go.RowKit Go.ChangeShapes Go.WideShapes Go.ChangeAt
section
variable {H : Type} {enc : TypeId × Value → H} {W : World} {base : Nat} {held : Bool} {v : Value} {d : DataW H} {p : List MemPlace}
end
end Go.Proofs.YtifgbnbkimcchaaGreat
