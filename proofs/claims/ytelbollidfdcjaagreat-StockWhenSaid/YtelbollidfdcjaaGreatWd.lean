/- Lemmas: the program and the reference walked, plain laws. -/
import Derived.Test.YtelbollidfdcjaaGreatWc
namespace Go.Proofs.YtelbollidfdcjaaGreat
open Go Go.T
set_option maxHeartbeats 16000000
structure Rough (y : Yard) (fl : List Flow) (a : List Int) : Prop where
  right : y.Right
  net : Net fl (y.cells + 1)
  bd : Bd fl
  inb : wrongB fl = true → Inb fl a
  few : fl.length ≤ 34
section
variable {y : Yard} {fl : List Flow} {a : List Int} {n : Nat}
theorem wrong_a (h : (!fl.all fun f => decide (f.lo ≤ f.hi)) = true) : wrongB fl = false := not_b h
theorem wrong_b (h : (!fl.all fun f => decide (f.lo ≤ f.hi)) = false) : wrongB fl = true := not_not_b h
theorem stk1 (h : wrongB fl = false) : 0 = (stuckM fl n a).1 ∧ true = (stuckM fl n a).2.1 ∧ a = (stuckM fl n a).2.2 := by rw [stuckM_no h]; exact ⟨rfl, rfl, rfl⟩
theorem stk2 {b : List Int} (h : wrongB fl = true) (hx : SIx fl n a b) (e : hasM fl b n < 0) : 0 = (stuckM fl n a).1 ∧ false = (stuckM fl n a).2.1 ∧ b = (stuckM fl n a).2.2 := by rw [stuckM_yes h, hx.done e]; exact ⟨rfl, rfl, rfl⟩
theorem stk3 {b : List Int} (h : wrongB fl = true) (hx : SIx fl n a b) (e : ¬ hasM fl b n < 0) (e2 : lackM fl b n (reachM fl b (hasM fl b n)) < 0) : hasM fl b n = (stuckM fl n a).1 ∧ true = (stuckM fl n a).2.1 ∧ b = (stuckM fl n a).2.2 := by rw [stuckM_yes h, hx.stuck e e2]; exact ⟨rfl, rfl, rfl⟩
theorem six0 (h : Inb fl a) : SIx fl n a a := ⟨h, rfl⟩
theorem min_pos {x z : Int} (h1 : 0 < x) (h2 : z < 0) : 0 < min x (-z) := by omega
theorem has_eq : fidx (fun v : Int => decide (v > 0)) (overL fl a n) = hasM fl a n := rfl
theorem least1 (m x : Int) : leastL m [x] = min m x := rfl
theorem least_snoc {m : Int} {l : List Way} {w : Way} : leastL (mostL fl a m l) [w.room fl a] = mostL fl a m (l ++ [w]) := (least1 _ _).trans (mostL_snoc m l).symm
theorem over_at {k : Int} (h : 0 ≤ k ∧ k < n) : nth (overL fl a n) k.toNat = over fl a k := by rw [overL_nth (by omega)]; congr 1; omega
theorem wrap_neg {x : Int} (h : -20000 ≤ x ∧ x ≤ 20000) : IntKind.i64.wrap (0 - x) = -x := by rw [show (0 : Int) - x = -x by omega]; exact IntWalk.i64_in _ (by omega)
end
attribute [local irreducible] flowsY loL Way.beg Way.fin Way.room waysQ sendM overUp overL over waysL reachM hasM lackM lackB mostL pathM sendS stuckM settleM leastL
attribute [local irreducible] dInt dBool dSl dPp dPtr dAgg dTup dClo dAny dEx dStr dGd dCells dVec dVs dRow dOp nth Tri Into TOps Ctr bodyPost Exit.then Exit.inBlock Code.wp Code.wpIn dWhen dPa dPe dAo dArr dMp dPm dMap dCJ CtrG CtrI OpY keepPost iterPost bodyPostM roundQ
set_option maxRecDepth 100000 in
theorem c_stuck1 (f : Flow) : Ctr Tryz.prog 177 [Ty.agg (FlowE.tys f)] (Ty.bool (decide (f.lo ≤ f.hi))) := by
  refine fn_intro Tryz.func177 rfl (by decide) Tryz.ntmps177 (by exact Nat.le_of_ble_eq_true rfl) fun w0 M0 => ?_
  refine t_seq ?_
  refine t_region ?_
  refine r_box_agg rfl ?_
  refine asB rfl ?_
  refine r_nil ?_
  refine i_then ?_
  refine t_seq ?_
  refine t_region ?_
  refine r_field_pp rfl rfl rfl rfl rfl (by decide) ?_
  refine r_load_pp rfl rfl rfl rfl ?_
  refine r_field_pp rfl rfl rfl rfl rfl (by decide) ?_
  refine r_load_pp rfl rfl rfl rfl ?_
  refine r_bin rfl rfl rfl ?_
  refine asB rfl ?_
  refine r_nil ?_
  refine i_then ?_
  refine t_ret ?_
  refine i_rp1 rfl rfl ?_
  all_goals exact ret_refl rfl rfl
set_option maxRecDepth 100000 in
theorem c_stuck2 (v : Int) : Ctr Tryz.prog 179 [Ty.int .i64 v] (Ty.bool (decide (v > 0))) := by
  refine fn_intro Tryz.func179 rfl (by decide) Tryz.ntmps179 (by exact Nat.le_of_ble_eq_true rfl) fun w0 M0 => ?_
  refine t_seq ?_
  refine t_region ?_
  refine asB rfl ?_
  refine r_nil ?_
  refine i_then ?_
  refine t_seq ?_
  refine t_region ?_
  refine mvI rfl ?_
  refine r_bin rfl rfl rfl ?_
  refine asB rfl ?_
  refine r_nil ?_
  refine i_then ?_
  refine t_ret ?_
  refine i_rp1 rfl rfl ?_
  all_goals exact ret_refl rfl rfl
set_option maxRecDepth 100000 in
theorem k_stuck (y : Yard) (fl : List Flow) (a : List Int) (h : Rough y fl a) : CtrG Tryz.prog 129 [1000] [(1000, Cont.vec I64 3 a)] [Ty.pp (deskS y fl 1000 fl.length)] [(1000, Cont.vec I64 3 (stuckM fl (y.cells + 1) a).2.2)] (Ty.tup [Ty.int .i64 (stuckM fl (y.cells + 1) a).1, Ty.bool (stuckM fl (y.cells + 1) a).2.1]) := by
  refine fnG_intro Tryz.func129 rfl (by decide) Tryz.ntmps129 (by exact Nat.le_of_ble_eq_true rfl) fun w0 M0 => ?_
  have hcl := cells_le h.right
  have hfl := h.few
  have hN := h.net
  refine t_seq ?_
  refine t_region ?_
  refine asI rfl ?_
  refine asB rfl ?_
  refine r_nil ?_
  refine i_then ?_
  refine t_seq ?_
  refine t_seq ?_
  refine t_region ?_
  refine mvP rfl ?_
  refine r_nilCheck_pp rfl ?_
  refine r_field_pp rfl rfl rfl rfl rfl (by decide) ?_
  refine r_load_pp rfl rfl rfl rfl ?_
  refine r_call (c_every_flo fl (Ty.clo _ []) rfl (fun f => decide (f.lo ≤ f.hi)) rfl rfl fun f _ => cal_clo (c_stuck1 f) rfl rfl rfl rfl rfl rfl) rfl rfl rfl rfl rfl ?_
  refine r_not rfl ?_
  refine r_nil ?_
  refine i_then ?_
  refine t_cond rfl (fun hc1 => ?_) (fun hc1 => ?_)
  ·
    refine t_seq ?_
    refine t_region ?_
    refine asI rfl ?_
    refine asB rfl ?_
    refine r_nil ?_
    refine i_then ?_
    refine t_ret ?_
    refine i_then_ret ?_
    refine g_ret2 [1000] rfl rfl rfl (by decide) ?_ ?_ ?_
    · exact rc_cons rfl (cc_vec (by decide) (stk1 (wrong_a hc1)).2.2) rc_nil
    all_goals skip
    all_goals first | exact rg_cv (cv_eq rfl rfl (congrArg (Ty.int .i64) (stk1 (wrong_a hc1)).1)) | exact rg_cv (cv_eq rfl rfl (congrArg Ty.bool (stk1 (wrong_a hc1)).2.1))
  ·
    refine t_skip ?_
    refine i_then ?_
    refine t_block ?_
    refine t_loop (fun (x : {b : List Int // SIx fl (y.cells + 1) a b}) => live [(0, Ty.pp (deskS y fl 1000 fl.length))] [(1000, Cont.vec I64 3 x.1)]) (fun x => muS fl (y.cells + 1) x.1) (⟨a, six0 (h.inb (wrong_b hc1))⟩) ?_ fun x => ?_
    · (refine Ent.mk' ?_ ?_ <;> (repeat' (first | exact allSub_zero | exact allTags_nil | refine allSub_succ' ?_ (Ty.sub_any _) | refine allSub_succ' ?_ (Ty.sub_refl _) | refine allTags_cons rfl (Cont.sub_refl _) ?_)))
    ·
      have hF : Fine y fl x.1 := ⟨h.right, h.net, h.bd, x.2.inb, h.few⟩
      have hal := hF.inb.1
      have hov := over_abs h.few fun i hi => (hF.amt hi).1
      have hol : (overL fl x.1 (y.cells + 1)).length = (y.cells + 1) := overL_len
      refine t_block ?_
      refine t_seq ?_
      refine t_region ?_
      refine mvP rfl ?_
      refine r_callG [(1000, 1000)] [] [(1000, Cont.vec I64 3 x.1)] (k_over y fl x.1 hF) rfl rfl (cv_cons cv_nil (cv_pp (cv_cons (cv_cons (cv_cons (cv_cons (cv_cons (cv_cons cv_nil (cv_vs (by exact List.mem_cons_self))) (cv_pub rfl rfl)) (cv_pub rfl rfl)) (cv_pub rfl rfl)) (cv_pub rfl rfl)) (cv_pub rfl rfl)))) (pre_cons (a := 1000) (b := 1000) (by exact List.mem_cons_self) rfl (cc_vec (by exact List.mem_cons_self) rfl) pre_nil) (post_cons (a := 1000) (b := 1000) (by decide) rfl (cc_vec (by decide) rfl) post_nil) (cv_pub rfl rfl) ?_
      refine asS rfl ?_
      refine r_nil ?_
      refine i_then ?_
      refine t_seq ?_
      refine t_region ?_
      refine mvS rfl ?_
      refine r_call (c_IndexFunc_int (overL fl x.1 (y.cells + 1)) (Ty.clo _ []) rfl (fun v => decide (v > 0)) rfl rfl fun v _ => cal_clo (c_stuck2 v) rfl rfl rfl rfl rfl rfl) rfl rfl rfl rfl rfl ?_
      refine asI rfl ?_
      refine r_nil ?_
      refine i_then ?_
      refine t_seq ?_
      refine t_seq ?_
      refine t_as (s := 5) rfl (Ty.sub_int (has_eq (fl := fl) (a := x.1) (n := (y.cells + 1)))) ?_
      refine t_region ?_
      refine mvI rfl ?_
      refine r_bin rfl rfl rfl ?_
      refine r_nil ?_
      refine i_then ?_
      refine t_cond_dec rfl (fun hc2 => ?_) (fun hc2 => ?_)
      ·
        refine t_seq ?_
        refine t_region ?_
        refine asI rfl ?_
        refine asB rfl ?_
        refine r_nil ?_
        refine i_then ?_
        refine t_ret ?_
        refine i_then_ret ?_
        refine i_block_ret ?_
        refine i_then_ret ?_
        refine i_block_ret ?_
        refine g_ret2 [1000] rfl rfl rfl (by decide) ?_ ?_ ?_
        · exact rc_cons rfl (cc_vec (by decide) (stk2 (wrong_b hc1) x.2 hc2).2.2) rc_nil
        all_goals skip
        all_goals first | exact rg_cv (cv_eq rfl rfl (congrArg (Ty.int .i64) (stk2 (wrong_b hc1) x.2 hc2).1)) | exact rg_cv (cv_eq rfl rfl (congrArg Ty.bool (stk2 (wrong_b hc1) x.2 hc2).2.1))
      ·
        refine t_skip ?_
        refine i_then ?_
        refine t_seq ?_
        obtain ⟨s, s1, s2, s3⟩ := has_some hc2
        have hs : 0 ≤ (hasM fl x.1 (y.cells + 1)) ∧ (hasM fl x.1 (y.cells + 1)) < ((y.cells + 1) : Nat) := by omega
        refine t_region ?_
        refine mvP rfl ?_
        refine mvI rfl ?_
        refine r_callG (res' := Ty.mp 32) [(1000, 1000), (32, 16)] [32] [(1000, Cont.vec I64 3 x.1), (32, Cont.mp KI.enc WayV (reachM fl x.1 (hasM fl x.1 (y.cells + 1))))] (k_reach y fl x.1 hF (hasM fl x.1 (y.cells + 1)) hs) rfl rfl (cv_cons (cv_cons cv_nil (cv_pub rfl rfl)) (cv_pp (cv_cons (cv_cons (cv_cons (cv_cons (cv_cons (cv_cons cv_nil (cv_vs (by exact List.mem_cons_self))) (cv_pub rfl rfl)) (cv_pub rfl rfl)) (cv_pub rfl rfl)) (cv_pub rfl rfl)) (cv_pub rfl rfl)))) (pre_cons (a := 1000) (b := 1000) (by exact List.mem_cons_self) rfl (cc_vec (by exact List.mem_cons_self) rfl) pre_nil) (post_cons (a := 1000) (b := 1000) (by decide) rfl (cc_vec (by decide) rfl) (post_cons (a := 32) (b := 16) (by decide) rfl (cc_mp (by decide) rfl) post_nil)) (cv_mp (by decide)) ?_
        refine asM rfl ?_
        refine r_nil ?_
        refine i_then ?_
        refine t_seq ?_
        refine t_region ?_
        refine asI rfl ?_
        refine r_nil ?_
        refine i_then ?_
        refine t_join (J := live [(0, Ty.pp (deskS y fl 1000 fl.length)), (4, Ty.sl I64 (overL fl x.1 (y.cells + 1))), (5, Ty.int .i64 (hasM fl x.1 (y.cells + 1))), (6, Ty.mp 32), (7, Ty.int .i64 (lackM fl x.1 (y.cells + 1) (reachM fl x.1 (hasM fl x.1 (y.cells + 1)))))] [(1000, Cont.vec I64 3 x.1), (32, Cont.mp KI.enc WayV (reachM fl x.1 (hasM fl x.1 (y.cells + 1))))]) ?_ ?_
        ·
          refine t_seq ?_
          refine t_region ?_
          refine mvS rfl ?_
          refine r_len rfl rfl rfl ?_
          refine mvI rfl ?_
          refine r_nil ?_
          refine i_then ?_
          refine t_block ?_
          refine t_loop (fun (j : {j : Nat // j ≤ (y.cells + 1) ∧ ∀ i, i < j → lackB fl x.1 (reachM fl x.1 (hasM fl x.1 (y.cells + 1))) i = false}) => live [(0, Ty.pp (deskS y fl 1000 fl.length)), (4, Ty.sl I64 (overL fl x.1 (y.cells + 1))), (5, Ty.int .i64 (hasM fl x.1 (y.cells + 1))), (6, Ty.mp 32), (7, Ty.int .i64 (-1)), (32, Ty.sl I64 (overL fl x.1 (y.cells + 1))), (33, Ty.int .i64 (overL fl x.1 (y.cells + 1)).length), (34, Ty.int .i64 (j.1 : Nat))] [(1000, Cont.vec I64 3 x.1), (32, Cont.mp KI.enc WayV (reachM fl x.1 (hasM fl x.1 (y.cells + 1))))]) (fun j => (y.cells + 1) - j.1) (⟨0, Nat.zero_le _, fun i hi => absurd hi (Nat.not_lt_zero i)⟩) ?_ fun j => ?_
          · (refine Ent.mk' ?_ ?_ <;> (repeat' (first | exact allSub_zero | exact allTags_nil | refine allSub_succ' ?_ (Ty.sub_any _) | refine allSub_succ' ?_ (Ty.sub_refl _) | refine allTags_cons rfl (Cont.sub_refl _) ?_)))
          ·
            have hj := j.2.1
            refine t_seq ?_
            refine t_region ?_
            refine r_bin rfl rfl rfl ?_
            refine r_nil ?_
            refine i_then ?_
            refine t_seq ?_
            refine t_cond_dec rfl (fun hc3 => ?_) (fun hc3 => ?_)
            ·
              refine t_skip ?_
              refine i_then ?_
              refine t_seq ?_
              refine t_block ?_
              refine t_seq ?_
              refine t_region ?_
              refine mvI rfl ?_
              refine r_index_slN rfl rfl rfl rfl rfl rfl (by omega) ?_
              refine r_load_pp rfl rfl rfl rfl ?_
              refine asI rfl ?_
              refine asI rfl ?_
              refine r_nil ?_
              refine i_then ?_
              refine t_seq ?_
              refine t_region ?_
              refine mvM rfl ?_
              refine mvI rfl ?_
              refine r_lookup2 KI (k := ((j.1 : Nat) : Int)) (z0 := (default : Way)) rfl rfl (by decide) rfl (keyI _) mapT196 zero199 way_zero ?_
              refine mvT rfl ?_
              refine r_extract rfl rfl ?_
              refine r_extract rfl rfl ?_
              refine r_alloc rfl (by exact List.cons_ne_nil _ _) rfl ?_
              refine r_storeN rfl rfl (by decide) rfl rfl rfl rfl rfl rfl ?_
              refine asB rfl ?_
              refine r_nil ?_
              refine i_then ?_
              refine t_seq ?_
              refine t_region ?_
              refine mvB rfl ?_
              refine mvB rfl ?_
              apply r_guard (s := 46) rfl rfl rfl
              · intro hg; apply opT_of; (refine mvI rfl ?_); refine r_nil ?_; exact rfl
              · exact rfl
              · exact rfl
              apply r_guard (s := 46) rfl rfl rfl
              · intro hg; apply opT_strip (s := 47) rfl (by (rw [hg]; rfl)); apply opT_of; (refine r_bin rfl rfl rfl ?_); refine r_nil ?_; exact rfl
              · exact rfl
              · exact rfl
              refine r_and rfl rfl ?_
              refine r_nil ?_
              refine i_then ?_
              refine t_cond rfl (fun hc4 => ?_) (fun hc4 => ?_)
              ·
                refine t_seq ?_
                refine t_region ?_
                refine mvI rfl ?_
                refine asI rfl ?_
                refine r_nil ?_
                refine i_then ?_
                refine t_exit ?_
                refine i_block_exit' rfl ?_
                refine i_then_exit ?_
                refine i_then_exit ?_
                refine i_block_exit rfl ?_
                refine i_join ?_
                (refine Ent.mk' ?_ ?_ <;> (repeat' (first | exact allSub_zero | exact allTags_nil | refine allSub_succ' ?_ (Ty.sub_any _) | refine allSub_succ' ?_ (Ty.sub_refl _) | refine allTags_cons rfl (Cont.sub_refl _) ?_ | refine allSub_succ' ?_ ?_)))
                all_goals exact Ty.sub_int (lack_at (by omega) j.2.2 (by rw [← lackB_eq (n := (y.cells + 1)) (by omega)]; exact hc4))
              ·
                refine t_skip ?_
                refine i_block ?_
                refine i_then ?_
                refine t_region ?_
                refine r_add rfl rfl (by omega) (by omega) ?_
                refine mvI rfl ?_
                refine r_nil ?_
                refine i_round (⟨j.1 + 1, by omega, fun i hi => by by_cases e : i = j.1; (subst e; rw [← lackB_eq (n := (y.cells + 1)) (by omega)]; exact hc4); exact j.2.2 i (by omega)⟩) ?_ (by show (y.cells + 1) - (j.1 + 1) < (y.cells + 1) - j.1; omega)
                (refine Ent.mk' ?_ ?_ <;> (repeat' (first | exact allSub_zero | exact allTags_nil | refine allSub_succ' ?_ (Ty.sub_any _) | refine allSub_succ' ?_ (Ty.sub_refl _) | refine allTags_cons rfl (Cont.sub_refl _) ?_)))
                all_goals skip
            ·
              refine t_exit ?_
              refine i_then_exit ?_
              refine i_then_exit ?_
              refine i_block_exit rfl ?_
              refine i_join ?_
              (refine Ent.mk' ?_ ?_ <;> (repeat' (first | exact allSub_zero | exact allTags_nil | refine allSub_succ' ?_ (Ty.sub_any _) | refine allSub_succ' ?_ (Ty.sub_refl _) | refine allTags_cons rfl (Cont.sub_refl _) ?_ | refine allSub_succ' ?_ ?_)))
              all_goals exact Ty.sub_int (lack_end (by omega) j.2.2)
        ·
          refine t_seq ?_
          refine t_seq ?_
          refine t_region ?_
          refine mvI rfl ?_
          refine r_bin rfl rfl rfl ?_
          refine r_nil ?_
          refine i_then ?_
          refine t_cond_dec rfl (fun hc5 => ?_) (fun hc5 => ?_)
          ·
            refine t_seq ?_
            refine t_region ?_
            refine mvI rfl ?_
            refine asI rfl ?_
            refine asB rfl ?_
            refine r_nil ?_
            refine i_then ?_
            refine t_ret ?_
            refine i_then_ret ?_
            refine i_block_ret ?_
            refine i_then_ret ?_
            refine i_block_ret ?_
            refine g_ret2 [1000] rfl rfl rfl (by decide) ?_ ?_ ?_
            · exact rc_cons rfl (cc_vec (by decide) (stk3 (wrong_b hc1) x.2 hc2 hc5).2.2) rc_nil
            all_goals skip
            all_goals first | exact rg_cv (cv_eq rfl rfl (congrArg (Ty.int .i64) (stk3 (wrong_b hc1) x.2 hc2 hc5).1)) | exact rg_cv (cv_eq rfl rfl (congrArg Ty.bool (stk3 (wrong_b hc1) x.2 hc2 hc5).2.1))
          ·
            refine t_skip ?_
            refine i_then ?_
            refine t_seq ?_
            obtain ⟨t, t1, t2, t3, t4⟩ := lack_some hc5
            have hnx := x.2.next hN hc2 hc5
            have hR := reach_spec (a := x.1) hN hs
            obtain ⟨dep, d0, hd⟩ := hR.arc
            have hmet : Met (reachM fl x.1 (hasM fl x.1 (y.cells + 1))) (hasM fl x.1 (y.cells + 1)) (lackM fl x.1 (y.cells + 1) (reachM fl x.1 (hasM fl x.1 (y.cells + 1)))) := by rw [t2]; obtain ⟨v, hv⟩ := Option.isSome_iff_exists.1 t3; exact .inr (mget_some_mem hv)
            have ht : 0 ≤ (lackM fl x.1 (y.cells + 1) (reachM fl x.1 (hasM fl x.1 (y.cells + 1)))) ∧ (lackM fl x.1 (y.cells + 1) (reachM fl x.1 (hasM fl x.1 (y.cells + 1)))) < ((y.cells + 1) : Nat) := by omega
            have ho1 := hov (hasM fl x.1 (y.cells + 1))
            have ho2 := hov (lackM fl x.1 (y.cells + 1) (reachM fl x.1 (hasM fl x.1 (y.cells + 1))))
            have hdq : dep (lackM fl x.1 (y.cells + 1) (reachM fl x.1 (hasM fl x.1 (y.cells + 1)))) ≤ 21 := by
              obtain ⟨v, hv⟩ := Option.isSome_iff_exists.1 t3
              have h1 := (hd _ _ hv).2.2.2.2
              have h2 := hR.few
              rw [t2]; omega
            refine t_region ?_
            refine asX rfl ?_
            refine r_nil ?_
            refine i_then ?_
            refine t_seq ?_
            have hoa := over_at (fl := fl) (a := x.1) (n := (y.cells + 1)) hs
            have hob := over_at (fl := fl) (a := x.1) (n := (y.cells + 1)) ht
            refine t_draw mixed rfl ?_
            refine mvS rfl ?_
            refine mvI rfl ?_
            refine r_index_sl rfl rfl rfl rfl rfl rfl (by omega) (by omega) ?_
            refine r_load_pp rfl rfl rfl rfl ?_
            refine mvS rfl ?_
            refine mvI rfl ?_
            refine r_index_sl rfl rfl rfl rfl rfl rfl (by omega) (by omega) ?_
            refine r_load_pp rfl rfl rfl rfl ?_
            refine r_neg rfl ?_
            refine r_buildSlice (E := I64) (xs := [_]) rfl rfl rfl rfl rfl (by decide) (by decide) (by repeat (first | exact (Parts.nil : Parts _ _ [] _) | (show Parts _ _ ((_, _) :: _) _; apply Parts.one; (· exact (rfl : _ = Ty.int _ _)); (· exact rfl)))) (by exact rfl) rfl ?_
            refine r_call (c_least _ _) rfl rfl rfl rfl rfl ?_
            refine asI rfl ?_
            refine r_nil ?_
            refine ⟨by kernel_rfl, ?_⟩
            refine i_then ?_
            refine t_seq ?_
            refine t_seq ?_
            refine t_as (s := 13) rfl (Ty.sub_int (by rw [hoa, hob, wrap_neg (by omega), least1] : _ = (min (over fl x.1 (hasM fl x.1 (y.cells + 1))) (-over fl x.1 (lackM fl x.1 (y.cells + 1) (reachM fl x.1 (hasM fl x.1 (y.cells + 1)))))))) ?_
            refine t_region ?_
            refine mvI rfl ?_
            refine asI rfl ?_
            refine r_nil ?_
            refine i_then ?_
            refine t_block ?_
            refine t_loop (fun (p : {p : Int × List Way // PIx fl x.1 (reachM fl x.1 (hasM fl x.1 (y.cells + 1))) (hasM fl x.1 (y.cells + 1)) (lackM fl x.1 (y.cells + 1) (reachM fl x.1 (hasM fl x.1 (y.cells + 1)))) dep p}) => live [(0, Ty.pp (deskS y fl 1000 fl.length)), (5, Ty.int .i64 (hasM fl x.1 (y.cells + 1))), (6, Ty.mp 32), (12, Ty.row WayE 199 81 p.1.2), (13, Ty.int .i64 (mostL fl x.1 (min (over fl x.1 (hasM fl x.1 (y.cells + 1))) (-over fl x.1 (lackM fl x.1 (y.cells + 1) (reachM fl x.1 (hasM fl x.1 (y.cells + 1)))))) p.1.2)), (14, Ty.int .i64 p.1.1)] [(1000, Cont.vec I64 3 x.1), (32, Cont.mp KI.enc WayV (reachM fl x.1 (hasM fl x.1 (y.cells + 1))))]) (fun p => dep p.1.1) (⟨((lackM fl x.1 (y.cells + 1) (reachM fl x.1 (hasM fl x.1 (y.cells + 1)))), []), pix0 hmet⟩) ?_ fun p => ?_
            · (refine Ent.mk' ?_ ?_ <;> (repeat' (first | exact allSub_zero | exact allTags_nil | refine allSub_succ' ?_ (Ty.sub_any _) | refine allSub_succ' ?_ (Ty.sub_refl _) | refine allSub_succ' ?_ Ty.nil_row | refine allTags_cons rfl (Cont.sub_refl _) ?_ | refine allSub_succ' ?_ ?_)))
              all_goals exact Ty.sub_int (mostL_zero _ _ _)
            ·
              have hpf := p.2.few
              refine t_seq ?_
              refine t_seq ?_
              refine t_region ?_
              refine mvI rfl ?_
              refine mvI rfl ?_
              refine r_bin rfl rfl rfl ?_
              refine r_nil ?_
              refine i_then ?_
              refine t_cond_ndec rfl (fun hc6 => ?_) (fun hc6 => ?_)
              ·
                refine t_skip ?_
                refine i_then ?_
                refine t_seq ?_
                refine t_block ?_
                refine t_seq ?_
                have hpx := p.2.next hd hc6
                have hpo := hpx.2.2
                refine t_region ?_
                refine mvR rfl ?_
                refine mvM rfl ?_
                refine mvI rfl ?_
                refine r_lookup KI (k := p.1.1) (z0 := (default : Way)) rfl rfl (by decide) rfl (keyI _) mapT196 zero199 way_zero ?_
                refine r_buildSlice (E := WayE) (xs := [wayTo (reachM fl x.1 (hasM fl x.1 (y.cells + 1))) p.1.1]) rfl rfl rfl rfl rfl (by decide) (by decide) (by repeat (first | exact (Parts.nil : Parts _ _ [] _) | (show Parts _ _ ((_, _) :: _) _; apply Parts.agg; (· exact (rfl : _ = Ty.agg _))))) (by exact rfl) rfl ?_
                refine r_append rfl rfl (by decide) rfl rfl rfl rfl rfl rfl (by decide) (by (simp <;> omega)) (by (simp <;> omega)) ?_
                refine asR rfl ?_
                refine r_nil ?_
                refine i_then ?_
                refine t_seq ?_
                refine t_region ?_
                refine mvP rfl ?_
                refine mvM rfl ?_
                refine mvI rfl ?_
                refine r_lookup KI (k := p.1.1) (z0 := (default : Way)) rfl rfl (by decide) rfl (keyI _) mapT196 zero199 way_zero ?_
                refine r_callLC [1000] (c_end y fl x.1 hF (wayTo (reachM fl x.1 (hasM fl x.1 (y.cells + 1))) p.1.1) hpo.1) rfl (lendcs_cons (lendc_pp (lendcs_cons (lendc_of (lend_pub rfl rfl)) (lendcs_cons (lendc_of (lend_pub rfl rfl)) (lendcs_cons (lendc_of (lend_pub rfl rfl)) (lendcs_cons (lendc_of (lend_pub rfl rfl)) (lendcs_cons (lendc_of (lend_pub rfl rfl)) (lendcs_cons (lendc_vs rfl hal (by decide) rfl) lendcs_nil))))))) (lendcs_cons (lendc_of (lend_pub rfl rfl)) lendcs_nil)) (by exact plain_tup (by repeat (first | exact plain_nil | refine plain_cons (by exact plain_int _ _) ?_))) ?_
                refine mvT rfl ?_
                refine r_extract rfl rfl ?_
                refine r_extract rfl rfl ?_
                refine asI rfl ?_
                refine asI rfl ?_
                refine r_nil ?_
                refine i_then ?_
                refine t_region ?_
                refine mvI rfl ?_
                refine mvI rfl ?_
                refine r_buildSlice (E := I64) (xs := [_]) rfl rfl rfl rfl rfl (by decide) (by decide) (by repeat (first | exact (Parts.nil : Parts _ _ [] _) | (show Parts _ _ ((_, _) :: _) _; apply Parts.one; (· exact (rfl : _ = Ty.int _ _)); (· exact rfl)))) (by exact rfl) rfl ?_
                refine r_call (c_least _ _) rfl rfl rfl rfl rfl ?_
                refine asI rfl ?_
                refine r_nil ?_
                refine i_block ?_
                refine i_then ?_
                refine t_region ?_
                refine mvP rfl ?_
                refine mvM rfl ?_
                refine mvI rfl ?_
                refine r_lookup KI (k := p.1.1) (z0 := (default : Way)) rfl rfl (by decide) rfl (keyI _) mapT196 zero199 way_zero ?_
                refine r_callLC [1000] (c_begin y fl x.1 (wayTo (reachM fl x.1 (hasM fl x.1 (y.cells + 1))) p.1.1) hpo.1) rfl (lendcs_cons (lendc_pp (lendcs_cons (lendc_of (lend_pub rfl rfl)) (lendcs_cons (lendc_of (lend_pub rfl rfl)) (lendcs_cons (lendc_of (lend_pub rfl rfl)) (lendcs_cons (lendc_of (lend_pub rfl rfl)) (lendcs_cons (lendc_of (lend_pub rfl rfl)) (lendcs_cons (lendc_vs rfl hal (by decide) rfl) lendcs_nil))))))) (lendcs_cons (lendc_of (lend_pub rfl rfl)) lendcs_nil)) (by exact plain_int _ _) ?_
                refine asI rfl ?_
                refine r_nil ?_
                refine i_round (⟨((wayTo (reachM fl x.1 (hasM fl x.1 (y.cells + 1))) p.1.1).beg fl, p.1.2 ++ [wayTo (reachM fl x.1 (hasM fl x.1 (y.cells + 1))) p.1.1]), (p.2.next hd hc6).1⟩) ?_ (by exact (p.2.next hd hc6).2.1)
                (refine Ent.mk' ?_ ?_ <;> (repeat' (first | exact allSub_zero | exact allTags_nil | refine allSub_succ' ?_ (Ty.sub_any _) | refine allSub_succ' ?_ (Ty.sub_refl _) | refine allTags_cons rfl (Cont.sub_refl _) ?_ | refine allSub_succ' ?_ ?_)))
                all_goals skip
                all_goals exact Ty.sub_int least_snoc
              ·
                refine t_exit ?_
                refine i_then_exit ?_
                refine i_then_exit ?_
                refine i_block_exit rfl ?_
                refine i_then ?_
                have hmp := mostL_pos (fl := fl) (a := x.1) (m := (min (over fl x.1 (hasM fl x.1 (y.cells + 1))) (-over fl x.1 (lackM fl x.1 (y.cells + 1) (reachM fl x.1 (hasM fl x.1 (y.cells + 1))))))) (min_pos (by rw [s2]; exact s3) (by rw [t2]; exact t4)) p.1.2 p.2.inv.ways
                have hml := (mostL_le (fl := fl) (a := x.1) (min (over fl x.1 (hasM fl x.1 (y.cells + 1))) (-over fl x.1 (lackM fl x.1 (y.cells + 1) (reachM fl x.1 (hasM fl x.1 (y.cells + 1)))))) p.1.2).1
                refine t_pub (tg := 81) [(12, Ty.sl WayE p.1.2)] (by decide) rfl ⟨pub_row rfl, trivial⟩ ?_
                refine t_region ?_
                refine mvP rfl ?_
                refine mvS rfl ?_
                refine mvI rfl ?_
                refine r_callG [(1000, 1000)] [] [(1000, Cont.vec I64 3 (sendM x.1 p.1.2 (mostL fl x.1 (min (over fl x.1 (hasM fl x.1 (y.cells + 1))) (-over fl x.1 (lackM fl x.1 (y.cells + 1) (reachM fl x.1 (hasM fl x.1 (y.cells + 1)))))) p.1.2)))] (k_send y fl x.1 hF p.1.2 (by omega) (fun w hw => (p.2.inv.ways w hw).1) (mostL fl x.1 (min (over fl x.1 (hasM fl x.1 (y.cells + 1))) (-over fl x.1 (lackM fl x.1 (y.cells + 1) (reachM fl x.1 (hasM fl x.1 (y.cells + 1)))))) p.1.2) (by omega)) rfl rfl (cv_cons (cv_cons (cv_cons cv_nil (cv_pub rfl rfl)) (cv_pub rfl rfl)) (cv_pp (cv_cons (cv_cons (cv_cons (cv_cons (cv_cons (cv_cons cv_nil (cv_vs (by exact List.mem_cons_self))) (cv_pub rfl rfl)) (cv_pub rfl rfl)) (cv_pub rfl rfl)) (cv_pub rfl rfl)) (cv_pub rfl rfl)))) (pre_cons (a := 1000) (b := 1000) (by exact List.mem_cons_self) rfl (cc_vec (by exact List.mem_cons_self) rfl) pre_nil) (post_cons (a := 1000) (b := 1000) (by decide) rfl (cc_vec (by decide) rfl) post_nil) (cv_pub rfl rfl) ?_
                refine r_nil ?_
                refine i_block ?_
                refine i_round (⟨sendS fl x.1 (hasM fl x.1 (y.cells + 1)) (lackM fl x.1 (y.cells + 1) (reachM fl x.1 (hasM fl x.1 (y.cells + 1)))), hnx.1⟩) ?_ (by exact hnx.2.less)
                (refine Ent.mk' ?_ ?_ <;> (repeat' (first | exact allSub_zero | exact allTags_nil | refine allSub_succ' ?_ (Ty.sub_any _) | refine allSub_succ' ?_ (Ty.sub_refl _) | refine allTags_cons rfl ?_ ?_)))
                all_goals skip
                all_goals exact Cont.sub_vec (sendS_eq (p.2.end hc6))
end Go.Proofs.YtelbollidfdcjaaGreat

namespace Go.Proofs.YtelbollidfdcjaaGreat
open Go Go.T
section
variable {fl : List Flow} {a : List Int} {n : Nat} {G : Nat → Int} {x : FPl}
structure FIx (fl : List Flow) (a : List Int) (n : Nat) (G : Nat → Int) (x : FPl) : Prop where
  inv : FInv fl a n G x
  same : outI (stepF fl a n G) x = roundM fl a n G
theorem fix0 (hn : 0 < n) : FIx fl a n G ⟨0, 0, 0, st0 n⟩ := ⟨finv0 hn, rfl⟩
theorem FIx.r (h : FIx fl a n G x) : ¬ n ≤ x.r := by have := h.inv.r; omega
theorem FIx.round (h : FIx fl a n G x) (hc : n ≤ x.c) (ha : ¬ x.st.at_ < 0) : FIx fl a n G ⟨x.r + 1, 0, 0, ⟨x.st.worth, x.st.by_, -1⟩⟩ :=
  ⟨h.inv.round hc (fun e => ha (by rw [h.inv.last e]; decide)), by rw [← outI_step (stepF_round h.r hc ha)]; exact h.same⟩
theorem FIx.stop (h : FIx fl a n G x) (hc : n ≤ x.c) (ha : x.st.at_ < 0) : betterM fl a n G = [] := by
  refine better_none ?_
  rw [← h.same]; exact outI_stop (stepF_stop h.r hc ha)
theorem FIx.cell (h : FIx fl a n G x) (hc : ¬ n ≤ x.c) (hj : (waysL fl a x.c).length ≤ x.j) : FIx fl a n G ⟨x.r, x.c + 1, 0, x.st⟩ :=
  ⟨h.inv.cell hc hj, by rw [← outI_step (stepF_cell h.r hc hj)]; exact h.same⟩
theorem FIx.no (h : FIx fl a n G x) (hc : ¬ n ≤ x.c) (hj : ¬ (waysL fl a x.c).length ≤ x.j) (hg : gains fl G x.st x.c (nth (waysL fl a x.c) x.j) = false) : FIx fl a n G ⟨x.r, x.c, x.j + 1, x.st⟩ :=
  ⟨h.inv.no hc hj hg, by rw [← outI_step (stepF_no h.r hc hj hg)]; exact h.same⟩
theorem FIx.yes (hN : Net fl n) (hG : ∀ i, -1 ≤ G i ∧ G i ≤ 1) (h : FIx fl a n G x) (hc : ¬ n ≤ x.c) (hj : ¬ (waysL fl a x.c).length ≤ x.j) (hg : gains fl G x.st x.c (nth (waysL fl a x.c) x.j) = true) (hr : ¬ x.r + 1 = n) : FIx fl a n G ⟨x.r, x.c, x.j + 1, gain fl G x.st x.c (nth (waysL fl a x.c) x.j)⟩ :=
  ⟨h.inv.yes hN hG hc hj hg hr, by rw [← outI_step (stepF_yes h.r hc hj hg hr)]; exact h.same⟩
structure Found (fl : List Flow) (a : List Int) (n : Nat) (G : Nat → Int) (st : FSt) (v : Nat) : Prop where
  found : ∃ R T τ, Gh fl a n G (n - 1) st R T τ ∧ v < n ∧ R v = n
  at_ : st.at_ = v
  same : betterM fl a n G = cycM fl st (itN (prevN fl st) n v)
  len : st.by_.length = n
theorem FIx.last (hN : Net fl n) (hG : ∀ i, -1 ≤ G i ∧ G i ≤ 1) (h : FIx fl a n G x) (hc : ¬ n ≤ x.c) (hj : ¬ (waysL fl a x.c).length ≤ x.j) (hg : gains fl G x.st x.c (nth (waysL fl a x.c) x.j) = true) (hr : x.r + 1 = n) :
    ∃ v : Nat, Found fl a n G (gain fl G x.st x.c (nth (waysL fl a x.c) x.j)) v := by
  have h1 := h.inv.found hN hG hc hj hg hr
  have h2 : roundM fl a n G = some (gain fl G x.st x.c (nth (waysL fl a x.c) x.j)) := by
    rw [← h.same]; exact outI_stop (stepF_last h.r hc hj hg hr)
  cases h1 with
  | some _ R T τ v h3 hv e hR =>
    refine ⟨v, ⟨R, T, τ, h3, hv, hR⟩, e, ?_, h3.len.2⟩
    rw [better_some h2, e, Int.toNat_natCast]
theorem FInv.small (h : FInv fl a n G x) (hn : n ≤ 21) (hl : fl.length ≤ 34) : x.st.worth.length = n ∧ x.st.by_.length = n ∧ ∀ v, v < n → 0 ≤ nth x.st.worth v ∧ nth x.st.worth v ≤ 40000 := by
  obtain ⟨R, T, τ, h1, h2, _⟩ := h.gh
  refine ⟨h1.len.1, h1.len.2, fun v hv => ?_⟩
  have h3 := h1.le v hv
  have h4 := h.r
  have h5 := h.c
  have h6 := h.j.1
  have e1 : x.r * (n * (2 * fl.length)) ≤ 21 * (21 * 68) := Nat.mul_le_mul (by omega) (Nat.mul_le_mul hn (by omega))
  have e2 : x.c * (2 * fl.length) ≤ 21 * 68 := Nat.mul_le_mul (by omega) (by omega)
  omega
variable {st : FSt} {v s p : Nat}
theorem Found.chain (hN : Net fl n) (h : Found fl a n G st v) {k : Nat} (hk : k < n) : itN (prevN fl st) k v < n ∧ Open fl a (nth st.by_ (itN (prevN fl st) k v)) ∧ (nth st.by_ (itN (prevN fl st) k v)).beg fl = (itN (prevN fl st) (k + 1) v : Nat) := by
  obtain ⟨R, T, τ, h1, h2, h3⟩ := h.found
  obtain ⟨a1, a2⟩ := chain_R hN h1 h2 h3 k (by omega)
  obtain ⟨b1, _⟩ := h1.way _ a1 (by omega)
  refine ⟨a1, b1, ?_⟩
  have := (hN.way b1.1).1
  show _ = ((((nth st.by_ (itN (prevN fl st) k v)).beg fl).toNat : Nat) : Int)
  omega
structure CIx (fl : List Flow) (a : List Int) (n : Nat) (st : FSt) (s p : Nat) (x : Nat × List Way) : Prop where
  at_ : x.1 < n ∧ Open fl a (nth st.by_ x.1) ∧ (nth st.by_ x.1).beg fl = (prevN fl st x.1 : Nat)
  ix : ∃ i, i ≤ p ∧ x.1 = itN (prevN fl st) i s ∧ x.2.length = i
  same : outI (stepC fl st s) x = cycM fl st s
theorem Cyc.beg {T : Nat → Nat} (hN : Net fl n) (h : Cyc fl a n G st T s) (t : Nat) : itN (prevN fl st) t s < n ∧ Open fl a (nth st.by_ (itN (prevN fl st) t s)) ∧ (nth st.by_ (itN (prevN fl st) t s)).beg fl = (prevN fl st (itN (prevN fl st) t s) : Nat) := by
  refine ⟨h.at_ t, (h.way t).1, ?_⟩
  have := (hN.way (h.way t).1.1).1
  show _ = ((((nth st.by_ (itN (prevN fl st) t s)).beg fl).toNat : Nat) : Int)
  omega
theorem stepC_next {x : Nat × List Way} (h : ¬ (¬ x.2 = [] ∧ x.1 = s)) : stepC fl st s x = .inl (prevN fl st x.1, x.2 ++ [nth st.by_ x.1]) := if_neg h
theorem stepC_stop {x : Nat × List Way} (h : ¬ x.2 = [] ∧ x.1 = s) : stepC fl st s x = .inr x.2 := if_pos h
theorem CIx.next {T : Nat → Nat} (hN : Net fl n) (hC : Cyc fl a n G st T s) (hp : itN (prevN fl st) p s = s) (hp1 : 1 ≤ p) {x : Nat × List Way} (h : CIx fl a n st s p x) (hc : ¬ (¬ x.2 = [] ∧ x.1 = s)) :
    CIx fl a n st s p (prevN fl st x.1, x.2 ++ [nth st.by_ x.1]) ∧ x.2.length < p := by
  obtain ⟨i, h1, h2, h3⟩ := h.ix
  have hi : i < p := by
    by_cases e : i = p
    · exfalso; apply hc
      subst e
      exact ⟨fun e => by rw [e] at h3; simp at h3; omega, h2.trans hp⟩
    · omega
  have e : prevN fl st x.1 = itN (prevN fl st) (i + 1) s := by rw [h2]; rfl
  refine ⟨⟨?_, ⟨i + 1, hi, e, by rw [List.length_append, h3]; rfl⟩, ?_⟩, by omega⟩
  · show prevN fl st x.1 < n ∧ Open fl a (nth st.by_ (prevN fl st x.1)) ∧ _ = ((prevN fl st (prevN fl st x.1) : Nat) : Int)
    rw [e]; exact hC.beg hN (i + 1)
  · rw [← outI_step (stepC_next hc)]; exact h.same
theorem CIx.end {x : Nat × List Way} (h : CIx fl a n st s p x) (hc : ¬ x.2 = [] ∧ x.1 = s) : x.2 = cycM fl st s := by
  rw [← h.same]; exact (outI_stop (stepC_stop hc)).symm
theorem Found.cyc (hN : Net fl n) (h : Found fl a n G st v) : ∃ T p, Cyc fl a n G st T (itN (prevN fl st) n v) ∧ 1 ≤ p ∧ p ≤ n ∧ itN (prevN fl st) p (itN (prevN fl st) n v) = itN (prevN fl st) n v ∧ CIx fl a n st (itN (prevN fl st) n v) p (itN (prevN fl st) n v, []) := by
  obtain ⟨R, T, τ, h1, h2, h3⟩ := h.found
  have hC := cyc_of hN h1 h2 h3
  obtain ⟨p, p1, p2, p3⟩ := hC.back
  exact ⟨T, p, hC, p1, p2, p3, ⟨hC.beg hN 0, ⟨0, Nat.zero_le _, rfl, rfl⟩, rfl⟩⟩
structure GIx (fl : List Flow) (n : Nat) (G : Nat → Int) (a b : List Int) : Prop where
  feas : Feas fl n b
  same : outI (stepG fl n G) b = bestM fl n G a
theorem stepG_stop {b : List Int} (e : betterM fl b n G = []) : stepG fl n G b = .inr b := if_pos e
theorem stepG_step {b : List Int} (e : ¬ betterM fl b n G = []) : stepG fl n G b = .inl (sendM b (betterM fl b n G) (mostL fl b 300 (betterM fl b n G))) := if_neg e
theorem GIx.done {b : List Int} (h : GIx fl n G a b) (e : betterM fl b n G = []) : b = bestM fl n G a := by
  rw [← h.same]; exact (outI_stop (stepG_stop e)).symm
theorem GIx.next {b : List Int} (hN : Net fl n) (hn : 0 < n) (hB : Bd fl) (hG : ∀ i, -1 ≤ G i ∧ G i ≤ 1) (h : GIx fl n G a b) (e : ¬ betterM fl b n G = []) :
    GIx fl n G a (sendM b (betterM fl b n G) (mostL fl b 300 (betterM fl b n G))) ∧ (300 * fl.length - goalV fl G (sendM b (betterM fl b n G) (mostL fl b 300 (betterM fl b n G)))).toNat < (300 * fl.length - goalV fl G b).toNat ∧ CSpec fl b n G (betterM fl b n G) := by
  rcases better_spec (a := b) hN hn hG with ⟨e', _⟩ | hc
  · exact absurd e' e
  · have hb := better_next h.feas hc
    refine ⟨⟨hb.feas, ?_⟩, ?_, hc⟩
    · rw [← h.same]; exact (outI_step (stepG_step e)).symm
    · have h1 := hb.more
      have h2 := goal_le hB hb.feas.1 hG
      omega
end
def hasUp (has : Nat → Bool) (x : List Int) (k : Nat) : Int := sumN (fun i => if has i = true then nth x i else 0) k
theorem hasUp_yes {has : Nat → Bool} {x : List Int} {k : Nat} (h : has k = true) : hasUp has x k + nth x k = hasUp has x (k + 1) := by
  show _ = hasUp has x k + (if _ then _ else _); rw [if_pos h]
theorem hasUp_no {has : Nat → Bool} {x : List Int} {k : Nat} (h : has k = false) : hasUp has x k = hasUp has x (k + 1) := by
  show _ = hasUp has x k + (if _ then _ else _); rw [if_neg (by rw [h]; decide)]; omega
theorem hasUp_abs {has : Nat → Bool} {x : List Int} {k : Nat} (h : ∀ i, i < k → 0 ≤ nth x i ∧ nth x i ≤ 300) : -(300 * (k : Int)) ≤ hasUp has x k ∧ hasUp has x k ≤ 300 * k := by
  refine sumN_abs (b := 300) fun i hi => ?_
  have := h i hi
  split <;> omega
theorem goalG_no {has : Nat → Bool} {less : Bool} {i : Nat} (h : has i = false) : goalG has less i = 0 := by unfold goalG; rw [h]; cases less <;> rfl
theorem goalG_yes {has : Nat → Bool} {less : Bool} {i : Nat} (h : has i = true) : goalG has less i = if less = true then -1 else 1 := by unfold goalG; rw [h]; cases less <;> rfl
theorem worth_a {has : Nat → Bool} {less : Bool} {w : Way} (h : has w.ix = false) : 0 = addW (goalG has less) w := by
  unfold addW sgn; rw [goalG_no h]; cases w.more <;> rfl
theorem worth_b {has : Nat → Bool} {less : Bool} {w : Way} (h : has w.ix = true) (e : w.more ≠ less) : 1 = addW (goalG has less) w := by
  unfold addW sgn; rw [goalG_yes h]
  cases hm : w.more <;> cases hl : less <;> first | rfl | exact absurd (hm.trans hl.symm) e
theorem worth_c {has : Nat → Bool} {less : Bool} {w : Way} (h : has w.ix = true) (e : w.more = less) : -1 = addW (goalG has less) w := by
  unfold addW sgn; rw [goalG_yes h, e]
  cases less <;> rfl
end Go.Proofs.YtelbollidfdcjaaGreat

namespace Go.Proofs.YtelbollidfdcjaaGreat
open Go Go.T
set_option maxHeartbeats 16000000
theorem und4 : Tryz.prog.underlying 4 = some .bool := Tryz.underlying4
section
variable {fl : List Flow} {a : List Int} {n : Nat} {G : Nat → Int} {st : FSt} {r c j : Nat} {w : Way}
def stepU (fl : List Flow) (G : Nat → Int) (st : FSt) (c : Nat) (w : Way) : FSt := if gains fl G st c w = true then gain fl G st c w else st
theorem stepU_yes (h : nth st.worth c + addW G w > nth st.worth (w.fin fl).toNat) : stepU fl G st c w = gain fl G st c w := if_pos (decide_eq_true h)
theorem stepU_no (h : ¬ nth st.worth c + addW G w > nth st.worth (w.fin fl).toNat) : stepU fl G st c w = st := if_neg (by rw [show gains fl G st c w = false from decide_eq_false h]; decide)
theorem FIx.go_yes (hN : Net fl n) (hG : ∀ i, -1 ≤ G i ∧ G i ≤ 1) (h : FIx fl a n G ⟨r, c, j, st⟩) (hc : c < n) (hj : j < (waysL fl a c).length) (hg : nth st.worth c + addW G (nth (waysL fl a c) j) > nth st.worth ((nth (waysL fl a c) j).fin fl).toNat) (hr : ¬ (r : Int) = n - 1) : FIx fl a n G ⟨r, c, j + 1, stepU fl G st c (nth (waysL fl a c) j)⟩ := by
  rw [stepU_yes hg]; exact h.yes hN hG (Nat.not_le.2 hc) (Nat.not_le.2 hj) (decide_eq_true hg) (by show ¬ r + 1 = n; intro e; apply hr; rw [← e]; show (r : Int) = ((r + 1 : Nat) : Int) - 1; omega)
theorem FIx.go_no (h : FIx fl a n G ⟨r, c, j, st⟩) (hc : c < n) (hj : j < (waysL fl a c).length) (hg : ¬ nth st.worth c + addW G (nth (waysL fl a c) j) > nth st.worth ((nth (waysL fl a c) j).fin fl).toNat) : FIx fl a n G ⟨r, c, j + 1, stepU fl G st c (nth (waysL fl a c) j)⟩ := by
  rw [stepU_no hg]; exact h.no (Nat.not_le.2 hc) (Nat.not_le.2 hj) (decide_eq_false hg)
theorem goU_w (h : nth st.worth c + addW G w > nth st.worth (w.fin fl).toNat) : st.worth.set (w.fin fl).toNat (nth st.worth c + addW G w) = (stepU fl G st c w).worth := by rw [stepU_yes h]; rfl
theorem goU_b (h : nth st.worth c + addW G w > nth st.worth (w.fin fl).toNat) : st.by_.set (w.fin fl).toNat w = (stepU fl G st c w).by_ := by rw [stepU_yes h]; rfl
theorem goU_a (h : nth st.worth c + addW G w > nth st.worth (w.fin fl).toNat) : w.fin fl = (stepU fl G st c w).at_ := by rw [stepU_yes h]; rfl
theorem goN_w (h : ¬ nth st.worth c + addW G w > nth st.worth (w.fin fl).toNat) : st.worth = (stepU fl G st c w).worth := by rw [stepU_no h]
theorem goN_b (h : ¬ nth st.worth c + addW G w > nth st.worth (w.fin fl).toNat) : st.by_ = (stepU fl G st c w).by_ := by rw [stepU_no h]
theorem goN_a (h : ¬ nth st.worth c + addW G w > nth st.worth (w.fin fl).toNat) : st.at_ = (stepU fl G st c w).at_ := by rw [stepU_no h]
theorem FIx.hit (hN : Net fl n) (hG : ∀ i, -1 ≤ G i ∧ G i ≤ 1) (h : FIx fl a n G ⟨r, c, j, st⟩) (hc : c < n) (hj : j < (waysL fl a c).length) (hg : nth st.worth c + addW G (nth (waysL fl a c) j) > nth st.worth ((nth (waysL fl a c) j).fin fl).toNat) (hr : (r : Int) = n - 1) :
    ∃ (v : Nat) (s' : FSt), st.worth.set ((nth (waysL fl a c) j).fin fl).toNat (nth st.worth c + addW G (nth (waysL fl a c) j)) = s'.worth ∧ st.by_.set ((nth (waysL fl a c) j).fin fl).toNat (nth (waysL fl a c) j) = s'.by_ ∧ (nth (waysL fl a c) j).fin fl = ((v : Nat) : Int) ∧ Found fl a n G s' v := by
  obtain ⟨v, hv⟩ := h.last hN hG (Nat.not_le.2 hc) (Nat.not_le.2 hj) (decide_eq_true hg) (by show r + 1 = n; have := h.inv.r; omega)
  exact ⟨v, _, rfl, rfl, hv.at_, hv⟩
theorem more7 {e : List Way} {s : Nat} (h : (decide ((e.length : Int) = 0) || !decide ((c : Int) = (s : Int))) = true) : ¬ (¬ e = [] ∧ c = s) := by
  rintro ⟨h1, h2⟩
  have h3 : (e.length : Int) ≠ 0 := fun h => h1 (List.length_eq_zero_iff.1 (by omega))
  rw [decide_eq_false h3, decide_eq_true (by omega)] at h; cases h
theorem end7 {e : List Way} {s : Nat} (h : (decide ((e.length : Int) = 0) || !decide ((c : Int) = (s : Int))) = false) : ¬ e = [] ∧ c = s := by
  rw [Bool.or_eq_false_iff] at h
  refine ⟨fun e0 => ?_, ?_⟩
  · subst e0; exact absurd h.1 (by decide)
  · have := of_decide_eq_true (not_not_b h.2 : decide ((c : Int) = (s : Int)) = true); omega
theorem less7 {e : List Way} {p : Nat} (h : e.length < p) : p - (e ++ [w]).length < p - e.length := by rw [List.length_append]; show p - (e.length + 1) < _; omega
theorem ne7 {s p : Nat} {x : Nat × List Way} (h : CIx fl a n st s p x) (hc : ¬ x.2 = [] ∧ x.1 = s) : cycM fl st s ≠ [] := by rw [← h.end hc]; exact hc.1
end
attribute [local irreducible] flowsY loL Way.beg Way.fin Way.room waysQ sendM overUp overL over waysL reachM hasM lackM lackB mostL pathM sendS stuckM settleM leastL addW goalG betterM bestM cycM roundM stepU gain
attribute [local irreducible] dInt dBool dSl dPp dPtr dAgg dTup dClo dAny dEx dStr dGd dCells dVec dVs dRow dOp nth Tri Into TOps Ctr bodyPost Exit.then Exit.inBlock Code.wp Code.wpIn dWhen dPa dPe dAo dArr dMp dPm dMap dCJ CtrG CtrI OpY keepPost iterPost bodyPostM roundQ
set_option maxRecDepth 100000 in
theorem k_settle (y : Yard) (fl : List Flow) (a : List Int) (h : Rough y fl a) : CtrG Tryz.prog 119 [1000] [(1000, Cont.vec I64 3 a)] [Ty.pp (deskS y fl 1000 fl.length)] [(1000, Cont.vec I64 3 (stuckM fl (y.cells + 1) a).2.2)] (Ty.bool (!(stuckM fl (y.cells + 1) a).2.1)) := by
  refine fnG_intro Tryz.func119 rfl (by decide) Tryz.ntmps119 (by exact Nat.le_of_ble_eq_true rfl) fun w0 M0 => ?_
  refine t_seq ?_
  refine t_region ?_
  refine asB rfl ?_
  refine r_nil ?_
  refine i_then ?_
  refine t_seq ?_
  refine t_region ?_
  refine mvP rfl ?_
  refine r_callG [(1000, 1000)] [] [(1000, Cont.vec I64 3 (stuckM fl (y.cells + 1) a).2.2)] (k_stuck y fl a h) rfl rfl (cv_cons cv_nil (cv_pp (cv_cons (cv_cons (cv_cons (cv_cons (cv_cons (cv_cons cv_nil (cv_vs (by exact List.mem_cons_self))) (cv_pub rfl rfl)) (cv_pub rfl rfl)) (cv_pub rfl rfl)) (cv_pub rfl rfl)) (cv_pub rfl rfl)))) (pre_cons (a := 1000) (b := 1000) (by exact List.mem_cons_self) rfl (cc_vec (by exact List.mem_cons_self) rfl) pre_nil) (post_cons (a := 1000) (b := 1000) (by decide) rfl (cc_vec (by decide) rfl) post_nil) (cv_pub rfl rfl) ?_
  refine mvT rfl ?_
  refine r_extract rfl rfl ?_
  refine r_extract rfl rfl ?_
  refine asI rfl ?_
  refine asB rfl ?_
  refine r_nil ?_
  refine i_then ?_
  refine t_seq ?_
  refine t_region ?_
  refine mvB rfl ?_
  refine r_not rfl ?_
  refine asB rfl ?_
  refine r_nil ?_
  refine i_then ?_
  refine t_ret ?_
  refine g_ret1 [1000] rfl rfl (by decide) (by repeat (first | exact rc_nil | refine rc_cons rfl (cc_vec (by decide) rfl) ?_)) ?_
  all_goals exact rg_cv (cv_pub rfl rfl)
set_option maxRecDepth 100000 in
theorem c_worth (th : Ty) (h1 : th.deps = []) (h2 : th.cdeps = []) (has : Nat → Bool) (less : Bool) (w : Way) (hf : Cal Tryz.prog (Ty.nd th h1 h2) [Ty.int .i64 ((w.ix : Nat) : Int)] (Ty.bool (has w.ix))) : Ctr Tryz.prog 202 [Ty.agg [Ty.nd th h1 h2, Ty.bool less], Ty.agg (WayE.tys w)] (Ty.int .i64 (addW (goalG has less) w)) := by
  refine fn_intro Tryz.func202 rfl (by decide) Tryz.ntmps202 (by exact Nat.le_of_ble_eq_true rfl) fun w0 M0 => ?_
  refine t_seq ?_
  refine t_region ?_
  refine r_box_agg rfl ?_
  refine r_box_agg rfl ?_
  refine asI rfl ?_
  refine r_nil ?_
  refine i_then ?_
  refine t_seq ?_
  refine t_seq ?_
  refine t_region ?_
  refine r_field_pp rfl rfl rfl rfl rfl (by decide) ?_
  refine r_load_pp rfl rfl rfl rfl ?_
  refine r_field_pp rfl rfl rfl rfl rfl (by decide) ?_
  refine r_load_pp rfl rfl rfl rfl ?_
  refine r_callc rfl hf rfl ?_
  refine r_not rfl ?_
  refine r_nil ?_
  refine i_then ?_
  refine t_cond rfl (fun hc1 => ?_) (fun hc1 => ?_)
  ·
    refine t_seq ?_
    refine t_region ?_
    refine asI rfl ?_
    refine r_nil ?_
    refine i_then ?_
    refine t_ret ?_
    refine i_then_ret ?_
    refine i_rp1 rfl rfl ?_
    all_goals skip
    all_goals exact ret_eq rfl rfl (congrArg (Ty.int .i64) (worth_a (not_b hc1)))
  ·
    refine t_skip ?_
    refine i_then ?_
    refine t_seq ?_
    refine t_seq ?_
    refine t_region ?_
    refine r_field_pp rfl rfl rfl rfl rfl (by decide) ?_
    refine r_load_pp rfl rfl rfl rfl ?_
    refine r_field_pp rfl rfl rfl rfl rfl (by decide) ?_
    refine r_load_pp rfl rfl rfl rfl ?_
    refine r_neq_B und4 rfl rfl ?_
    refine r_nil ?_
    refine i_then ?_
    refine t_cond_ndec rfl (fun hc2 => ?_) (fun hc2 => ?_)
    ·
      refine t_seq ?_
      refine t_region ?_
      refine asI rfl ?_
      refine r_nil ?_
      refine i_then ?_
      refine t_ret ?_
      refine i_then_ret ?_
      refine i_rp1 rfl rfl ?_
      all_goals skip
      all_goals exact ret_eq rfl rfl (congrArg (Ty.int .i64) (worth_b (not_not_b hc1) hc2))
    ·
      refine t_skip ?_
      refine i_then ?_
      refine t_seq ?_
      refine t_region ?_
      refine asI rfl ?_
      refine r_nil ?_
      refine i_then ?_
      refine t_ret ?_
      refine i_rp1 rfl rfl ?_
      all_goals skip
      all_goals exact ret_eq rfl rfl (congrArg (Ty.int .i64) (worth_c (not_not_b hc1) hc2))
set_option maxRecDepth 100000 in
theorem k_better (y : Yard) (fl : List Flow) (a : List Int) (h : Fine y fl a) (th : Ty) (h1 : th.deps = []) (h2 : th.cdeps = []) (has : Nat → Bool) (hf : ∀ i, i < fl.length → Cal Tryz.prog (Ty.nd th h1 h2) [Ty.int .i64 ((i : Nat) : Int)] (Ty.bool (has i))) (less : Bool) : CtrG Tryz.prog 195 [1000] [(1000, Cont.vec I64 3 a)] [Ty.pp (deskS y fl 1000 fl.length), Ty.agg [Ty.nd th h1 h2, Ty.bool less]] [(1000, Cont.vec I64 3 a)] (Ty.nsl WayE (betterM fl a (y.cells + 1) (goalG has less))) := by
  refine fnG_intro Tryz.func195 rfl (by decide) Tryz.ntmps195 (by exact Nat.le_of_ble_eq_true rfl) fun w0 M0 => ?_
  have hal := h.inb.1
  have hN := h.net
  have hfl := h.few
  have hcl := cells_le h.right
  have hG := goalG_le (has := has) less
  refine t_seq ?_
  refine t_region ?_
  refine r_box_agg rfl ?_
  refine asX rfl ?_
  refine r_nil ?_
  refine i_then ?_
  refine t_scope ?_
  refine t_seq ?_
  refine t_region ?_
  refine mvP rfl ?_
  refine r_callLC [] (c_cells y h.right) rfl (lendcs_cons (lendc_pre (l1 := yardTys y) (l2 := [Ty.sl FlowE fl, Ty.vs 1000 fl.length]) rfl rfl) lendcs_nil) (by exact plain_int _ _) ?_
  refine r_add rfl rfl (by omega) (by omega) ?_
  refine asI rfl ?_
  refine r_nil ?_
  refine i_then ?_
  refine t_seq ?_
  refine t_draw mixed rfl ?_
  refine mvI rfl ?_
  refine r_makeV (E := I64) (x0 := 0) rfl rfl rfl rfl rfl rfl rfl (by decide) rfl (by omega) (by (dsimp only; omega)) (by omega) ?_
  refine mvI rfl ?_
  refine r_makeV (E := WayE) (x0 := default) rfl rfl rfl rfl rfl rfl rfl (by decide) rfl (by omega) (by (dsimp only; omega)) (by omega) ?_
  refine asV rfl ?_
  refine asV rfl ?_
  refine r_nil ?_
  refine ⟨by kernel_rfl, ?_⟩
  refine i_then ?_
  refine t_seq ?_
  refine t_region ?_
  refine mvP rfl ?_
  refine r_callG [(1000, 1000)] [] [(1000, Cont.vec I64 3 a)] (k_ways y fl a h) rfl rfl (cv_cons cv_nil (cv_pp (cv_cons (cv_cons (cv_cons (cv_cons (cv_cons (cv_cons cv_nil (cv_vs (by exact List.mem_cons_self))) (cv_pub rfl rfl)) (cv_pub rfl rfl)) (cv_pub rfl rfl)) (cv_pub rfl rfl)) (cv_pub rfl rfl)))) (pre_cons (a := 1000) (b := 1000) (by exact List.mem_cons_self) rfl (cc_vec (by exact List.mem_cons_self) rfl) pre_nil) (post_cons (a := 1000) (b := 1000) (by decide) rfl (cc_vec (by decide) rfl) post_nil) (cv_pub rfl rfl) ?_
  refine asMP rfl ?_
  refine r_nil ?_
  refine i_then ?_
  refine t_seq ?_
  refine t_region ?_
  refine asI rfl ?_
  refine r_nil ?_
  refine i_then ?_
  refine t_seq ?_
  refine t_label ?_
  refine i_then ?_
  refine t_seq ?_
  refine t_seq ?_
  refine t_region ?_
  refine mvI rfl ?_
  refine mvI rfl ?_
  refine r_nil ?_
  refine i_then ?_
  refine t_block ?_
  refine t_loop (fun (x : {x : Nat × FSt // FIx fl a (y.cells + 1) (goalG has less) ⟨x.1, 0, 0, x.2⟩ ∧ x.2.at_ = -1}) => live [(0, Ty.pp (deskS y fl 1000 fl.length)), (3, Ty.pp [Ty.nd th h1 h2, Ty.bool less]), (5, Ty.int .i64 ((y.cells + 1) : Nat)), (6, Ty.vs 23 (y.cells + 1)), (7, Ty.vs 25 (y.cells + 1)), (8, Ty.pm KI.enc (VSl WayE) (waysQ fl a fl.length)), (27, Ty.int .i64 ((y.cells + 1) : Nat)), (28, Ty.int .i64 ((x.1.1 : Nat) : Int))] [(1000, Cont.vec I64 3 a), (23, Cont.vec I64 3 x.1.2.worth), (25, Cont.vec WayE 199 x.1.2.by_)]) (fun x => (y.cells + 1) - x.1.1) (⟨(0, st0 (y.cells + 1)), fix0 (by omega), rfl⟩) ?_ fun x => ?_
  · (refine Ent.mk' ?_ ?_ <;> (repeat' (first | exact allSub_zero | exact allTags_nil | refine allSub_succ' ?_ (Ty.sub_any _) | refine allSub_succ' ?_ (Ty.sub_refl _) | refine allTags_cons rfl (Cont.sub_refl _) ?_)))
  ·
    have hxr : x.1.1 < (y.cells + 1) := x.2.1.inv.r
    have hxs : x.1.2.worth.length = (y.cells + 1) ∧ x.1.2.by_.length = (y.cells + 1) := ⟨(x.2.1.inv.small (by omega) hfl).1, (x.2.1.inv.small (by omega) hfl).2.1⟩
    refine t_seq ?_
    refine t_region ?_
    refine r_bin rfl rfl rfl ?_
    refine r_nil ?_
    refine i_then ?_
    refine t_seq ?_
    refine t_cond_tt rfl (decide_eq_true (by show ((x.1.1 : Nat) : Int) < ((y.cells + 1) : Nat); have : x.1.1 < (y.cells + 1) := hxr; omega)) ?_
    refine t_skip ?_
    refine i_then ?_
    refine t_seq ?_
    refine t_block ?_
    refine t_seq ?_
    refine t_region ?_
    refine mvI rfl ?_
    refine asI rfl ?_
    refine r_nil ?_
    refine i_then ?_
    refine t_seq ?_
    refine t_region ?_
    refine asI rfl ?_
    refine r_nil ?_
    refine i_then ?_
    refine t_seq ?_
    refine t_seq ?_
    refine t_region ?_
    refine mvI rfl ?_
    refine mvI rfl ?_
    refine r_nil ?_
    refine i_then ?_
    refine t_block ?_
    refine t_loop (fun (z : {z : Nat × FSt // FIx fl a (y.cells + 1) (goalG has less) ⟨x.1.1, z.1, 0, z.2⟩}) => live [(0, Ty.pp (deskS y fl 1000 fl.length)), (3, Ty.pp [Ty.nd th h1 h2, Ty.bool less]), (5, Ty.int .i64 ((y.cells + 1) : Nat)), (6, Ty.vs 23 (y.cells + 1)), (7, Ty.vs 25 (y.cells + 1)), (8, Ty.pm KI.enc (VSl WayE) (waysQ fl a fl.length)), (9, Ty.int .i64 z.1.2.at_), (10, Ty.int .i64 ((x.1.1 : Nat) : Int)), (27, Ty.int .i64 ((y.cells + 1) : Nat)), (28, Ty.int .i64 ((x.1.1 : Nat) : Int)), (31, Ty.int .i64 ((y.cells + 1) : Nat)), (32, Ty.int .i64 ((z.1.1 : Nat) : Int))] [(1000, Cont.vec I64 3 a), (23, Cont.vec I64 3 z.1.2.worth), (25, Cont.vec WayE 199 z.1.2.by_)]) (fun z => (y.cells + 1) - z.1.1) (⟨(0, x.1.2), x.2.1⟩) ?_ fun z => ?_
    · (refine Ent.mk' ?_ ?_ <;> (repeat' (first | exact allSub_zero | exact allTags_nil | refine allSub_succ' ?_ (Ty.sub_any _) | refine allSub_succ' ?_ (Ty.sub_refl _) | refine allTags_cons rfl (Cont.sub_refl _) ?_ | refine allSub_succ' ?_ ?_)))
      all_goals exact Ty.sub_int x.2.2.symm
    ·
      have hzc : z.1.1 ≤ (y.cells + 1) := z.2.inv.c
      have hzs : z.1.2.worth.length = (y.cells + 1) ∧ z.1.2.by_.length = (y.cells + 1) := ⟨(z.2.inv.small (by omega) hfl).1, (z.2.inv.small (by omega) hfl).2.1⟩
      refine t_seq ?_
      refine t_region ?_
      refine r_bin rfl rfl rfl ?_
      refine r_nil ?_
      refine i_then ?_
      refine t_seq ?_
      refine t_cond_dec rfl (fun hc2 => ?_) (fun hc2 => ?_)
      ·
        refine t_skip ?_
        refine i_then ?_
        refine t_seq ?_
        refine t_block ?_
        refine t_seq ?_
        refine t_region ?_
        refine mvI rfl ?_
        refine asI rfl ?_
        refine r_nil ?_
        refine i_then ?_
        refine t_seq ?_
        refine t_region ?_
        refine mvMP rfl ?_
        refine mvI rfl ?_
        refine r_lookupP KI (z0 := []) rfl rfl (keyI _) mapT227 zero222 nil_ways ?_
        refine r_len (E := WayE) (xs := getQ (waysQ fl a fl.length) ((z.1.1 : Nat) : Int)) rfl rfl rfl ?_
        refine mvI rfl ?_
        refine r_nil ?_
        refine i_then ?_
        refine t_as (s := 37) rfl (show (Ty.sl WayE (getQ (waysQ fl a fl.length) ((z.1.1 : Nat) : Int))).Sub (Ty.sl WayE (waysL fl a z.1.1)) from Ty.sub_sl ways_get) ?_
        refine t_as (s := 38) rfl (Ty.sub_int (congrArg (fun l : List Way => ((l.length : Nat) : Int)) (ways_get (c := ((z.1.1 : Nat) : Int))))) ?_
        refine t_block ?_
        refine t_loop (fun (u : {u : Nat × FSt // FIx fl a (y.cells + 1) (goalG has less) ⟨x.1.1, z.1.1, u.1, u.2⟩}) => live [(0, Ty.pp (deskS y fl 1000 fl.length)), (3, Ty.pp [Ty.nd th h1 h2, Ty.bool less]), (5, Ty.int .i64 ((y.cells + 1) : Nat)), (6, Ty.vs 23 (y.cells + 1)), (7, Ty.vs 25 (y.cells + 1)), (8, Ty.pm KI.enc (VSl WayE) (waysQ fl a fl.length)), (9, Ty.int .i64 u.1.2.at_), (10, Ty.int .i64 ((x.1.1 : Nat) : Int)), (11, Ty.int .i64 ((z.1.1 : Nat) : Int)), (27, Ty.int .i64 ((y.cells + 1) : Nat)), (28, Ty.int .i64 ((x.1.1 : Nat) : Int)), (31, Ty.int .i64 ((y.cells + 1) : Nat)), (32, Ty.int .i64 ((z.1.1 : Nat) : Int)), (37, Ty.sl WayE (waysL fl a z.1.1)), (38, Ty.int .i64 (waysL fl a z.1.1).length), (39, Ty.int .i64 ((u.1.1 : Nat) : Int))] [(1000, Cont.vec I64 3 a), (23, Cont.vec I64 3 u.1.2.worth), (25, Cont.vec WayE 199 u.1.2.by_)]) (fun u => (waysL fl a z.1.1).length - u.1.1) (⟨(0, z.1.2), z.2⟩) ?_ fun u => ?_
        · (refine Ent.mk' ?_ ?_ <;> (repeat' (first | exact allSub_zero | exact allTags_nil | refine allSub_succ' ?_ (Ty.sub_any _) | refine allSub_succ' ?_ (Ty.sub_refl _) | refine allTags_cons rfl (Cont.sub_refl _) ?_)))
        ·
          have hus : u.1.2.worth.length = (y.cells + 1) ∧ u.1.2.by_.length = (y.cells + 1) ∧ ∀ v, v < (y.cells + 1) → 0 ≤ nth u.1.2.worth v ∧ nth u.1.2.worth v ≤ 40000 := u.2.inv.small (by omega) hfl
          have hwl := ways_len (fl := fl) (a := a) (c := ((z.1.1 : Nat) : Int))
          refine t_seq ?_
          refine t_region ?_
          refine r_bin rfl rfl rfl ?_
          refine r_nil ?_
          refine i_then ?_
          refine t_seq ?_
          refine t_cond_dec rfl (fun hc3 => ?_) (fun hc3 => ?_)
          ·
            refine t_skip ?_
            refine i_then ?_
            refine t_seq ?_
            refine t_block ?_
            refine t_seq ?_
            have hzn : z.1.1 < (y.cells + 1) := by omega
            have hun : u.1.1 < (waysL fl a z.1.1).length := by omega
            have hwo := (mem_ways.1 (nth_mem (xs := waysL fl a z.1.1) (k := u.1.1) hun)).1
            have hwj := hwo
            have hwf := (hN.way hwo.1).2
            have haw := addW_le hG (nth (waysL fl a z.1.1) u.1.1)
            have hu1 := hus.2.2 z.1.1 hzn
            have hu2 := hus.2.2 ((nth (waysL fl a z.1.1) u.1.1).fin fl).toNat (by omega)
            refine t_region ?_
            refine r_index_slN rfl rfl rfl rfl rfl rfl (by omega) ?_
            refine r_load_ppN rfl rfl rfl (by exact Nat.le_of_ble_eq_true rfl) ?_
            refine r_alloc rfl (by exact List.cons_ne_nil _ _) rfl ?_
            refine r_storeN rfl rfl (by decide) rfl rfl rfl rfl rfl rfl ?_
            refine r_nil ?_
            refine i_then ?_
            refine t_seq ?_
            refine t_region ?_
            refine mvP rfl ?_
            refine r_load_ptrN rfl rfl (by decide) rfl rfl (by exact Nat.le_of_ble_eq_true rfl) ?_
            refine r_callLC [1000] (c_end y fl a h (nth (waysL fl a z.1.1) u.1.1) hwj.1) rfl (lendcs_cons (lendc_pp (lendcs_cons (lendc_of (lend_pub rfl rfl)) (lendcs_cons (lendc_of (lend_pub rfl rfl)) (lendcs_cons (lendc_of (lend_pub rfl rfl)) (lendcs_cons (lendc_of (lend_pub rfl rfl)) (lendcs_cons (lendc_of (lend_pub rfl rfl)) (lendcs_cons (lendc_vs rfl hal (by decide) rfl) lendcs_nil))))))) (lendcs_cons (lendc_of (lend_pub rfl rfl)) lendcs_nil)) (by exact plain_tup (by repeat (first | exact plain_nil | refine plain_cons (by exact plain_int _ _) ?_))) ?_
            refine mvT rfl ?_
            refine r_extract rfl rfl ?_
            refine r_extract rfl rfl ?_
            refine asI rfl ?_
            refine asI rfl ?_
            refine r_nil ?_
            refine i_then ?_
            refine t_seq ?_
            refine t_draw mixed rfl ?_
            refine mvV rfl ?_
            refine mvI rfl ?_
            refine r_index_vs rfl rfl rfl rfl rfl (by omega) ?_
            refine r_load_vecB rfl rfl rfl (by decide) rfl rfl (by omega) rfl ?_
            refine r_load_ppN rfl rfl rfl (by exact Nat.le_of_ble_eq_true rfl) ?_
            refine r_load_ptrN rfl rfl (by decide) rfl rfl (by exact Nat.le_of_ble_eq_true rfl) ?_
            refine r_call (c_worth th h1 h2 has less (nth (waysL fl a z.1.1) u.1.1) (hf _ hwj.1)) rfl rfl rfl rfl rfl ?_
            refine r_add rfl rfl (by omega) (by omega) ?_
            refine mvV rfl ?_
            refine mvI rfl ?_
            refine r_index_vsI rfl rfl rfl rfl rfl (by omega) (by omega) ?_
            refine r_load_vecB rfl rfl rfl (by decide) rfl rfl (by omega) rfl ?_
            refine r_bin rfl rfl rfl ?_
            refine r_nil ?_
            refine ⟨by kernel_rfl, ?_⟩
            refine i_then ?_
            refine t_cond_dec rfl (fun hc4 => ?_) (fun hc4 => ?_)
            ·
              refine t_seq ?_
              refine t_draw mixed rfl ?_
              refine mvV rfl ?_
              refine mvI rfl ?_
              refine mvV rfl ?_
              refine mvI rfl ?_
              refine mvV rfl ?_
              refine mvI rfl ?_
              refine r_index_vs rfl rfl rfl rfl rfl (by omega) ?_
              refine r_load_vecB rfl rfl rfl (by decide) rfl rfl (by omega) rfl ?_
              refine r_load_ppN rfl rfl rfl (by exact Nat.le_of_ble_eq_true rfl) ?_
              refine r_load_ptrN rfl rfl (by decide) rfl rfl (by exact Nat.le_of_ble_eq_true rfl) ?_
              refine r_call (c_worth th h1 h2 has less (nth (waysL fl a z.1.1) u.1.1) (hf _ hwj.1)) rfl rfl rfl rfl rfl ?_
              refine r_add rfl rfl (by omega) (by omega) ?_
              refine r_load_ptrN rfl rfl (by decide) rfl rfl (by exact Nat.le_of_ble_eq_true rfl) ?_
              refine mvI rfl ?_
              refine r_index_vsI rfl rfl rfl rfl rfl (by omega) (by omega) ?_
              refine r_store_vecB rfl rfl rfl (by decide) rfl rfl (by exact (rfl : _ = Ty.int _ _)) rfl (by omega) (by decide) rfl rfl ?_
              refine r_index_vsI rfl rfl rfl rfl rfl (by omega) (by omega) ?_
              refine r_store_vecE (E := WayE) (z := (nth (waysL fl a z.1.1) u.1.1)) ((nth (waysL fl a z.1.1) u.1.1).fin fl).toNat rfl rfl rfl (by decide) rfl rfl rfl (by omega) ?_
              refine asI rfl ?_
              refine r_nil ?_
              refine ⟨by kernel_rfl, ?_⟩
              refine i_then ?_
              refine t_seq ?_
              refine t_region ?_
              refine mvI rfl ?_
              refine mvI rfl ?_
              refine r_sub rfl rfl (by omega) (by omega) ?_
              refine r_bin rfl rfl rfl ?_
              refine r_nil ?_
              refine i_then ?_
              refine t_cond_dec rfl (fun hc5 => ?_) (fun hc5 => ?_)
              ·
                refine t_exit ?_
                refine i_block_exit' rfl ?_
                refine i_then_exit ?_
                refine i_then_exit ?_
                refine i_block_exit' rfl ?_
                refine i_block_exit' rfl ?_
                refine i_then_exit ?_
                refine i_then_exit ?_
                refine i_block_exit' rfl ?_
                refine i_then_exit ?_
                refine i_block_exit' rfl ?_
                refine i_then_exit ?_
                refine i_then_exit ?_
                refine i_block_exit rfl ?_
                refine i_then ?_
                refine t_seq ?_
                refine t_seq ?_
                obtain ⟨v, st, e1, e2, e3, hFd⟩ := u.2.hit hN hG hzn hun hc4 hc5
                obtain ⟨T, p, hC, p1, p2, p3, hX⟩ := hFd.cyc hN
                refine t_asC (tg := 25) rfl (Cont.sub_vec e2) ?_
                refine t_as (s := 9) rfl (Ty.sub_int e3) ?_
                refine t_region ?_
                refine mvI rfl ?_
                refine mvI rfl ?_
                refine r_nil ?_
                refine i_then ?_
                refine t_block ?_
                refine t_loop (fun (i : {i : Nat // i ≤ (y.cells + 1)}) => live [(0, Ty.pp (deskS y fl 1000 fl.length)), (5, Ty.int .i64 ((y.cells + 1) : Nat)), (7, Ty.vs 25 (y.cells + 1)), (9, Ty.int .i64 ((itN (prevN fl st) i.1 v : Nat) : Int)), (87, Ty.int .i64 ((y.cells + 1) : Nat)), (88, Ty.int .i64 ((i.1 : Nat) : Int))] [(1000, Cont.vec I64 3 a), (25, Cont.vec WayE 199 st.by_)]) (fun i => (y.cells + 1) - i.1) (⟨0, by omega⟩) ?_ fun i => ?_
                · (refine Ent.mk' ?_ ?_ <;> (repeat' (first | exact allSub_zero | exact allTags_nil | refine allSub_succ' ?_ (Ty.sub_any _) | refine allSub_succ' ?_ (Ty.sub_refl _) | refine allTags_cons rfl (Cont.sub_refl _) ?_)))
                ·
                  refine t_seq ?_
                  refine t_region ?_
                  refine r_bin rfl rfl rfl ?_
                  refine r_nil ?_
                  refine i_then ?_
                  refine t_seq ?_
                  refine t_cond_dec rfl (fun hc6 => ?_) (fun hc6 => ?_)
                  ·
                    refine t_skip ?_
                    refine i_then ?_
                    refine t_seq ?_
                    refine t_block ?_
                    have hch := hFd.chain hN (k := i.1) (by omega)
                    have hbl := hFd.len
                    refine t_region ?_
                    refine mvP rfl ?_
                    refine mvV rfl ?_
                    refine mvI rfl ?_
                    refine r_index_vs rfl rfl rfl rfl rfl (by omega) ?_
                    refine r_load_vecE (itN (prevN fl st) i.1 v) rfl rfl rfl (by decide) rfl rfl rfl (by omega) ?_
                    refine r_callLC [1000] (c_begin y fl a (nth st.by_ (itN (prevN fl st) i.1 v)) hch.2.1.1) rfl (lendcs_cons (lendc_pp (lendcs_cons (lendc_of (lend_pub rfl rfl)) (lendcs_cons (lendc_of (lend_pub rfl rfl)) (lendcs_cons (lendc_of (lend_pub rfl rfl)) (lendcs_cons (lendc_of (lend_pub rfl rfl)) (lendcs_cons (lendc_of (lend_pub rfl rfl)) (lendcs_cons (lendc_vs rfl hal (by decide) rfl) lendcs_nil))))))) (lendcs_cons (lendc_of (lend_pub rfl rfl)) lendcs_nil)) (by exact plain_int _ _) ?_
                    refine asI rfl ?_
                    refine r_nil ?_
                    refine i_block ?_
                    refine i_then ?_
                    refine t_region ?_
                    refine r_add rfl rfl (by omega) (by omega) ?_
                    refine mvI rfl ?_
                    refine r_nil ?_
                    refine i_round (⟨i.1 + 1, by omega⟩) ?_ (by show (y.cells + 1) - (i.1 + 1) < (y.cells + 1) - i.1; omega)
                    (refine Ent.mk' ?_ ?_ <;> (repeat' (first | exact allSub_zero | exact allTags_nil | refine allSub_succ' ?_ (Ty.sub_any _) | refine allSub_succ' ?_ (Ty.sub_refl _) | refine allTags_cons rfl (Cont.sub_refl _) ?_ | refine allSub_succ' ?_ ?_)))
                    all_goals skip
                    all_goals exact Ty.sub_int hch.2.2
                  ·
                    refine t_exit ?_
                    refine i_then_exit ?_
                    refine i_then_exit ?_
                    refine i_block_exit rfl ?_
                    refine i_then ?_
                    refine t_seq ?_
                    have hbl := hFd.len
                    have hin : i.1 = (y.cells + 1) := by have := i.2; omega
                    refine t_as (s := 9) rfl (Ty.sub_int (by rw [hin] : _ = ((itN (prevN fl st) (y.cells + 1) v : Nat) : Int))) ?_
                    refine t_region ?_
                    refine asX rfl ?_
                    refine r_nil ?_
                    refine i_then ?_
                    refine t_seq ?_
                    refine t_seq ?_
                    refine t_region ?_
                    refine mvI rfl ?_
                    refine asI rfl ?_
                    refine r_nil ?_
                    refine i_then ?_
                    refine t_block ?_
                    refine t_loop (fun (c : {c : Nat × List Way // CIx fl a (y.cells + 1) st (itN (prevN fl st) (y.cells + 1) v) p c}) => live [(0, Ty.pp (deskS y fl 1000 fl.length)), (7, Ty.vs 25 (y.cells + 1)), (9, Ty.int .i64 ((itN (prevN fl st) (y.cells + 1) v : Nat) : Int)), (16, Ty.row WayE 199 118 c.1.2), (17, Ty.int .i64 ((c.1.1 : Nat) : Int))] [(1000, Cont.vec I64 3 a), (25, Cont.vec WayE 199 st.by_)]) (fun c => p - c.1.2.length) (⟨(itN (prevN fl st) (y.cells + 1) v, []), hX⟩) ?_ fun c => ?_
                    · (refine Ent.mk' ?_ ?_ <;> (repeat' (first | exact allSub_zero | exact allTags_nil | refine allSub_succ' ?_ (Ty.sub_any _) | refine allSub_succ' ?_ (Ty.sub_refl _) | refine allSub_succ' ?_ Ty.nil_row | refine allTags_cons rfl (Cont.sub_refl _) ?_)))
                      all_goals trace_state
                    ·
                      have hcx := c.2.at_
                      have hci : c.1.2.length ≤ p := by obtain ⟨i, i1, _, i3⟩ := c.2.ix; omega
                      refine t_seq ?_
                      refine t_seq ?_
                      refine t_region ?_
                      refine mvR rfl ?_
                      refine r_len_row rfl rfl rfl ?_
                      refine r_bin rfl rfl rfl ?_
                      refine mvB rfl ?_
                      apply r_guard (s := 101) rfl rfl rfl
                      · intro hg; apply opT_of; (refine mvI rfl ?_); refine r_nil ?_; exact rfl
                      · exact rfl
                      · exact rfl
                      apply r_guard (s := 101) rfl rfl rfl
                      · intro hg; apply opT_of; (refine mvI rfl ?_); refine r_nil ?_; exact rfl
                      · exact rfl
                      · exact rfl
                      apply r_guard (s := 101) rfl rfl rfl
                      · intro hg; apply opT_strip (s := 102) rfl (by (rw [hg]; rfl)); apply opT_strip (s := 103) rfl (by (rw [hg]; rfl)); apply opT_of; (refine r_bin rfl rfl rfl ?_); refine r_nil ?_; exact rfl
                      · exact rfl
                      · exact rfl
                      refine r_or rfl rfl ?_
                      refine r_nil ?_
                      refine i_then ?_
                      refine t_cond rfl (fun hc7 => ?_) (fun hc7 => ?_)
                      ·
                        refine t_skip ?_
                        refine i_then ?_
                        refine t_seq ?_
                        refine t_block ?_
                        refine t_region ?_
                        refine mvR rfl ?_
                        refine mvV rfl ?_
                        refine mvI rfl ?_
                        refine r_index_vs rfl rfl rfl rfl rfl (by omega) ?_
                        refine r_load_vecE c.1.1 rfl rfl rfl (by decide) rfl rfl rfl (by omega) ?_
                        refine r_buildSlice (E := WayE) (xs := [_]) rfl rfl rfl rfl rfl (by decide) (by decide) (by repeat (first | exact (Parts.nil : Parts _ _ [] _) | (show Parts _ _ ((_, _) :: _) _; apply Parts.agg; (· exact (rfl : _ = Ty.agg _))))) (by exact rfl) rfl ?_
                        refine r_append rfl rfl (by decide) rfl rfl rfl rfl rfl rfl (by decide) (by (simp <;> omega)) (by (simp <;> omega)) ?_
                        refine asR rfl ?_
                        refine r_nil ?_
                        refine i_block ?_
                        refine i_then ?_
                        refine t_region ?_
                        refine mvP rfl ?_
                        refine mvV rfl ?_
                        refine mvI rfl ?_
                        refine r_index_vs rfl rfl rfl rfl rfl (by omega) ?_
                        refine r_load_vecE c.1.1 rfl rfl rfl (by decide) rfl rfl rfl (by omega) ?_
                        refine r_callLC [1000] (c_begin y fl a (nth st.by_ c.1.1) hcx.2.1.1) rfl (lendcs_cons (lendc_pp (lendcs_cons (lendc_of (lend_pub rfl rfl)) (lendcs_cons (lendc_of (lend_pub rfl rfl)) (lendcs_cons (lendc_of (lend_pub rfl rfl)) (lendcs_cons (lendc_of (lend_pub rfl rfl)) (lendcs_cons (lendc_of (lend_pub rfl rfl)) (lendcs_cons (lendc_vs rfl hal (by decide) rfl) lendcs_nil))))))) (lendcs_cons (lendc_of (lend_pub rfl rfl)) lendcs_nil)) (by exact plain_int _ _) ?_
                        refine asI rfl ?_
                        refine r_nil ?_
                        refine i_round (⟨(prevN fl st c.1.1, c.1.2 ++ [nth st.by_ c.1.1]), (c.2.next hN hC p3 p1 (more7 hc7)).1⟩) ?_ (by exact less7 (c.2.next hN hC p3 p1 (more7 hc7)).2)
                        (refine Ent.mk' ?_ ?_ <;> (repeat' (first | exact allSub_zero | exact allTags_nil | refine allSub_succ' ?_ (Ty.sub_any _) | refine allSub_succ' ?_ (Ty.sub_refl _) | refine allTags_cons rfl (Cont.sub_refl _) ?_ | refine allSub_succ' ?_ ?_)))
                        all_goals skip
                        all_goals exact Ty.sub_int hcx.2.2
                      ·
                        refine t_exit ?_
                        refine i_then_exit ?_
                        refine i_then_exit ?_
                        refine i_block_exit rfl ?_
                        refine i_then ?_
                        refine t_seq ?_
                        refine t_region ?_
                        refine mvR rfl ?_
                        refine asR rfl ?_
                        refine r_nil ?_
                        refine i_then ?_
                        refine t_ret ?_
                        refine i_scope_ret ?_
                        refine g_ret1 [1000] rfl rfl (by decide) (by repeat (first | exact rc_nil | refine rc_cons rfl (cc_vec (by decide) rfl) ?_)) ?_
                        all_goals skip
                        all_goals exact rg_nsl_row (by decide) rfl (by rw [hFd.same]; exact c.2.end (end7 hc7)) (by rw [hFd.same]; exact ne7 c.2 (end7 hc7))
              ·
                refine t_skip ?_
                refine i_block ?_
                refine i_then ?_
                refine t_region ?_
                refine r_add rfl rfl (by omega) (by omega) ?_
                refine mvI rfl ?_
                refine r_nil ?_
                refine i_round (⟨(u.1.1 + 1, stepU fl (goalG has less) u.1.2 z.1.1 (nth (waysL fl a z.1.1) u.1.1)), by exact u.2.go_yes hN hG hzn hun hc4 hc5⟩) ?_ (by show (waysL fl a z.1.1).length - (u.1.1 + 1) < (waysL fl a z.1.1).length - u.1.1; omega)
                (refine Ent.mk' ?_ ?_ <;> (repeat' (first | exact allSub_zero | exact allTags_nil | refine allSub_succ' ?_ (Ty.sub_any _) | refine allSub_succ' ?_ (Ty.sub_refl _) | refine allTags_cons rfl (Cont.sub_refl _) ?_ | refine allTags_cons rfl ?_ ?_ | refine allSub_succ' ?_ ?_)))
                all_goals skip
                all_goals first | exact Cont.sub_vec (goU_w hc4) | exact Cont.sub_vec (goU_b hc4) | exact Ty.sub_int (goU_a hc4)
            ·
              refine t_skip ?_
              refine i_block ?_
              refine i_then ?_
              refine t_region ?_
              refine r_add rfl rfl (by omega) (by omega) ?_
              refine mvI rfl ?_
              refine r_nil ?_
              refine i_round (⟨(u.1.1 + 1, stepU fl (goalG has less) u.1.2 z.1.1 (nth (waysL fl a z.1.1) u.1.1)), by exact u.2.go_no hzn hun hc4⟩) ?_ (by show (waysL fl a z.1.1).length - (u.1.1 + 1) < (waysL fl a z.1.1).length - u.1.1; omega)
              (refine Ent.mk' ?_ ?_ <;> (repeat' (first | exact allSub_zero | exact allTags_nil | refine allSub_succ' ?_ (Ty.sub_any _) | refine allSub_succ' ?_ (Ty.sub_refl _) | refine allTags_cons rfl (Cont.sub_refl _) ?_ | refine allTags_cons rfl ?_ ?_ | refine allSub_succ' ?_ ?_)))
              all_goals skip
              all_goals first | exact Cont.sub_vec (goN_w hc4) | exact Cont.sub_vec (goN_b hc4) | exact Ty.sub_int (goN_a hc4)
          ·
            refine t_exit ?_
            refine i_then_exit ?_
            refine i_then_exit ?_
            refine i_block_exit rfl ?_
            refine i_block ?_
            refine i_then ?_
            refine t_region ?_
            refine r_add rfl rfl (by omega) (by omega) ?_
            refine mvI rfl ?_
            refine r_nil ?_
            refine i_round (⟨(z.1.1 + 1, u.1.2), u.2.cell (by show ¬ (y.cells + 1) ≤ z.1.1; omega) (by show (waysL fl a z.1.1).length ≤ u.1.1; omega)⟩) ?_ (by show (y.cells + 1) - (z.1.1 + 1) < (y.cells + 1) - z.1.1; omega)
            (refine Ent.mk' ?_ ?_ <;> (repeat' (first | exact allSub_zero | exact allTags_nil | refine allSub_succ' ?_ (Ty.sub_any _) | refine allSub_succ' ?_ (Ty.sub_refl _) | refine allTags_cons rfl (Cont.sub_refl _) ?_)))
            all_goals skip
      ·
        refine t_exit ?_
        refine i_then_exit ?_
        refine i_then_exit ?_
        refine i_block_exit rfl ?_
        refine i_then ?_
        refine t_seq ?_
        refine t_region ?_
        refine mvI rfl ?_
        refine r_bin rfl rfl rfl ?_
        refine r_nil ?_
        refine i_then ?_
        refine t_cond_dec rfl (fun hc8 => ?_) (fun hc8 => ?_)
        ·
          refine t_seq ?_
          refine t_region ?_
          refine asX rfl ?_
          refine r_nil ?_
          refine i_then ?_
          refine t_ret ?_
          refine i_block_ret ?_
          refine i_then_ret ?_
          refine i_then_ret ?_
          refine i_block_ret ?_
          refine i_then_ret ?_
          refine i_scope_ret ?_
          refine g_ret1 [1000] rfl rfl (by decide) (by repeat (first | exact rc_nil | refine rc_cons rfl (cc_vec (by decide) rfl) ?_)) ?_
          all_goals skip
          all_goals exact rg_nsl_nil (z.2.stop (by show (y.cells + 1) ≤ z.1.1; omega) (by assumption))
        ·
          refine t_skip ?_
          refine i_block ?_
          refine i_then ?_
          refine t_region ?_
          refine r_add rfl rfl (by omega) (by omega) ?_
          refine mvI rfl ?_
          refine r_nil ?_
          refine i_round (⟨(x.1.1 + 1, ⟨z.1.2.worth, z.1.2.by_, -1⟩), z.2.round (by show (y.cells + 1) ≤ z.1.1; omega) (by assumption), rfl⟩) ?_ (by show (y.cells + 1) - (x.1.1 + 1) < (y.cells + 1) - x.1.1; omega)
          (refine Ent.mk' ?_ ?_ <;> (repeat' (first | exact allSub_zero | exact allTags_nil | refine allSub_succ' ?_ (Ty.sub_any _) | refine allSub_succ' ?_ (Ty.sub_refl _) | refine allTags_cons rfl (Cont.sub_refl _) ?_)))
          all_goals skip
end Go.Proofs.YtelbollidfdcjaaGreat

namespace Go.Proofs.YtelbollidfdcjaaGreat
open Go Go.T
set_option maxHeartbeats 16000000
theorem und28 : Tryz.prog.underlying 28 = some (.slice 3) := by kernel_rfl
theorem und222 : Tryz.prog.underlying 222 = some (.slice 199) := by kernel_rfl
section
variable {y : Yard} {fl : List Flow} {a : List Int} {n : Nat} {has : Nat → Bool} {xs : List Int}
theorem gix0 {G : Nat → Int} (h : Feas fl n a) : GIx fl n G a a := ⟨h, rfl⟩
theorem kept_in2 {c : Nat → Bool} {b : Nat} (hl : a.length = (flowsY y c).length) (hb : b < y.bins.length) : y.kept b 0 < a.length := by rw [hl]; exact kept_in hb (Nat.zero_le _)
theorem has_end {x : List Int} {i k : Nat} (h : i = k) : hasUp has x i = hasUp has x k := by rw [h]
theorem hasV_up (fl : List Flow) (has : Nat → Bool) (x : List Int) : hasUp has x fl.length = hasV fl has x := rfl
theorem span_eq (hN : Net fl n) (hn : 0 < n) (hB : Bd fl) (h : Feas fl n a) : (⟨hasV fl has (bestM fl n (goalG has true) a), hasV fl has (bestM fl n (goalG has false) (loA fl n has a))⟩ : Span) = spanU fl n has := (span_of hN hn hB h).2.2.eq.symm
def firstK (y : Yard) (a : List Int) (k : Nat) : List Int := (List.range k).map fun b => nth a (y.kept b 0)
theorem firstK_snoc (k : Nat) : firstK y a k ++ [nth a (y.kept k 0)] = firstK y a (k + 1) := by unfold firstK; rw [List.range_succ, List.map_append]; rfl
theorem firstK_zero : firstK y a 0 = [] := rfl
theorem firstK_len (k : Nat) : (firstK y a k).length = k := by unfold firstK; rw [List.length_map, List.length_range]
theorem told_eq (y : Yard) (a : List Int) : (⟨firstK y a y.bins.length, a.drop (y.bins.length * (y.D + 1))⟩ : Amts) = toldY y a := rfl
theorem nil_rowV (h : xs = []) : (Ty.ofVal (.slice none 0 0)).Sub (Ty.row I64 3 26 xs) := by subst h; exact Ty.nil_row
theorem lo_eq (fl : List Flow) (n : Nat) (has : Nat → Bool) (a : List Int) : bestM fl n (goalG has true) a = loA fl n has a := rfl
theorem hi_eq (fl : List Flow) (n : Nat) (has : Nat → Bool) (a : List Int) : bestM fl n (goalG has false) (loA fl n has a) = hiA fl n has a := rfl
end
attribute [local irreducible] flowsY loL Way.beg Way.fin Way.room waysQ sendM overUp overL over waysL reachM hasM lackM lackB mostL pathM sendS stuckM settleM leastL addW goalG betterM bestM cycM roundM hasUp hasV spanU loA hiA firstK Yard.kept
attribute [local irreducible] dInt dBool dSl dPp dPtr dAgg dTup dClo dAny dEx dStr dGd dCells dVec dVs dRow dOp nth Tri Into TOps Ctr bodyPost Exit.then Exit.inBlock Code.wp Code.wpIn dWhen dPa dPe dAo dArr dMp dPm dMap dCJ CtrG CtrI OpY keepPost iterPost bodyPostM roundQ
set_option maxRecDepth 100000 in
theorem c_Clone_int (l : List Int) (h : l.length ≤ 1000) : Ctr Tryz.prog 172 [Ty.sl I64 l] (Ty.sl I64 l) := by
  refine fn_intro Tryz.func172 rfl (by decide) Tryz.ntmps172 (by exact Nat.le_of_ble_eq_true rfl) fun w0 M0 => ?_
  refine t_seq ?_
  refine t_region ?_
  refine asX rfl ?_
  refine r_nil ?_
  refine i_then ?_
  refine t_seq ?_
  refine t_seq ?_
  refine t_region ?_
  refine mvS rfl ?_
  refine r_eqnil und28 rfl ?_
  refine r_nil ?_
  refine i_then ?_
  refine t_cond_nb rfl (fun hc1 => ?_) (fun hc1 => ?_)
  ·
    refine t_seq ?_
    refine t_region ?_
    refine asX rfl ?_
    refine r_nil ?_
    refine i_then ?_
    refine t_ret ?_
    refine i_then_ret ?_
    refine i_rp1 rfl rfl ?_
    all_goals skip
    exact ret_nil_eq hc1
  ·
    refine t_skip ?_
    refine i_then ?_
    refine t_seq ?_
    refine t_region ?_
    refine r_buildRow (E := I64) rfl rfl rfl rfl ?_
    refine mvS rfl ?_
    refine r_append rfl rfl (by decide) rfl rfl rfl rfl rfl rfl (by decide) (by (simp <;> omega)) (by (simp <;> omega)) ?_
    refine asR rfl ?_
    refine r_nil ?_
    refine i_then ?_
    refine t_ret ?_
    refine i_rp1 rfl rfl ?_
    all_goals exact ret_row (by decide)
    skip
set_option maxRecDepth 100000 in
theorem k_best (y : Yard) (fl : List Flow) (a : List Int) (h : Fine y fl a) (hfe : Feas fl (y.cells + 1) a) (th : Ty) (h1 : th.deps = []) (h2 : th.cdeps = []) (has : Nat → Bool) (hf : ∀ i, i < fl.length → Cal Tryz.prog (Ty.nd th h1 h2) [Ty.int .i64 ((i : Nat) : Int)] (Ty.bool (has i))) (less : Bool) : CtrG Tryz.prog 164 [1000] [(1000, Cont.vec I64 3 a)] [Ty.pp (deskS y fl 1000 fl.length), Ty.agg [Ty.nd th h1 h2, Ty.bool less]] [(1000, Cont.vec I64 3 (bestM fl (y.cells + 1) (goalG has less) a))] (Ty.int .i64 (hasV fl has (bestM fl (y.cells + 1) (goalG has less) a))) := by
  refine fnG_intro Tryz.func164 rfl (by decide) Tryz.ntmps164 (by exact Nat.le_of_ble_eq_true rfl) fun w0 M0 => ?_
  have hN := h.net
  have hfl := h.few
  have hcl := cells_le h.right
  have hG := goalG_le (has := has) less
  have hn : 0 < (y.cells + 1) := Nat.succ_pos _
  refine t_seq ?_
  refine t_region ?_
  refine r_box_agg rfl ?_
  refine asI rfl ?_
  refine r_nil ?_
  refine i_then ?_
  refine t_seq ?_
  refine t_block ?_
  refine t_loop (fun (b : {b : List Int // GIx fl (y.cells + 1) (goalG has less) a b}) => live [(0, Ty.pp (deskS y fl 1000 fl.length)), (3, Ty.pp [Ty.nd th h1 h2, Ty.bool less])] [(1000, Cont.vec I64 3 b.1)]) (fun b => (300 * fl.length - goalV fl (goalG has less) b.1).toNat) (⟨a, gix0 hfe⟩) ?_ fun b => ?_
  · (refine Ent.mk' ?_ ?_ <;> (repeat' (first | exact allSub_zero | exact allTags_nil | refine allSub_succ' ?_ (Ty.sub_any _) | refine allSub_succ' ?_ (Ty.sub_refl _) | refine allTags_cons rfl (Cont.sub_refl _) ?_)))
  ·
    have hF : Fine y fl b.1 := ⟨h.right, h.net, h.bd, b.2.feas.1, h.few⟩
    have hal := hF.inb.1
    refine t_block ?_
    refine t_seq ?_
    refine t_region ?_
    refine mvP rfl ?_
    refine r_load_ppN rfl rfl rfl (by exact Nat.le_of_ble_eq_true rfl) ?_
    refine r_callG [(1000, 1000)] [] [(1000, Cont.vec I64 3 b.1)] (k_better y fl b.1 hF th h1 h2 has hf less) rfl rfl (cv_cons (cv_cons cv_nil (cv_pub rfl rfl)) (cv_pp (cv_cons (cv_cons (cv_cons (cv_cons (cv_cons (cv_cons cv_nil (cv_vs (by exact List.mem_cons_self))) (cv_pub rfl rfl)) (cv_pub rfl rfl)) (cv_pub rfl rfl)) (cv_pub rfl rfl)) (cv_pub rfl rfl)))) (pre_cons (a := 1000) (b := 1000) (by exact List.mem_cons_self) rfl (cc_vec (by exact List.mem_cons_self) rfl) pre_nil) (post_cons (a := 1000) (b := 1000) (by decide) rfl (cc_vec (by decide) rfl) post_nil) (cv_pub rfl rfl) ?_
    refine asN rfl ?_
    refine r_nil ?_
    refine i_then ?_
    refine t_seq ?_
    refine t_seq ?_
    refine t_region ?_
    refine mvN rfl ?_
    refine r_eqnilN und222 rfl ?_
    refine r_nil ?_
    refine i_then ?_
    refine t_cond rfl (fun hc1 => ?_) (fun hc1 => ?_)
    ·
      refine t_exit ?_
      refine i_then_exit ?_
      refine i_block_exit' rfl ?_
      refine i_then_exit ?_
      refine i_block_exit rfl ?_
      refine i_then ?_
      refine t_seq ?_
      have hb : b.1 = (bestM fl (y.cells + 1) (goalG has less) a) := b.2.done (List.isEmpty_iff.1 hc1)
      have hF2 : Fine y fl (bestM fl (y.cells + 1) (goalG has less) a) := by rw [← hb]; exact hF
      have hal2 := hF2.inb.1
      refine t_asC (tg := 1000) rfl (Cont.sub_vec hb) ?_
      refine t_region ?_
      refine asI rfl ?_
      refine r_nil ?_
      refine i_then ?_
      refine t_seq ?_
      refine t_seq ?_
      refine t_region ?_
      refine mvP rfl ?_
      refine r_nilCheck_pp rfl ?_
      refine r_field_pp rfl rfl rfl rfl rfl (by decide) ?_
      refine r_load_pp rfl rfl rfl rfl ?_
      refine r_len_vs rfl rfl rfl ?_
      refine mvI rfl ?_
      refine r_nil ?_
      refine i_then ?_
      refine t_block ?_
      refine t_loop (fun (i : {i : Nat // i ≤ fl.length}) => live [(0, Ty.pp (deskS y fl 1000 fl.length)), (3, Ty.pp [Ty.nd th h1 h2, Ty.bool less]), (11, Ty.int .i64 (hasUp has (bestM fl (y.cells + 1) (goalG has less) a) i.1)), (43, Ty.vs 1000 fl.length), (44, Ty.int .i64 fl.length), (45, Ty.int .i64 (i.1 : Nat))] [(1000, Cont.vec I64 3 (bestM fl (y.cells + 1) (goalG has less) a))]) (fun i => fl.length - i.1) (⟨0, by omega⟩) ?_ fun i => ?_
      · (refine Ent.mk' ?_ ?_ <;> (repeat' (first | exact allSub_zero | exact allTags_nil | refine allSub_succ' ?_ (Ty.sub_any _) | refine allSub_succ' ?_ (Ty.sub_refl _) | refine allTags_cons rfl (Cont.sub_refl _) ?_ | refine allSub_succ' ?_ ?_)))
        all_goals exact Ty.sub_int (by unfold hasUp; rfl)
      ·
        have hi := i.2
        have hup := hasUp_abs (has := has) (x := (bestM fl (y.cells + 1) (goalG has less) a)) (k := i.1) fun q hq => (hF2.amt (by omega)).1
        refine t_seq ?_
        refine t_region ?_
        refine r_bin rfl rfl rfl ?_
        refine r_nil ?_
        refine i_then ?_
        refine t_seq ?_
        refine t_cond_dec rfl (fun hc2 => ?_) (fun hc2 => ?_)
        ·
          refine t_skip ?_
          refine i_then ?_
          refine t_seq ?_
          refine t_block ?_
          refine t_seq ?_
          refine t_region ?_
          refine mvI rfl ?_
          refine r_index_vs rfl rfl rfl rfl rfl (by omega) ?_
          refine r_load_vecB rfl rfl rfl (by decide) rfl rfl (by omega) rfl ?_
          refine asI rfl ?_
          refine asI rfl ?_
          refine r_nil ?_
          refine i_then ?_
          refine t_seq ?_
          have hai := (hF2.amt (show i.1 < fl.length by omega)).1
          refine t_region ?_
          refine r_field_pp rfl rfl rfl rfl rfl (by decide) ?_
          refine r_load_pp rfl rfl rfl rfl ?_
          refine mvI rfl ?_
          refine r_callc rfl (hf i.1 (by omega)) rfl ?_
          refine r_nil ?_
          refine i_then ?_
          refine t_cond rfl (fun hc3 => ?_) (fun hc3 => ?_)
          ·
            refine t_region ?_
            refine mvI rfl ?_
            refine mvI rfl ?_
            refine r_add rfl rfl (by omega) (by omega) ?_
            refine asI rfl ?_
            refine r_nil ?_
            refine i_block ?_
            refine i_then ?_
            refine t_region ?_
            refine r_add rfl rfl (by omega) (by omega) ?_
            refine mvI rfl ?_
            refine r_nil ?_
            refine i_round (⟨i.1 + 1, by omega⟩) ?_ (by show fl.length - (i.1 + 1) < fl.length - i.1; omega)
            (refine Ent.mk' ?_ ?_ <;> (repeat' (first | exact allSub_zero | exact allTags_nil | refine allSub_succ' ?_ (Ty.sub_any _) | refine allSub_succ' ?_ (Ty.sub_refl _) | refine allTags_cons rfl (Cont.sub_refl _) ?_ | refine allSub_succ' ?_ ?_)))
            all_goals skip
            all_goals exact Ty.sub_int (hasUp_yes hc3)
          ·
            refine t_skip ?_
            refine i_block ?_
            refine i_then ?_
            refine t_region ?_
            refine r_add rfl rfl (by omega) (by omega) ?_
            refine mvI rfl ?_
            refine r_nil ?_
            refine i_round (⟨i.1 + 1, by omega⟩) ?_ (by show fl.length - (i.1 + 1) < fl.length - i.1; omega)
            (refine Ent.mk' ?_ ?_ <;> (repeat' (first | exact allSub_zero | exact allTags_nil | refine allSub_succ' ?_ (Ty.sub_any _) | refine allSub_succ' ?_ (Ty.sub_refl _) | refine allTags_cons rfl (Cont.sub_refl _) ?_ | refine allSub_succ' ?_ ?_)))
            all_goals skip
            all_goals exact Ty.sub_int (hasUp_no hc3)
        ·
          refine t_exit ?_
          refine i_then_exit ?_
          refine i_then_exit ?_
          refine i_block_exit rfl ?_
          refine i_then ?_
          refine t_seq ?_
          refine t_region ?_
          refine mvI rfl ?_
          refine asI rfl ?_
          refine r_nil ?_
          refine i_then ?_
          refine t_ret ?_
          refine g_ret1 [1000] rfl rfl (by decide) (by repeat (first | exact rc_nil | refine rc_cons rfl (cc_vec (by decide) rfl) ?_)) ?_
          all_goals skip
          all_goals exact rg_cv (cv_eq rfl rfl (congrArg (Ty.int .i64) ((has_end (by have := i.2; omega)).trans (hasV_up fl has _))))
    ·
      refine t_skip ?_
      refine i_then ?_
      refine t_seq ?_
      refine t_as (s := 5) rfl (show (Ty.nsl WayE (betterM fl b.1 (y.cells + 1) (goalG has less))).Sub (Ty.sl WayE (betterM fl b.1 (y.cells + 1) (goalG has less))) from Ty.nsl_sl) ?_
      have hne : ¬ (betterM fl b.1 (y.cells + 1) (goalG has less)) = [] := fun e => by rw [e] at hc1; cases hc1
      have hnx := b.2.next hN hn h.bd hG hne
      have hC := hnx.2.2
      have hlen := hC.few
      refine t_region ?_
      refine asI rfl ?_
      refine r_nil ?_
      refine i_then ?_
      refine t_seq ?_
      refine t_seq ?_
      refine t_region ?_
      refine mvS rfl ?_
      refine r_len rfl rfl rfl ?_
      refine mvI rfl ?_
      refine r_nil ?_
      refine i_then ?_
      refine t_block ?_
      refine t_loop (fun (j : {j : Nat // j ≤ (betterM fl b.1 (y.cells + 1) (goalG has less)).length}) => live [(0, Ty.pp (deskS y fl 1000 fl.length)), (3, Ty.pp [Ty.nd th h1 h2, Ty.bool less]), (5, Ty.sl WayE (betterM fl b.1 (y.cells + 1) (goalG has less))), (6, Ty.int .i64 (mostL fl b.1 300 ((betterM fl b.1 (y.cells + 1) (goalG has less)).take j.1))), (19, Ty.sl WayE (betterM fl b.1 (y.cells + 1) (goalG has less))), (20, Ty.int .i64 (betterM fl b.1 (y.cells + 1) (goalG has less)).length), (21, Ty.int .i64 (j.1 : Nat))] [(1000, Cont.vec I64 3 b.1)]) (fun j => (betterM fl b.1 (y.cells + 1) (goalG has less)).length - j.1) (⟨0, by omega⟩) ?_ fun j => ?_
      · (refine Ent.mk' ?_ ?_ <;> (repeat' (first | exact allSub_zero | exact allTags_nil | refine allSub_succ' ?_ (Ty.sub_any _) | refine allSub_succ' ?_ (Ty.sub_refl _) | refine allTags_cons rfl (Cont.sub_refl _) ?_ | refine allSub_succ' ?_ ?_)))
        all_goals exact Ty.sub_int (mostL_zero _ _ _)
      ·
        have hj := j.2
        refine t_seq ?_
        refine t_region ?_
        refine r_bin rfl rfl rfl ?_
        refine r_nil ?_
        refine i_then ?_
        refine t_seq ?_
        refine t_cond_dec rfl (fun hc4 => ?_) (fun hc4 => ?_)
        ·
          refine t_skip ?_
          refine i_then ?_
          refine t_seq ?_
          refine t_block ?_
          refine t_seq ?_
          refine t_region ?_
          refine r_index_slN rfl rfl rfl rfl rfl rfl (by omega) ?_
          refine r_load_ppN rfl rfl rfl (by exact Nat.le_of_ble_eq_true rfl) ?_
          refine r_alloc rfl (by exact List.cons_ne_nil _ _) rfl ?_
          refine r_storeN rfl rfl (by decide) rfl rfl rfl rfl rfl rfl ?_
          refine r_nil ?_
          refine i_then ?_
          refine t_seq ?_
          have hwj := hC.ways _ (nth_mem (xs := (betterM fl b.1 (y.cells + 1) (goalG has less))) (k := j.1) (by omega))
          refine t_region ?_
          refine mvP rfl ?_
          refine r_load_ptrN rfl rfl (by decide) rfl rfl (by exact Nat.le_of_ble_eq_true rfl) ?_
          refine r_callLC [1000] (c_end y fl b.1 hF (nth (betterM fl b.1 (y.cells + 1) (goalG has less)) j.1) hwj.1) rfl (lendcs_cons (lendc_pp (lendcs_cons (lendc_of (lend_pub rfl rfl)) (lendcs_cons (lendc_of (lend_pub rfl rfl)) (lendcs_cons (lendc_of (lend_pub rfl rfl)) (lendcs_cons (lendc_of (lend_pub rfl rfl)) (lendcs_cons (lendc_of (lend_pub rfl rfl)) (lendcs_cons (lendc_vs rfl hal (by decide) rfl) lendcs_nil))))))) (lendcs_cons (lendc_of (lend_pub rfl rfl)) lendcs_nil)) (by exact plain_tup (by repeat (first | exact plain_nil | refine plain_cons (by exact plain_int _ _) ?_))) ?_
          refine mvT rfl ?_
          refine r_extract rfl rfl ?_
          refine r_extract rfl rfl ?_
          refine asI rfl ?_
          refine asI rfl ?_
          refine r_nil ?_
          refine i_then ?_
          refine t_region ?_
          refine mvI rfl ?_
          refine mvI rfl ?_
          refine r_buildSlice (E := I64) (xs := [_]) rfl rfl rfl rfl rfl (by decide) (by decide) (by repeat (first | exact (Parts.nil : Parts _ _ [] _) | (show Parts _ _ ((_, _) :: _) _; apply Parts.one; (· exact (rfl : _ = Ty.int _ _)); (· exact rfl)))) (by exact rfl) rfl ?_
          refine r_call (c_least _ _) rfl rfl rfl rfl rfl ?_
          refine asI rfl ?_
          refine r_nil ?_
          refine i_block ?_
          refine i_then ?_
          refine t_region ?_
          refine r_add rfl rfl (by omega) (by omega) ?_
          refine mvI rfl ?_
          refine r_nil ?_
          refine i_round (⟨j.1 + 1, by omega⟩) ?_ (by show (betterM fl b.1 (y.cells + 1) (goalG has less)).length - (j.1 + 1) < (betterM fl b.1 (y.cells + 1) (goalG has less)).length - j.1; omega)
          (refine Ent.mk' ?_ ?_ <;> (repeat' (first | exact allSub_zero | exact allTags_nil | refine allSub_succ' ?_ (Ty.sub_any _) | refine allSub_succ' ?_ (Ty.sub_refl _) | refine allTags_cons rfl (Cont.sub_refl _) ?_ | refine allSub_succ' ?_ ?_)))
          all_goals skip
          all_goals exact Ty.sub_int (by rw [take_nth (by omega)]; exact least_snoc)
        ·
          refine t_exit ?_
          refine i_then_exit ?_
          refine i_then_exit ?_
          refine i_block_exit rfl ?_
          refine i_then ?_
          have hmp := mostL_pos (fl := fl) (a := b.1) (m := 300) (by decide) (betterM fl b.1 (y.cells + 1) (goalG has less)) hC.ways
          have hml := (mostL_le (fl := fl) (a := b.1) 300 (betterM fl b.1 (y.cells + 1) (goalG has less))).1
          refine t_as (s := 6) rfl (Ty.sub_int (by rw [List.take_of_length_le (by omega)] : _ = mostL fl b.1 300 (betterM fl b.1 (y.cells + 1) (goalG has less)))) ?_
          refine t_region ?_
          refine mvP rfl ?_
          refine mvS rfl ?_
          refine mvI rfl ?_
          refine r_callG [(1000, 1000)] [] [(1000, Cont.vec I64 3 (sendM b.1 (betterM fl b.1 (y.cells + 1) (goalG has less)) (mostL fl b.1 300 (betterM fl b.1 (y.cells + 1) (goalG has less)))))] (k_send y fl b.1 hF (betterM fl b.1 (y.cells + 1) (goalG has less)) (by omega) (fun w hw => (hC.ways w hw).1) (mostL fl b.1 300 (betterM fl b.1 (y.cells + 1) (goalG has less))) (by omega)) rfl rfl (cv_cons (cv_cons (cv_cons cv_nil (cv_pub rfl rfl)) (cv_pub rfl rfl)) (cv_pp (cv_cons (cv_cons (cv_cons (cv_cons (cv_cons (cv_cons cv_nil (cv_vs (by exact List.mem_cons_self))) (cv_pub rfl rfl)) (cv_pub rfl rfl)) (cv_pub rfl rfl)) (cv_pub rfl rfl)) (cv_pub rfl rfl)))) (pre_cons (a := 1000) (b := 1000) (by exact List.mem_cons_self) rfl (cc_vec (by exact List.mem_cons_self) rfl) pre_nil) (post_cons (a := 1000) (b := 1000) (by decide) rfl (cc_vec (by decide) rfl) post_nil) (cv_pub rfl rfl) ?_
          refine r_nil ?_
          refine i_block ?_
          refine i_round (⟨sendM b.1 (betterM fl b.1 (y.cells + 1) (goalG has less)) (mostL fl b.1 300 (betterM fl b.1 (y.cells + 1) (goalG has less))), hnx.1⟩) ?_ (by exact hnx.2.1)
          (refine Ent.mk' ?_ ?_ <;> (repeat' (first | exact allSub_zero | exact allTags_nil | refine allSub_succ' ?_ (Ty.sub_any _) | refine allSub_succ' ?_ (Ty.sub_refl _) | refine allTags_cons rfl (Cont.sub_refl _) ?_)))
          all_goals skip
set_option maxRecDepth 100000 in
theorem k_span (y : Yard) (fl : List Flow) (a : List Int) (h : Fine y fl a) (hfe : Feas fl (y.cells + 1) a) (th : Ty) (h1 : th.deps = []) (h2 : th.cdeps = []) (has : Nat → Bool) (hf : ∀ i, i < fl.length → Cal Tryz.prog (Ty.nd th h1 h2) [Ty.int .i64 ((i : Nat) : Int)] (Ty.bool (has i))) (ho : th.one = true) : CtrG Tryz.prog 87 [1000] [(1000, Cont.vec I64 3 a)] [Ty.pp (deskS y fl 1000 fl.length), Ty.nd th h1 h2] [(1000, Cont.vec I64 3 (hiA fl (y.cells + 1) has a))] (Ty.agg (SpanE.tys (spanU fl (y.cells + 1) has))) := by
  refine fnG_intro Tryz.func87 rfl (by decide) Tryz.ntmps87 (by exact Nat.le_of_ble_eq_true rfl) fun w0 M0 => ?_
  have hsp := span_of (has := has) h.net (Nat.succ_pos _) h.bd hfe
  have hF : Fine y fl (loA fl (y.cells + 1) has a) := ⟨h.right, h.net, h.bd, hsp.1.1, h.few⟩
  refine t_seq ?_
  refine t_region ?_
  refine r_alloc rfl (by exact List.cons_ne_nil _ _) rfl ?_
  refine r_nil ?_
  refine i_then ?_
  refine t_seq ?_
  refine t_region ?_
  refine mvP rfl ?_
  refine r_move (ty := Ty.nd th h1 h2) rfl ?_
  refine r_build rfl rfl (by exact List.cons_ne_nil _ _) rfl (Parts.one (ty := Ty.nd th h1 h2) rfl ho (Parts.one (ty := Ty.bool true) rfl rfl Parts.nil)) (by exact (rfl : _ = some [_, _])) ?_
  refine r_callG [(1000, 1000)] [] [(1000, Cont.vec I64 3 (loA fl (y.cells + 1) has a))] (k_best y fl a h hfe th h1 h2 has hf true) rfl rfl (cv_cons (cv_cons cv_nil (cv_pub rfl rfl)) (cv_pp (cv_cons (cv_cons (cv_cons (cv_cons (cv_cons (cv_cons cv_nil (cv_vs (by exact List.mem_cons_self))) (cv_pub rfl rfl)) (cv_pub rfl rfl)) (cv_pub rfl rfl)) (cv_pub rfl rfl)) (cv_pub rfl rfl)))) (pre_cons (a := 1000) (b := 1000) (by exact List.mem_cons_self) rfl (cc_vec (by exact List.mem_cons_self) rfl) pre_nil) (post_cons (a := 1000) (b := 1000) (by decide) rfl (cc_vec (by decide) (lo_eq _ _ _ _)) post_nil) (cv_pub rfl rfl) ?_
  refine asI rfl ?_
  refine r_nil ?_
  refine i_then ?_
  refine t_seq ?_
  refine t_region ?_
  refine mvI rfl ?_
  refine mvP rfl ?_
  refine r_move (ty := Ty.nd th h1 h2) rfl ?_
  refine r_build rfl rfl (by exact List.cons_ne_nil _ _) rfl (Parts.one (ty := Ty.nd th h1 h2) rfl ho (Parts.one (ty := Ty.bool false) rfl rfl Parts.nil)) (by exact (rfl : _ = some [_, _])) ?_
  refine r_callG [(1000, 1000)] [] [(1000, Cont.vec I64 3 (hiA fl (y.cells + 1) has a))] (k_best y fl (loA fl (y.cells + 1) has a) hF hsp.1 th h1 h2 has hf false) rfl rfl (cv_cons (cv_cons cv_nil (cv_pub rfl rfl)) (cv_pp (cv_cons (cv_cons (cv_cons (cv_cons (cv_cons (cv_cons cv_nil (cv_vs (by exact List.mem_cons_self))) (cv_pub rfl rfl)) (cv_pub rfl rfl)) (cv_pub rfl rfl)) (cv_pub rfl rfl)) (cv_pub rfl rfl)))) (pre_cons (a := 1000) (b := 1000) (by exact List.mem_cons_self) rfl (cc_vec (by exact List.mem_cons_self) rfl) pre_nil) (post_cons (a := 1000) (b := 1000) (by decide) rfl (cc_vec (by decide) (hi_eq _ _ _ _)) post_nil) (cv_pub rfl rfl) ?_
  refine r_build rfl rfl (by exact List.cons_ne_nil _ _) rfl (by repeat (first | exact (Parts.nil : Parts _ _ [] _) | (show Parts _ _ ((_, _) :: _) _; apply Parts.one; (· exact (rfl : _ = Ty.int _ _)); (· exact rfl)))) (by exact (rfl : _ = some [_, _])) ?_
  refine r_storeN rfl rfl (by decide) rfl rfl rfl rfl rfl rfl ?_
  refine r_nil ?_
  refine i_then ?_
  refine t_ret ?_
  refine g_rcell [1000] rfl rfl rfl rfl (by decide) rfl rfl rfl (by decide) (by repeat (first | exact rc_nil | refine rc_cons rfl (cc_vec (by decide) rfl) ?_)) ?_
  all_goals skip
  all_goals exact rg_cv (cv_eq rfl rfl (congrArg (fun s => Ty.agg (SpanE.tys s)) (span_eq h.net (Nat.succ_pos _) h.bd hfe)))
set_option maxRecDepth 100000 in
theorem c_told (y : Yard) (c : Nat → Bool) (a : List Int) (hr : y.Right) (hl : a.length = (flowsY y c).length) : Ctr Tryz.prog 120 [Ty.pp (deskP y (flowsY y c) a)] (amtsT (toldY y a)) := by
  refine fn_intro Tryz.func120 rfl (by decide) Tryz.ntmps120 (by exact Nat.le_of_ble_eq_true rfl) fun w0 M0 => ?_
  have hfl := flows_len (y := y) (c := c)
  have h1 := hr.bins
  have h2 := hr.days
  have h3 := D_eq hr
  have h4 := hr.moves
  have hf34 : (flowsY y c).length ≤ 34 := flows_few hr
  refine t_seq ?_
  refine t_region ?_
  refine r_alloc rfl (by exact List.cons_ne_nil _ _) rfl ?_
  refine r_nil ?_
  refine i_then ?_
  refine t_seq ?_
  refine t_region ?_
  refine r_alloc rfl (by exact List.cons_ne_nil _ _) rfl ?_
  refine r_nil ?_
  refine i_then ?_
  refine t_seq ?_
  refine t_seq ?_
  refine t_region ?_
  refine mvP rfl ?_
  refine r_nilCheck_pp rfl ?_
  refine r_field_pp rfl rfl rfl rfl rfl (by decide) ?_
  refine r_field_pp rfl rfl rfl rfl rfl (by decide) ?_
  refine r_load_pp rfl rfl rfl rfl ?_
  refine r_len rfl rfl rfl ?_
  refine mvI rfl ?_
  refine r_nil ?_
  refine i_then ?_
  refine t_block ?_
  refine t_loop (fun (k : {k : Nat // k ≤ y.bins.length}) => live [(0, Ty.pp (deskP y (flowsY y c) a)), (2, Ty.ptr 3 0), (3, Ty.ptr 4 0), (9, Ty.sl BinE y.bins), (10, Ty.int .i64 y.bins.length), (11, Ty.int .i64 (k.1 : Nat))] [(3, Cont.cells 30 [Ty.ex (.slice none 0 0), Ty.ex (.slice none 0 0)]), (4, Cont.cells 30 [Ty.row I64 3 26 (firstK y a k.1), Ty.ex (.slice none 0 0)])]) (fun k => y.bins.length - k.1) (⟨0, by omega⟩) ?_ fun k => ?_
  · (refine Ent.mk' ?_ ?_ <;> (repeat' (first | exact allSub_zero | exact allTags_nil | exact subs_nil | refine allSub_succ' ?_ (Ty.sub_any _) | refine allSub_succ' ?_ (Ty.sub_refl _) | refine allTags_cons rfl (Cont.sub_refl _) ?_ | refine allTags_cons rfl (Cont.sub_subs ?_) ?_ | refine subs_cons ?_ (Ty.sub_refl _) | refine subs_cons ?_ ?_)))
    all_goals exact nil_rowV firstK_zero
  ·
    have hk := k.2
    have hfk := firstK_len (y := y) (a := a) k.1
    refine t_seq ?_
    refine t_region ?_
    refine r_bin rfl rfl rfl ?_
    refine r_nil ?_
    refine i_then ?_
    refine t_seq ?_
    refine t_cond_dec rfl (fun hc1 => ?_) (fun hc1 => ?_)
    ·
      refine t_skip ?_
      refine i_then ?_
      refine t_seq ?_
      refine t_block ?_
      refine t_seq ?_
      refine t_region ?_
      refine mvI rfl ?_
      refine asI rfl ?_
      refine r_nil ?_
      refine i_then ?_
      have hkl := kept_in2 hl (show k.1 < y.bins.length by omega)
      refine t_draw mixed rfl ?_
      refine r_field_ptr rfl rfl rfl rfl rfl (by decide) ?_
      refine r_load_ptr rfl rfl (by decide) rfl rfl rfl ?_
      refine mvP rfl ?_
      refine r_nilCheck_pp rfl ?_
      refine r_field_pp rfl rfl rfl rfl rfl (by decide) ?_
      refine r_load_pp rfl rfl rfl rfl ?_
      refine mvP rfl ?_
      refine mvI rfl ?_
      refine r_callLC [] (c_kept y hr k.1 0 (by omega) (Nat.zero_le _)) rfl (lendcs_cons (lendc_pre (l1 := yardTys y) (l2 := [Ty.sl FlowE (flowsY y c), Ty.sl I64 a]) rfl rfl) (lendcs_cons (lendc_of (lend_pub rfl rfl)) (lendcs_cons (lendc_of (lend_pub rfl rfl)) lendcs_nil))) (by exact plain_int _ _) ?_
      refine r_index_slN rfl rfl rfl rfl rfl rfl (by omega) ?_
      refine r_load_pp rfl rfl rfl rfl ?_
      refine r_buildSlice (E := I64) (xs := [_]) rfl rfl rfl rfl rfl (by decide) (by decide) (by repeat (first | exact (Parts.nil : Parts _ _ [] _) | (show Parts _ _ ((_, _) :: _) _; apply Parts.one; (· exact (rfl : _ = Ty.int _ _)); (· exact rfl)))) (by exact rfl) rfl ?_
      refine r_append rfl rfl (by decide) rfl rfl rfl rfl rfl rfl (by decide) (by (simp <;> omega)) (by (simp <;> omega)) ?_
      refine r_field_ptr rfl rfl rfl rfl rfl (by decide) ?_
      refine r_store1 rfl rfl (by decide) rfl rfl (by exact (rfl : _ = Ty.row _ _ _ _)) rfl (by exact Nat.le_of_ble_eq_true rfl) rfl rfl (by exact rfl) ?_
      refine r_nil ?_
      refine ⟨by kernel_rfl, ?_⟩
      refine i_block ?_
      refine i_then ?_
      refine t_region ?_
      refine r_add rfl rfl (by omega) (by omega) ?_
      refine mvI rfl ?_
      refine r_nil ?_
      refine i_round (⟨k.1 + 1, by omega⟩) ?_ (by show y.bins.length - (k.1 + 1) < y.bins.length - k.1; omega)
      (refine Ent.mk' ?_ ?_ <;> (repeat' (first | exact allSub_zero | exact allTags_nil | exact subs_nil | refine allSub_succ' ?_ (Ty.sub_any _) | refine allSub_succ' ?_ (Ty.sub_refl _) | refine allTags_cons rfl (Cont.sub_refl _) ?_ | refine allTags_cons rfl (Cont.sub_subs ?_) ?_ | refine subs_cons ?_ (Ty.sub_refl _) | refine subs_cons ?_ ?_)))
      all_goals skip
      all_goals exact Ty.sub_row (firstK_snoc _)
    ·
      refine t_exit ?_
      refine i_then_exit ?_
      refine i_then_exit ?_
      refine i_block_exit rfl ?_
      refine i_then ?_
      refine t_seq ?_
      refine t_draw mixed rfl ?_
      refine mvP rfl ?_
      refine r_nilCheck_pp rfl ?_
      refine r_field_pp rfl rfl rfl rfl rfl (by decide) ?_
      refine r_load_pp rfl rfl rfl rfl ?_
      refine mvP rfl ?_
      refine r_nilCheck_pp rfl ?_
      refine r_field_pp rfl rfl rfl rfl rfl (by decide) ?_
      refine r_load_pp rfl rfl rfl rfl ?_
      refine r_len rfl rfl rfl ?_
      refine mvP rfl ?_
      refine r_nilCheck_pp rfl ?_
      refine r_field_pp rfl rfl rfl rfl rfl (by decide) ?_
      refine r_field_pp rfl rfl rfl rfl rfl (by decide) ?_
      refine r_load_pp rfl rfl rfl rfl ?_
      refine r_len rfl rfl rfl ?_
      refine r_sub rfl rfl (by omega) (by omega) ?_
      refine r_cut_lo (lo := y.bins.length * (y.D + 1)) rfl (by exact congrArg (Ty.int .i64) (by rw [hfl]; omega : ((flowsY y c).length : Int) - (y.moves.length : Int) = ((y.bins.length * (y.D + 1) : Nat) : Int))) rfl rfl rfl rfl (by rw [hl]; omega) ?_
      refine r_call (c_Clone_int _ (by rw [List.length_drop]; omega)) rfl rfl rfl rfl rfl ?_
      refine r_field_ptr rfl rfl rfl rfl rfl (by decide) ?_
      refine r_store1 rfl rfl (by decide) rfl rfl (by exact (rfl : _ = Ty.sl _ _)) rfl (by exact Nat.le_of_ble_eq_true rfl) rfl rfl (by exact rfl) ?_
      refine r_nil ?_
      refine ⟨by kernel_rfl, ?_⟩
      refine i_then ?_
      refine t_seq ?_
      refine t_region ?_
      refine r_load_ptrN rfl rfl (by decide) rfl rfl (by exact Nat.le_of_ble_eq_true rfl) ?_
      refine r_storeN rfl rfl (by decide) rfl rfl rfl rfl rfl rfl ?_
      refine r_nil ?_
      refine i_then ?_
      refine t_ret ?_
      refine i_rcell rfl rfl rfl rfl (by decide) rfl rfl rfl ?_
      exact ret_agg (ts := amtsTys (toldY y a)) (rets_cons (ret_row_eq (by decide) (show firstK y a k.1 = (toldY y a).first by rw [show k.1 = y.bins.length by have := k.2; omega]; exact congrArg Amts.first (told_eq y a))) (rets_cons (ret_refl rfl rfl) rets_nil))
end Go.Proofs.YtelbollidfdcjaaGreat

namespace Go.Proofs.YtelbollidfdcjaaGreat
open Go Go.T
set_option maxHeartbeats 16000000
noncomputable def amtU (y : Yard) : List Int := (stuckM (flowsY y (nth allC)) (y.cells + 1) (loL (flowsY y (nth allC)))).2.2
noncomputable def openE (y : Yard) : Int := if checkY y = 0 then (if (stuckM (flowsY y (nth allC)) (y.cells + 1) (loL (flowsY y (nth allC)))).2.1 = true then 7 else 0) else checkY y
noncomputable def someY (y : Yard) : Amts := if openE y = 0 then toldY y (amtU y) else ⟨[], []⟩
theorem allC_len : allC.length = 8 := rfl
theorem rough_of {y : Yard} (hr : y.Right) {c : Nat → Bool} : Rough y (flowsY y c) (loL (flowsY y c)) := ⟨hr, net_yard hr, bd_yard hr, fun e => inb_lo (wrong_yes e), flows_few hr⟩
section
variable {y : Yard}
theorem open_1 (h : ¬ checkY y = 0) : checkY y = openE y := (if_neg h).symm
theorem open_2 (h : checkY y = 0) (h2 : (stuckM (flowsY y (nth allC)) (y.cells + 1) (loL (flowsY y (nth allC)))).2.1 = true) : 7 = openE y := by unfold openE; rw [if_pos h, if_pos h2]
theorem open_3 (h : checkY y = 0) (h2 : (stuckM (flowsY y (nth allC)) (y.cells + 1) (loL (flowsY y (nth allC)))).2.1 = false) : 0 = openE y := by unfold openE; rw [if_pos h, if_neg (by rw [h2]; decide)]
theorem open_chk (h : openE y = 0) : checkY y = 0 := by
  by_cases e : checkY y = 0
  · exact e
  · rw [← open_1 e] at h; exact absurd h e
theorem open_ok (h : openE y = 0) : (stuckM (flowsY y (nth allC)) (y.cells + 1) (loL (flowsY y (nth allC)))).2.1 = false := by
  cases e : (stuckM (flowsY y (nth allC)) (y.cells + 1) (loL (flowsY y (nth allC)))).2.1 with
  | false => rfl
  | true => rw [← open_2 (open_chk h) e] at h; cases h
theorem feas_st (hr : y.Right) (h2 : (stuckM (flowsY y (nth allC)) (y.cells + 1) (loL (flowsY y (nth allC)))).2.1 = false) : Feas (flowsY y (nth allC)) (y.cells + 1) (stuckM (flowsY y (nth allC)) (y.cells + 1) (loL (flowsY y (nth allC)))).2.2 := stuck_yes (net_yard hr) (rough_of hr).inb h2
theorem feas_open (h : openE y = 0) : Feas (flowsY y (nth allC)) (y.cells + 1) (amtU y) := feas_st (chk_right (open_chk h)) (open_ok h)
theorem some_1 (h : ¬ checkY y = 0) : (⟨[], []⟩ : Amts) = someY y := by unfold someY; rw [← open_1 h, if_neg h]
theorem some_2 (h : checkY y = 0) (h2 : (stuckM (flowsY y (nth allC)) (y.cells + 1) (loL (flowsY y (nth allC)))).2.1 = true) : (⟨[], []⟩ : Amts) = someY y := by unfold someY; rw [← open_2 h h2]; rfl
theorem some_3 (h : checkY y = 0) (h2 : (stuckM (flowsY y (nth allC)) (y.cells + 1) (loL (flowsY y (nth allC)))).2.1 = false) : toldY y (stuckM (flowsY y (nth allC)) (y.cells + 1) (loL (flowsY y (nth allC)))).2.2 = someY y := by unfold someY; rw [if_pos (open_3 h h2).symm]; rfl
theorem ret_amts0 {a : Amts} (e : ⟨[], []⟩ = a) : RetSub (Ty.agg [Ty.ofVal (.slice none 0 0), Ty.ofVal (.slice none 0 0)]) (amtsT a) := by subst e; exact ret_agg (ts := amtsTys ⟨[], []⟩) (rets_cons ret_nil (rets_cons ret_nil rets_nil))
theorem nn_yes {b : Bool} (h : (!!b) = true) : b = true := by cases b <;> first | rfl | cases h
theorem nn_no {b : Bool} (h : (!!b) = false) : b = false := by cases b <;> first | rfl | cases h
theorem amt_eq (y : Yard) : (stuckM (flowsY y (nth allC)) (y.cells + 1) (loL (flowsY y (nth allC)))).2.2 = amtU y := rfl
end
attribute [local irreducible] flowsY loL Way.beg Way.fin Way.room waysQ sendM overUp overL over waysL reachM hasM lackM lackB mostL pathM sendS stuckM settleM leastL addW goalG betterM bestM cycM roundM hasUp hasV spanU loA hiA firstK Yard.kept Yard.cells checkY knownE allC toldY amtU openE
attribute [local irreducible] dInt dBool dSl dPp dPtr dAgg dTup dClo dAny dEx dStr dGd dCells dVec dVs dRow dOp nth Tri Into TOps Ctr bodyPost Exit.then Exit.inBlock Code.wp Code.wpIn dWhen dPa dPe dAo dArr dMp dPm dMap dCJ CtrG CtrI OpY keepPost iterPost bodyPostM roundQ
set_option maxRecDepth 100000 in
theorem c_Some (y : Yard) (hs : y.Small) : Ctr Tryz.prog 47 [yardT y] (Ty.tup [amtsT (someY y), Ty.int .i64 (openE y)]) := by
  refine fn_intro Tryz.func47 rfl (by decide) Tryz.ntmps47 (by exact Nat.le_of_ble_eq_true rfl) fun w0 M0 => ?_
  refine t_seq ?_
  refine t_region ?_
  refine r_box_agg rfl ?_
  refine r_alloc rfl (by exact List.cons_ne_nil _ _) rfl ?_
  refine asI rfl ?_
  refine r_nil ?_
  refine i_then ?_
  refine t_seq ?_
  refine t_seq ?_
  refine t_region ?_
  refine r_load_ppN rfl rfl rfl (by exact Nat.le_of_ble_eq_true rfl) ?_
  refine r_call (c_Check y hs) rfl rfl rfl rfl rfl ?_
  refine asI rfl ?_
  refine r_nil ?_
  refine i_then ?_
  refine t_seq ?_
  refine t_region ?_
  refine mvI rfl ?_
  refine r_bin rfl rfl rfl ?_
  refine r_nil ?_
  refine i_then ?_
  refine t_cond_ndec rfl (fun hc1 => ?_) (fun hc1 => ?_)
  ·
    refine t_seq ?_
    refine t_region ?_
    refine r_build rfl rfl (by exact List.cons_ne_nil _ _) rfl (by repeat (exact (Parts.nil : Parts _ _ [] _))) (by exact (rfl : _ = some [_, _])) ?_
    refine mvI rfl ?_
    refine r_storeN rfl rfl (by decide) rfl rfl rfl rfl rfl rfl ?_
    refine asI rfl ?_
    refine r_nil ?_
    refine i_then ?_
    refine t_ret ?_
    refine i_then_ret ?_
    refine i_rcell2 rfl rfl rfl rfl rfl (by decide) rfl rfl rfl ?_ ?_
    all_goals skip
    all_goals first | exact ret_amts0 (some_1 hc1) | exact ret_eq rfl rfl (congrArg (Ty.int .i64) (open_1 hc1))
  ·
    refine t_skip ?_
    refine i_then ?_
    refine t_seq ?_
    have hck : checkY y = 0 := hc1
    have hr := chk_right hck
    refine t_draw mixed rfl ?_
    refine r_load_ppN rfl rfl rfl (by exact Nat.le_of_ble_eq_true rfl) ?_
    refine r_call (c_all) rfl rfl rfl rfl rfl ?_
    refine r_callG (res' := Ty.pp (deskV y 2000 1000 (flowsY y (nth allC)).length (flowsY y (nth allC)).length)) [(2000, 23), (1000, 31)] [2000, 1000] [(2000, Cont.vec FlowE 187 (flowsY y (nth allC))), (1000, Cont.vec I64 3 (loL (flowsY y (nth allC))))] (k_worked y hr allC allC_len) rfl rfl (cv_cons (cv_cons cv_nil (cv_pub rfl rfl)) (cv_pub rfl rfl)) pre_nil (post_cons (a := 2000) (b := 23) (by decide) rfl (cc_vec (by decide) rfl) (post_cons (a := 1000) (b := 31) (by decide) rfl (cc_vec (by decide) rfl) post_nil)) (cv_pp (cv_cons (cv_cons (cv_cons (cv_cons (cv_cons (cv_cons cv_nil (cv_vs (by decide))) (cv_vs (by decide))) (cv_pub rfl rfl)) (cv_pub rfl rfl)) (cv_pub rfl rfl)) (cv_pub rfl rfl))) ?_
    refine asP rfl ?_
    refine r_nil ?_
    refine ⟨by kernel_rfl, ?_⟩
    refine i_then ?_
    refine t_seq ?_
    refine t_seq ?_
    refine t_pub (tg := 2000) [(5, Ty.pp (deskS y (flowsY y (nth allC)) 1000 (flowsY y (nth allC)).length))] (by decide) rfl ⟨pub_pp rfl ⟨pubTy_same rfl, pubTy_same rfl, pubTy_same rfl, pubTy_same rfl, pubTy_vs rfl rfl (by decide), pubTy_same rfl, trivial⟩, trivial⟩ ?_
    refine t_region ?_
    refine mvP rfl ?_
    refine r_callG [(1000, 1000)] [] [(1000, Cont.vec I64 3 (stuckM (flowsY y (nth allC)) (y.cells + 1) (loL (flowsY y (nth allC)))).2.2)] (k_settle y (flowsY y (nth allC)) (loL (flowsY y (nth allC))) (rough_of hr)) rfl rfl (cv_cons cv_nil (cv_pp (cv_cons (cv_cons (cv_cons (cv_cons (cv_cons (cv_cons cv_nil (cv_vs (by exact List.mem_cons_self))) (cv_pub rfl rfl)) (cv_pub rfl rfl)) (cv_pub rfl rfl)) (cv_pub rfl rfl)) (cv_pub rfl rfl)))) (pre_cons (a := 1000) (b := 1000) (by exact List.mem_cons_self) rfl (cc_vec (by exact List.mem_cons_self) rfl) pre_nil) (post_cons (a := 1000) (b := 1000) (by decide) rfl (cc_vec (by decide) rfl) post_nil) (cv_pub rfl rfl) ?_
    refine r_not rfl ?_
    refine r_nil ?_
    refine i_then ?_
    refine t_cond rfl (fun hc2 => ?_) (fun hc2 => ?_)
    ·
      refine t_seq ?_
      refine t_region ?_
      refine r_build rfl rfl (by exact List.cons_ne_nil _ _) rfl (by repeat (exact (Parts.nil : Parts _ _ [] _))) (by exact (rfl : _ = some [_, _])) ?_
      refine r_storeN rfl rfl (by decide) rfl rfl rfl rfl rfl rfl ?_
      refine asI rfl ?_
      refine r_nil ?_
      refine i_then ?_
      refine t_ret ?_
      refine i_then_ret ?_
      refine i_rcell2 rfl rfl rfl rfl rfl (by decide) rfl rfl rfl ?_ ?_
      all_goals skip
      all_goals first | exact ret_amts0 (some_2 hck (nn_yes hc2)) | exact ret_eq rfl rfl (congrArg (Ty.int .i64) (open_2 hck (nn_yes hc2)))
    ·
      refine t_skip ?_
      refine i_then ?_
      refine t_seq ?_
      have hfe := feas_st hr (nn_no hc2)
      refine t_pub (tg := 1000) [(5, Ty.pp (deskP y (flowsY y (nth allC)) (stuckM (flowsY y (nth allC)) (y.cells + 1) (loL (flowsY y (nth allC)))).2.2))] (by decide) rfl ⟨pub_pp rfl ⟨pubTy_same rfl, pubTy_same rfl, pubTy_same rfl, pubTy_same rfl, pubTy_same rfl, pubTy_vs rfl hfe.1.1 (by decide), trivial⟩, trivial⟩ ?_
      refine t_region ?_
      refine mvP rfl ?_
      refine r_call (c_told y (nth allC) (stuckM (flowsY y (nth allC)) (y.cells + 1) (loL (flowsY y (nth allC)))).2.2 hr hfe.1.1) rfl rfl rfl rfl rfl ?_
      refine r_storeN rfl rfl (by decide) rfl rfl rfl rfl rfl rfl ?_
      refine asI rfl ?_
      refine r_nil ?_
      refine i_then ?_
      refine t_ret ?_
      refine i_rcell2 rfl rfl rfl rfl rfl (by decide) rfl rfl rfl ?_ ?_
      all_goals skip
      all_goals first | exact ret_eq rfl rfl (congrArg amtsT (some_3 hck (nn_no hc2))) | exact ret_eq rfl rfl (congrArg (Ty.int .i64) (open_3 hck (nn_no hc2)))
set_option maxRecDepth 100000 in
theorem k_opened (y : Yard) (hs : y.Small) (h : openE y = 0) : CtrG Tryz.prog 86 [] [] [yardT y] [(1000, Cont.vec I64 3 (amtU y))] (Ty.tup [Ty.pp (deskS y (flowsY y (nth allC)) 1000 (flowsY y (nth allC)).length), Ty.int .i64 0]) := by
  refine fnMG_intro Tryz.func86 rfl (by decide) Tryz.ntmps86 (by exact Nat.le_of_ble_eq_true rfl) fun w0 M0 => ?_
  have hck := open_chk h
  have hr := chk_right hck
  have hst := open_ok h
  refine t_seq ?_
  refine t_region ?_
  refine r_box_agg rfl ?_
  refine asX rfl ?_
  refine asI rfl ?_
  refine r_nil ?_
  refine i_then ?_
  refine t_seq ?_
  refine t_seq ?_
  refine t_region ?_
  refine r_load_ppN rfl rfl rfl (by exact Nat.le_of_ble_eq_true rfl) ?_
  refine r_call (c_Check y hs) rfl rfl rfl rfl rfl ?_
  refine asI rfl ?_
  refine r_nil ?_
  refine i_then ?_
  refine t_seq ?_
  refine t_region ?_
  refine mvI rfl ?_
  refine r_bin rfl rfl rfl ?_
  refine r_nil ?_
  refine i_then ?_
  refine t_cond_ff rfl (by rw [hck]; rfl) ?_
  refine t_skip ?_
  refine i_then ?_
  refine t_seq ?_
  refine t_draw mixed rfl ?_
  refine r_load_ppN rfl rfl rfl (by exact Nat.le_of_ble_eq_true rfl) ?_
  refine r_call (c_all) rfl rfl rfl rfl rfl ?_
  refine r_callG (res' := Ty.pp (deskV y 2000 1000 (flowsY y (nth allC)).length (flowsY y (nth allC)).length)) [(2000, 23), (1000, 31)] [2000, 1000] [(2000, Cont.vec FlowE 187 (flowsY y (nth allC))), (1000, Cont.vec I64 3 (loL (flowsY y (nth allC))))] (k_worked y hr allC allC_len) rfl rfl (cv_cons (cv_cons cv_nil (cv_pub rfl rfl)) (cv_pub rfl rfl)) pre_nil (post_cons (a := 2000) (b := 23) (by decide) rfl (cc_vec (by decide) rfl) (post_cons (a := 1000) (b := 31) (by decide) rfl (cc_vec (by decide) rfl) post_nil)) (cv_pp (cv_cons (cv_cons (cv_cons (cv_cons (cv_cons (cv_cons cv_nil (cv_vs (by decide))) (cv_vs (by decide))) (cv_pub rfl rfl)) (cv_pub rfl rfl)) (cv_pub rfl rfl)) (cv_pub rfl rfl))) ?_
  refine asP rfl ?_
  refine r_nil ?_
  refine ⟨by kernel_rfl, ?_⟩
  refine i_then ?_
  refine t_seq ?_
  refine t_seq ?_
  refine t_pub (tg := 2000) [(5, Ty.pp (deskS y (flowsY y (nth allC)) 1000 (flowsY y (nth allC)).length))] (by decide) rfl ⟨pub_pp rfl ⟨pubTy_same rfl, pubTy_same rfl, pubTy_same rfl, pubTy_same rfl, pubTy_vs rfl rfl (by decide), pubTy_same rfl, trivial⟩, trivial⟩ ?_
  refine t_region ?_
  refine mvP rfl ?_
  refine r_callG [(1000, 1000)] [] [(1000, Cont.vec I64 3 (stuckM (flowsY y (nth allC)) (y.cells + 1) (loL (flowsY y (nth allC)))).2.2)] (k_settle y (flowsY y (nth allC)) (loL (flowsY y (nth allC))) (rough_of hr)) rfl rfl (cv_cons cv_nil (cv_pp (cv_cons (cv_cons (cv_cons (cv_cons (cv_cons (cv_cons cv_nil (cv_vs (by exact List.mem_cons_self))) (cv_pub rfl rfl)) (cv_pub rfl rfl)) (cv_pub rfl rfl)) (cv_pub rfl rfl)) (cv_pub rfl rfl)))) (pre_cons (a := 1000) (b := 1000) (by exact List.mem_cons_self) rfl (cc_vec (by exact List.mem_cons_self) rfl) pre_nil) (post_cons (a := 1000) (b := 1000) (by decide) rfl (cc_vec (by decide) rfl) post_nil) (cv_pub rfl rfl) ?_
  refine r_not rfl ?_
  refine r_nil ?_
  refine i_then ?_
  refine t_cond_ff rfl (by rw [hst]; rfl) ?_
  refine t_skip ?_
  refine i_then ?_
  refine t_seq ?_
  refine t_region ?_
  refine mvP rfl ?_
  refine asP rfl ?_
  refine asI rfl ?_
  refine r_nil ?_
  refine i_then ?_
  refine t_ret ?_
  refine m_ret rfl ?_
  refine g_ret2 [1000] rfl rfl rfl (by decide) ?_ ?_ ?_
  · exact rc_cons rfl (cc_vec (by decide) (amt_eq y)) rc_nil
  all_goals first | exact rg_cv (cv_pub rfl rfl) | skip
  all_goals exact rg_cv (cv_pp (cv_cons (cv_cons (cv_cons (cv_cons (cv_cons (cv_cons cv_nil (cv_vs (by decide))) (cv_pub rfl rfl)) (cv_pub rfl rfl)) (cv_pub rfl rfl)) (cv_pub rfl rfl)) (cv_pub rfl rfl)))
set_option maxRecDepth 100000 in
theorem c_opened_no (y : Yard) (hs : y.Small) (h : openE y ≠ 0) : Ctr Tryz.prog 86 [yardT y] (Ty.tup [Ty.ex (.pointer none), Ty.int .i64 (openE y)]) := by
  refine fn_intro Tryz.func86 rfl (by decide) Tryz.ntmps86 (by exact Nat.le_of_ble_eq_true rfl) fun w0 M0 => ?_
  refine t_seq ?_
  refine t_region ?_
  refine r_box_agg rfl ?_
  refine asX rfl ?_
  refine asI rfl ?_
  refine r_nil ?_
  refine i_then ?_
  refine t_seq ?_
  refine t_seq ?_
  refine t_region ?_
  refine r_load_ppN rfl rfl rfl (by exact Nat.le_of_ble_eq_true rfl) ?_
  refine r_call (c_Check y hs) rfl rfl rfl rfl rfl ?_
  refine asI rfl ?_
  refine r_nil ?_
  refine i_then ?_
  refine t_seq ?_
  refine t_region ?_
  refine mvI rfl ?_
  refine r_bin rfl rfl rfl ?_
  refine r_nil ?_
  refine i_then ?_
  refine t_cond_ndec rfl (fun hc1 => ?_) (fun hc1 => ?_)
  ·
    refine t_seq ?_
    refine t_region ?_
    refine mvI rfl ?_
    refine asX rfl ?_
    refine asI rfl ?_
    refine r_nil ?_
    refine i_then ?_
    refine t_ret ?_
    refine i_then_ret ?_
    refine i_rp2 rfl rfl rfl ?_ ?_
    all_goals first | exact ret_refl rfl rfl | skip
    all_goals exact ret_eq rfl rfl (congrArg (Ty.int .i64) (open_1 hc1))
  ·
    refine t_skip ?_
    refine i_then ?_
    refine t_seq ?_
    have hck : checkY y = 0 := hc1
    have hr := chk_right hck
    refine t_draw mixed rfl ?_
    refine r_load_ppN rfl rfl rfl (by exact Nat.le_of_ble_eq_true rfl) ?_
    refine r_call (c_all) rfl rfl rfl rfl rfl ?_
    refine r_callG (res' := Ty.pp (deskV y 2000 1000 (flowsY y (nth allC)).length (flowsY y (nth allC)).length)) [(2000, 23), (1000, 31)] [2000, 1000] [(2000, Cont.vec FlowE 187 (flowsY y (nth allC))), (1000, Cont.vec I64 3 (loL (flowsY y (nth allC))))] (k_worked y hr allC allC_len) rfl rfl (cv_cons (cv_cons cv_nil (cv_pub rfl rfl)) (cv_pub rfl rfl)) pre_nil (post_cons (a := 2000) (b := 23) (by decide) rfl (cc_vec (by decide) rfl) (post_cons (a := 1000) (b := 31) (by decide) rfl (cc_vec (by decide) rfl) post_nil)) (cv_pp (cv_cons (cv_cons (cv_cons (cv_cons (cv_cons (cv_cons cv_nil (cv_vs (by decide))) (cv_vs (by decide))) (cv_pub rfl rfl)) (cv_pub rfl rfl)) (cv_pub rfl rfl)) (cv_pub rfl rfl))) ?_
    refine asP rfl ?_
    refine r_nil ?_
    refine ⟨by kernel_rfl, ?_⟩
    refine i_then ?_
    refine t_seq ?_
    refine t_seq ?_
    refine t_pub (tg := 2000) [(5, Ty.pp (deskS y (flowsY y (nth allC)) 1000 (flowsY y (nth allC)).length))] (by decide) rfl ⟨pub_pp rfl ⟨pubTy_same rfl, pubTy_same rfl, pubTy_same rfl, pubTy_same rfl, pubTy_vs rfl rfl (by decide), pubTy_same rfl, trivial⟩, trivial⟩ ?_
    refine t_region ?_
    refine mvP rfl ?_
    refine r_callG [(1000, 1000)] [] [(1000, Cont.vec I64 3 (stuckM (flowsY y (nth allC)) (y.cells + 1) (loL (flowsY y (nth allC)))).2.2)] (k_settle y (flowsY y (nth allC)) (loL (flowsY y (nth allC))) (rough_of hr)) rfl rfl (cv_cons cv_nil (cv_pp (cv_cons (cv_cons (cv_cons (cv_cons (cv_cons (cv_cons cv_nil (cv_vs (by exact List.mem_cons_self))) (cv_pub rfl rfl)) (cv_pub rfl rfl)) (cv_pub rfl rfl)) (cv_pub rfl rfl)) (cv_pub rfl rfl)))) (pre_cons (a := 1000) (b := 1000) (by exact List.mem_cons_self) rfl (cc_vec (by exact List.mem_cons_self) rfl) pre_nil) (post_cons (a := 1000) (b := 1000) (by decide) rfl (cc_vec (by decide) rfl) post_nil) (cv_pub rfl rfl) ?_
    refine r_not rfl ?_
    refine r_nil ?_
    refine i_then ?_
    refine t_cond rfl (fun hc2 => ?_) (fun hc2 => ?_)
    ·
      refine t_seq ?_
      refine t_region ?_
      refine asX rfl ?_
      refine asI rfl ?_
      refine r_nil ?_
      refine i_then ?_
      refine t_ret ?_
      refine i_then_ret ?_
      refine i_rp2 rfl rfl rfl ?_ ?_
      all_goals first | exact ret_refl rfl rfl | skip
      all_goals exact ret_eq rfl rfl (congrArg (Ty.int .i64) (open_2 hck (nn_yes hc2)))
    ·
      refine t_skip ?_
      refine i_then ?_
      refine t_seq ?_
      refine t_region ?_
      refine mvP rfl ?_
      refine asP rfl ?_
      refine asI rfl ?_
      refine r_nil ?_
      refine i_then ?_
      refine t_ret ?_
      refine i_rp2 rfl rfl rfl ?_ ?_
      all_goals skip
      all_goals exact absurd (open_3 hck (nn_no hc2)).symm h
end Go.Proofs.YtelbollidfdcjaaGreat

namespace Go.Proofs.YtelbollidfdcjaaGreat
open Go Go.T
set_option maxHeartbeats 16000000
def hasK (k : Nat) (i : Nat) : Bool := decide ((i : Int) = (k : Int))
def hasB (y : Yard) (b t : Nat) : Nat → Bool := hasK (y.kept b t)
noncomputable def bndA (fl : List Flow) (n : Nat) (y : Yard) (b : Nat) (a : List Int) : Nat → List Int
  | 0 => a
  | t + 1 => hiA fl n (hasB y b t) (bndA fl n y b a t)
noncomputable def bndS (fl : List Flow) (n : Nat) (y : Yard) (b k : Nat) : List Span := (List.range k).map fun t => spanU fl n (hasB y b t)
noncomputable def bndE (y : Yard) (b : Int) : Int := if knownE y b = 0 then openE y else knownE y b
noncomputable def bndY (y : Yard) (b : Int) : List Span := if bndE y b = 0 then bndS (flowsY y (nth allC)) (y.cells + 1) y b.toNat (y.D + 1) else []
def mvE (y : Yard) (k : Int) : Int := if checkY y = 0 then (if (decide (k ≥ 0) && decide (k ≤ (y.moves.length : Int) - 1)) = true then 0 else 1) else checkY y
noncomputable def movE (y : Yard) (k : Int) : Int := if mvE y k = 0 then openE y else mvE y k
noncomputable def movS (y : Yard) (k : Int) : Span := if movE y k = 0 then spanU (flowsY y (nth allC)) (y.cells + 1) (hasK (y.bins.length * (y.D + 1) + k.toNat)) else ⟨0, 0⟩
theorem fine_open {y : Yard} (h : openE y = 0) : Fine y (flowsY y (nth allC)) (amtU y) := ⟨chk_right (open_chk h), net_yard (chk_right (open_chk h)), bd_yard (chk_right (open_chk h)), (feas_open h).1, flows_few (chk_right (open_chk h))⟩
section
variable {y : Yard} {fl : List Flow} {a : List Int} {n b k : Nat} {q : Int}
theorem bnd_feas (hN : Net fl n) (hn : 0 < n) (hB : Bd fl) (h : Feas fl n a) : ∀ t, Feas fl n (bndA fl n y b a t)
  | 0 => h
  | t + 1 => (span_of hN hn hB (bnd_feas hN hn hB h t)).2.1
theorem bnd_zero : a = bndA fl n y b a 0 := rfl
theorem bnd_succ (t : Nat) : hiA fl n (hasB y b t) (bndA fl n y b a t) = bndA fl n y b a (t + 1) := rfl
theorem bndS_snoc (t : Nat) : bndS fl n y b t ++ [spanU fl n (hasB y b t)] = bndS fl n y b (t + 1) := by unfold bndS; rw [List.range_succ, List.map_append]; rfl
theorem bndS_len (t : Nat) : (bndS fl n y b t).length = t := by unfold bndS; rw [List.length_map, List.length_range]
theorem bndS_zero : bndS fl n y b 0 = [] := rfl
theorem nil_rowS {T tg : Nat} {xs : List Span} (h : xs = []) : (Ty.ex (.slice none 0 0)).Sub (Ty.row SpanE T tg xs) := by subst h; exact Ty.nil_row
theorem hasK_eq (k : Nat) (i : Nat) : decide ((i : Int) = (k : Int)) = hasK k i := rfl
theorem hasB_eq (b t i : Nat) : decide ((i : Int) = ((y.kept b t : Nat) : Int)) = hasB y b t i := rfl
theorem bndE_1 (h : ¬ knownE y q = 0) : knownE y q = bndE y q ∧ [] = bndY y q := by
  have e : knownE y q = bndE y q := (if_neg h).symm
  exact ⟨e, by unfold bndY; rw [← e, if_neg h]⟩
theorem bndE_2 (h : knownE y q = 0) (ho : openE y ≠ 0) : openE y = bndE y q ∧ [] = bndY y q := by
  have e : openE y = bndE y q := (if_pos h).symm
  exact ⟨e, by unfold bndY; rw [← e, if_neg ho]⟩
theorem bndE_3 (h : knownE y q = 0) (ho : openE y = 0) : 0 = bndE y q ∧ bndS (flowsY y (nth allC)) (y.cells + 1) y q.toNat (y.D + 1) = bndY y q := by
  have e : openE y = bndE y q := (if_pos h).symm
  exact ⟨by rw [← e, ho], by unfold bndY; rw [← e, if_pos ho]⟩
theorem known_bin (h : knownE y q = 0) : 0 ≤ q ∧ q < y.bins.length := by
  unfold knownE at h
  by_cases e : checkY y = 0
  · rw [if_pos e] at h
    by_cases c : y.bin q = true
    · unfold Yard.bin inB at c
      rw [Bool.and_eq_true, decide_eq_true_eq, decide_eq_true_eq] at c; omega
    · rw [if_neg c] at h; cases h
  · rw [if_neg e] at h; exact absurd h e
theorem mvE_1 (h : ¬ checkY y = 0) : checkY y = movE y q ∧ (⟨0, 0⟩ : Span) = movS y q := by
  have e1 : mvE y q = checkY y := if_neg h
  have e : checkY y = movE y q := by unfold movE; rw [e1, if_neg h]
  exact ⟨e, by unfold movS; rw [← e, if_neg h]⟩
theorem mvE_2 (h : checkY y = 0) (h2 : (!(decide (q ≥ 0) && decide (q ≤ (y.moves.length : Int) - 1))) = true) : 1 = movE y q ∧ (⟨0, 0⟩ : Span) = movS y q := by
  have e1 : mvE y q = 1 := by unfold mvE; rw [if_pos h, if_neg (by rw [not_b h2]; decide)]
  have e : 1 = movE y q := by unfold movE; rw [e1]; rfl
  exact ⟨e, by unfold movS; rw [← e]; rfl⟩
theorem mv_in (h2 : (!(decide (q ≥ 0) && decide (q ≤ (y.moves.length : Int) - 1))) = false) : 0 ≤ q ∧ q < y.moves.length := by
  have := not_not_b h2
  rw [Bool.and_eq_true, decide_eq_true_eq, decide_eq_true_eq] at this; omega
theorem mvE_3 (h : checkY y = 0) (h2 : (!(decide (q ≥ 0) && decide (q ≤ (y.moves.length : Int) - 1))) = false) (ho : openE y ≠ 0) : openE y = movE y q ∧ (⟨0, 0⟩ : Span) = movS y q := by
  have e1 : mvE y q = 0 := by unfold mvE; rw [if_pos h, if_pos (not_not_b h2)]
  have e : openE y = movE y q := by unfold movE; rw [e1]; rfl
  exact ⟨e, by unfold movS; rw [← e, if_neg ho]⟩
theorem mvE_4 (h : checkY y = 0) (h2 : (!(decide (q ≥ 0) && decide (q ≤ (y.moves.length : Int) - 1))) = false) (ho : openE y = 0) : 0 = movE y q ∧ spanU (flowsY y (nth allC)) (y.cells + 1) (hasK (y.bins.length * (y.D + 1) + q.toNat)) = movS y q := by
  have e1 : mvE y q = 0 := by unfold mvE; rw [if_pos h, if_pos (not_not_b h2)]
  have e : openE y = movE y q := by unfold movE; rw [e1]; rfl
  exact ⟨by rw [← e, ho], by unfold movS; rw [← e, if_pos ho]⟩
end
attribute [local irreducible] flowsY loL Way.beg Way.fin Way.room waysQ sendM overUp overL over waysL reachM hasM lackM lackB mostL pathM sendS stuckM settleM leastL addW goalG betterM bestM cycM roundM hasUp hasV spanU loA hiA firstK Yard.kept Yard.cells checkY knownE allC toldY amtU openE bndA bndS bndE bndY movE movS hasB hasK
attribute [local irreducible] dInt dBool dSl dPp dPtr dAgg dTup dClo dAny dEx dStr dGd dCells dVec dVs dRow dOp nth Tri Into TOps Ctr bodyPost Exit.then Exit.inBlock Code.wp Code.wpIn dWhen dPa dPe dAo dArr dMp dPm dMap dCJ CtrG CtrI OpY keepPost iterPost bodyPostM roundQ
set_option maxRecDepth 100000 in
theorem c_bounds1 (f k : Int) : Ctr Tryz.prog 165 [Ty.int .i64 f, Ty.pp [Ty.int .i64 k]] (Ty.bool (decide (f = k))) := by
  refine fn_intro Tryz.func165 rfl (by decide) Tryz.ntmps165 (by exact Nat.le_of_ble_eq_true rfl) fun w0 M0 => ?_
  refine t_seq ?_
  refine t_region ?_
  refine asB rfl ?_
  refine r_nil ?_
  refine i_then ?_
  refine t_seq ?_
  refine t_region ?_
  refine mvI rfl ?_
  refine r_load_pp rfl rfl rfl rfl ?_
  refine r_bin rfl rfl rfl ?_
  refine asB rfl ?_
  refine r_nil ?_
  refine i_then ?_
  refine t_ret ?_
  refine i_rp1 rfl rfl ?_
  all_goals exact ret_refl rfl rfl
set_option maxRecDepth 100000 in
theorem k_bounds (y : Yard) (fl : List Flow) (a : List Int) (h : Fine y fl a) (hfe : Feas fl (y.cells + 1) a) (b : Nat) (hb : b < y.bins.length) : CtrG Tryz.prog 91 [1000] [(1000, Cont.vec I64 3 a)] [Ty.pp (deskS y fl 1000 fl.length), Ty.int .i64 ((b : Nat) : Int)] [(1000, Cont.vec I64 3 (bndA fl (y.cells + 1) y b a (y.D + 1)))] (Ty.sl SpanE (bndS fl (y.cells + 1) y b (y.D + 1))) := by
  refine fnG_intro Tryz.func91 rfl (by decide) Tryz.ntmps91 (by exact Nat.le_of_ble_eq_true rfl) fun w0 M0 => ?_
  have h1 := h.right.bins
  have h2 := h.right.days
  have h3 := D_eq h.right
  have hft := bnd_feas (y := y) (b := b) h.net (Nat.succ_pos _) h.bd hfe
  refine t_seq ?_
  refine t_region ?_
  refine asX rfl ?_
  refine r_nil ?_
  refine i_then ?_
  refine t_seq ?_
  refine t_region ?_
  refine asX rfl ?_
  refine r_nil ?_
  refine i_then ?_
  refine t_seq ?_
  refine t_seq ?_
  refine t_region ?_
  refine mvP rfl ?_
  refine r_nilCheck_pp rfl ?_
  refine r_field_pp rfl rfl rfl rfl rfl (by decide) ?_
  refine r_field_pp rfl rfl rfl rfl rfl (by decide) ?_
  refine r_load_pp rfl rfl rfl rfl ?_
  refine r_add rfl rfl (by omega) (by omega) ?_
  refine mvI rfl ?_
  refine r_nil ?_
  refine i_then ?_
  refine t_block ?_
  refine t_loop (fun (t : {t : Nat // t ≤ y.D + 1}) => live [(0, Ty.pp (deskS y fl 1000 fl.length)), (1, Ty.int .i64 ((b : Nat) : Int)), (5, Ty.row SpanE 37 26 (bndS fl (y.cells + 1) y b t.1)), (13, Ty.int .i64 (y.days + 1)), (14, Ty.int .i64 (t.1 : Nat))] [(1000, Cont.vec I64 3 (bndA fl (y.cells + 1) y b a t.1))]) (fun t => y.D + 1 - t.1) (⟨0, by omega⟩) ?_ fun t => ?_
  · (refine Ent.mk' ?_ ?_ <;> (repeat' (first | exact allSub_zero | exact allTags_nil | refine allSub_succ' ?_ (Ty.sub_any _) | refine allSub_succ' ?_ (Ty.sub_refl _) | refine allTags_cons rfl ?_ ?_ | refine allSub_succ' ?_ ?_)))
    all_goals first | exact nil_rowS bndS_zero | exact Cont.sub_vec bnd_zero
  ·
    have hbl := bndS_len (fl := fl) (n := (y.cells + 1)) (y := y) (b := b) t.1
    have ht := t.2
    have hFt : Fine y fl (bndA fl (y.cells + 1) y b a t.1) := ⟨h.right, h.net, h.bd, (hft t.1).1, h.few⟩
    refine t_seq ?_
    refine t_region ?_
    refine r_bin rfl rfl rfl ?_
    refine r_nil ?_
    refine i_then ?_
    refine t_seq ?_
    refine t_cond_dec rfl (fun hc1 => ?_) (fun hc1 => ?_)
    ·
      refine t_skip ?_
      refine i_then ?_
      refine t_seq ?_
      refine t_block ?_
      refine t_seq ?_
      refine t_region ?_
      refine mvI rfl ?_
      refine asI rfl ?_
      refine r_nil ?_
      refine i_then ?_
      refine t_seq ?_
      refine t_region ?_
      refine mvP rfl ?_
      refine mvI rfl ?_
      refine mvI rfl ?_
      refine r_callLC [] (c_kept y h.right b t.1 hb (by omega)) rfl (lendcs_cons (lendc_pre (l1 := yardTys y) (l2 := [Ty.sl FlowE fl, Ty.vs 1000 fl.length]) rfl rfl) (lendcs_cons (lendc_of (lend_pub rfl rfl)) (lendcs_cons (lendc_of (lend_pub rfl rfl)) lendcs_nil))) (by exact plain_int _ _) ?_
      refine r_alloc rfl (by exact List.cons_ne_nil _ _) rfl ?_
      refine r_store1 rfl rfl (by decide) rfl rfl (by exact (rfl : _ = Ty.int _ _)) rfl (by exact Nat.le_of_ble_eq_true rfl) rfl rfl (by exact (rfl : _ = [_])) ?_
      refine r_nil ?_
      refine i_then ?_
      refine t_pub (tg := 8) [(7, Ty.pp [Ty.int .i64 ((y.kept b t.1 : Nat) : Int)])] (by decide) rfl ⟨pub_ptr (T := 3) (off := 0) (l := [Ty.int .i64 ((y.kept b t.1 : Nat) : Int)]) rfl rfl rfl (by decide), trivial⟩ ?_
      refine t_region ?_
      refine mvR rfl ?_
      refine mvP rfl ?_
      refine r_makeFunc rfl ?_
      refine r_callG [(1000, 1000)] [] [(1000, Cont.vec I64 3 (hiA fl (y.cells + 1) (hasB y b t.1) (bndA fl (y.cells + 1) y b a t.1)))] (k_span y fl (bndA fl (y.cells + 1) y b a t.1) hFt (hft t.1) (Ty.clo 165 [Ty.pp [Ty.int .i64 ((y.kept b t.1 : Nat) : Int)]]) rfl rfl (hasB y b t.1) (fun i _ => by rw [← hasB_eq]; exact cal_clo (c_bounds1 (i : Nat) _) rfl rfl rfl rfl rfl rfl) rfl) rfl rfl (cv_cons (cv_cons cv_nil (cv_pub rfl rfl)) (cv_pp (cv_cons (cv_cons (cv_cons (cv_cons (cv_cons (cv_cons cv_nil (cv_vs (by exact List.mem_cons_self))) (cv_pub rfl rfl)) (cv_pub rfl rfl)) (cv_pub rfl rfl)) (cv_pub rfl rfl)) (cv_pub rfl rfl)))) (pre_cons (a := 1000) (b := 1000) (by exact List.mem_cons_self) rfl (cc_vec (by exact List.mem_cons_self) rfl) pre_nil) (post_cons (a := 1000) (b := 1000) (by decide) rfl (cc_vec (by decide) rfl) post_nil) (cv_pub rfl rfl) ?_
      refine r_buildSlice (E := SpanE) (xs := [spanU fl (y.cells + 1) (hasB y b t.1)]) rfl rfl rfl rfl rfl (by decide) (by decide) (by repeat (first | exact (Parts.nil : Parts _ _ [] _) | (show Parts _ _ ((_, _) :: _) _; apply Parts.agg; (· exact (rfl : _ = Ty.agg _))))) (by exact rfl) rfl ?_
      refine r_append rfl rfl (by decide) rfl rfl rfl rfl rfl rfl (by decide) (by (simp <;> omega)) (by (simp <;> omega)) ?_
      refine asR rfl ?_
      refine r_nil ?_
      refine i_block ?_
      refine i_then ?_
      refine t_region ?_
      refine r_add rfl rfl (by omega) (by omega) ?_
      refine mvI rfl ?_
      refine r_nil ?_
      refine i_round (⟨t.1 + 1, by omega⟩) ?_ (by show y.D + 1 - (t.1 + 1) < y.D + 1 - t.1; omega)
      (refine Ent.mk' ?_ ?_ <;> (repeat' (first | exact allSub_zero | exact allTags_nil | refine allSub_succ' ?_ (Ty.sub_any _) | refine allSub_succ' ?_ (Ty.sub_refl _) | refine allTags_cons rfl ?_ ?_ | refine allSub_succ' ?_ ?_)))
      all_goals skip
      all_goals first | exact Ty.sub_row (bndS_snoc _) | exact Cont.sub_vec (bnd_succ _)
    ·
      refine t_exit ?_
      refine i_then_exit ?_
      refine i_then_exit ?_
      refine i_block_exit rfl ?_
      refine i_then ?_
      refine t_seq ?_
      refine t_region ?_
      refine mvR rfl ?_
      refine asR rfl ?_
      refine r_nil ?_
      refine i_then ?_
      refine t_ret ?_
      refine g_ret1 [1000] rfl rfl (by decide) ?_ ?_
      · exact rc_cons rfl (cc_vec (by decide) (by rw [show t.1 = y.D + 1 by have := t.2; omega])) rc_nil
      all_goals skip
      all_goals exact rg_row (by decide) rfl (by rw [show t.1 = y.D + 1 by have := t.2; omega])
set_option maxRecDepth 100000 in
theorem c_Bounds_no (y : Yard) (hs : y.Small) (q : Int) (ho : openE y ≠ 0) : Ctr Tryz.prog 22 [yardT y, Ty.int .i64 q] (Ty.tup [Ty.sl SpanE (bndY y q), Ty.int .i64 (bndE y q)]) := by
  refine fn_intro Tryz.func22 rfl (by decide) Tryz.ntmps22 (by exact Nat.le_of_ble_eq_true rfl) fun w0 M0 => ?_
  refine t_seq ?_
  refine t_region ?_
  refine r_box_agg rfl ?_
  refine asX rfl ?_
  refine asI rfl ?_
  refine r_nil ?_
  refine i_then ?_
  refine t_seq ?_
  refine t_seq ?_
  refine t_region ?_
  refine r_load_ppN rfl rfl rfl (by exact Nat.le_of_ble_eq_true rfl) ?_
  refine mvI rfl ?_
  refine r_call (c_known y hs q) rfl rfl rfl rfl rfl ?_
  refine asI rfl ?_
  refine r_nil ?_
  refine i_then ?_
  refine t_seq ?_
  refine t_region ?_
  refine mvI rfl ?_
  refine r_bin rfl rfl rfl ?_
  refine r_nil ?_
  refine i_then ?_
  refine t_cond_ndec rfl (fun hc1 => ?_) (fun hc1 => ?_)
  ·
    refine t_seq ?_
    refine t_region ?_
    refine mvI rfl ?_
    refine asX rfl ?_
    refine asI rfl ?_
    refine r_nil ?_
    refine i_then ?_
    refine t_ret ?_
    refine i_then_ret ?_
    refine i_rp2 rfl rfl rfl ?_ ?_
    all_goals skip
    all_goals first | exact ret_nil_eq (bndE_1 hc1).2.symm | exact ret_eq rfl rfl (congrArg (Ty.int .i64) (bndE_1 hc1).1)
  ·
    refine t_skip ?_
    refine i_then ?_
    refine t_seq ?_
    refine t_region ?_
    refine r_load_ppN rfl rfl rfl (by exact Nat.le_of_ble_eq_true rfl) ?_
    refine r_call (c_opened_no y hs ho) rfl rfl rfl rfl rfl ?_
    refine mvT rfl ?_
    refine r_extract rfl rfl ?_
    refine r_extract rfl rfl ?_
    refine asX rfl ?_
    refine asI rfl ?_
    refine r_nil ?_
    refine i_then ?_
    refine t_seq ?_
    refine t_seq ?_
    refine t_region ?_
    refine mvI rfl ?_
    refine r_bin rfl rfl rfl ?_
    refine r_nil ?_
    refine i_then ?_
    refine t_cond_tt rfl (by rw [decide_eq_false ho]; rfl) ?_
    refine t_seq ?_
    refine t_region ?_
    refine mvI rfl ?_
    refine asX rfl ?_
    refine asI rfl ?_
    refine r_nil ?_
    refine i_then ?_
    refine t_ret ?_
    refine i_then_ret ?_
    refine i_rp2 rfl rfl rfl ?_ ?_
    all_goals skip
    all_goals first | exact ret_nil_eq (bndE_2 hc1 ho).2.symm | exact ret_eq rfl rfl (congrArg (Ty.int .i64) (bndE_2 hc1 ho).1)
set_option maxRecDepth 100000 in
theorem c_Bounds_ok (y : Yard) (hs : y.Small) (q : Int) (ho : openE y = 0) : Ctr Tryz.prog 22 [yardT y, Ty.int .i64 q] (Ty.tup [Ty.sl SpanE (bndY y q), Ty.int .i64 (bndE y q)]) := by
  refine fn_intro Tryz.func22 rfl (by decide) Tryz.ntmps22 (by exact Nat.le_of_ble_eq_true rfl) fun w0 M0 => ?_
  have hck := open_chk ho
  have hr := chk_right hck
  have hF : Fine y (flowsY y (nth allC)) (amtU y) := fine_open ho
  have hfe := feas_open ho
  refine t_seq ?_
  refine t_region ?_
  refine r_box_agg rfl ?_
  refine asX rfl ?_
  refine asI rfl ?_
  refine r_nil ?_
  refine i_then ?_
  refine t_seq ?_
  refine t_seq ?_
  refine t_region ?_
  refine r_load_ppN rfl rfl rfl (by exact Nat.le_of_ble_eq_true rfl) ?_
  refine mvI rfl ?_
  refine r_call (c_known y hs q) rfl rfl rfl rfl rfl ?_
  refine asI rfl ?_
  refine r_nil ?_
  refine i_then ?_
  refine t_seq ?_
  refine t_region ?_
  refine mvI rfl ?_
  refine r_bin rfl rfl rfl ?_
  refine r_nil ?_
  refine i_then ?_
  refine t_cond_ndec rfl (fun hc1 => ?_) (fun hc1 => ?_)
  ·
    refine t_seq ?_
    refine t_region ?_
    refine mvI rfl ?_
    refine asX rfl ?_
    refine asI rfl ?_
    refine r_nil ?_
    refine i_then ?_
    refine t_ret ?_
    refine i_then_ret ?_
    refine i_rp2 rfl rfl rfl ?_ ?_
    all_goals skip
    all_goals first | exact ret_nil_eq (bndE_1 hc1).2.symm | exact ret_eq rfl rfl (congrArg (Ty.int .i64) (bndE_1 hc1).1)
  ·
    refine t_skip ?_
    refine i_then ?_
    refine t_seq ?_
    refine t_region ?_
    refine r_load_ppN rfl rfl rfl (by exact Nat.le_of_ble_eq_true rfl) ?_
    refine r_callG (res' := Ty.tup [Ty.pp (deskS y (flowsY y (nth allC)) 1000 (flowsY y (nth allC)).length), Ty.int .i64 0]) [(1000, 1000)] [1000] [(1000, Cont.vec I64 3 (amtU y))] (k_opened y hs ho) rfl rfl (cv_cons cv_nil (cv_pub rfl rfl)) pre_nil (post_cons (a := 1000) (b := 1000) (by decide) rfl (cc_vec (by decide) rfl) post_nil) (cv_tup (cv_cons (cv_cons cv_nil (cv_pub rfl rfl)) (cv_pp (cv_cons (cv_cons (cv_cons (cv_cons (cv_cons (cv_cons cv_nil (cv_vs (by decide))) (cv_pub rfl rfl)) (cv_pub rfl rfl)) (cv_pub rfl rfl)) (cv_pub rfl rfl)) (cv_pub rfl rfl))))) ?_
    refine mvT rfl ?_
    refine r_extract rfl rfl ?_
    refine r_extract rfl rfl ?_
    refine asP rfl ?_
    refine asI rfl ?_
    refine r_nil ?_
    refine i_then ?_
    refine t_seq ?_
    refine t_seq ?_
    refine t_region ?_
    refine mvI rfl ?_
    refine r_bin rfl rfl rfl ?_
    refine r_nil ?_
    refine i_then ?_
    refine t_cond_ff rfl (rfl) ?_
    refine t_skip ?_
    refine i_then ?_
    refine t_seq ?_
    have hq := known_bin hc1
    have hqn : ((q.toNat : Nat) : Int) = q := by omega
    refine t_as (s := 1) rfl (Ty.sub_int hqn.symm) ?_
    refine t_region ?_
    refine mvP rfl ?_
    refine mvI rfl ?_
    refine r_callG [(1000, 1000)] [] [(1000, Cont.vec I64 3 (bndA (flowsY y (nth allC)) (y.cells + 1) y q.toNat (amtU y) (y.D + 1)))] (k_bounds y (flowsY y (nth allC)) (amtU y) hF hfe q.toNat (by omega)) rfl rfl (cv_cons (cv_cons cv_nil (cv_pub rfl rfl)) (cv_pp (cv_cons (cv_cons (cv_cons (cv_cons (cv_cons (cv_cons cv_nil (cv_vs (by exact List.mem_cons_self))) (cv_pub rfl rfl)) (cv_pub rfl rfl)) (cv_pub rfl rfl)) (cv_pub rfl rfl)) (cv_pub rfl rfl)))) (pre_cons (a := 1000) (b := 1000) (by exact List.mem_cons_self) rfl (cc_vec (by exact List.mem_cons_self) rfl) pre_nil) (post_cons (a := 1000) (b := 1000) (by decide) rfl (cc_vec (by decide) rfl) post_nil) (cv_pub rfl rfl) ?_
    refine asS rfl ?_
    refine asI rfl ?_
    refine r_nil ?_
    refine i_then ?_
    refine t_ret ?_
    refine i_rp2 rfl rfl rfl ?_ ?_
    all_goals skip
    all_goals first | exact ret_eq rfl rfl (congrArg (Ty.sl SpanE) (bndE_3 hc1 ho).2) | exact ret_eq rfl rfl (congrArg (Ty.int .i64) (bndE_3 hc1 ho).1)
set_option maxRecDepth 100000 in
theorem c_Moved1 (f k : Int) : Ctr Tryz.prog 121 [Ty.int .i64 f, Ty.pp [Ty.int .i64 k]] (Ty.bool (decide (f = k))) := by
  refine fn_intro Tryz.func121 rfl (by decide) Tryz.ntmps121 (by exact Nat.le_of_ble_eq_true rfl) fun w0 M0 => ?_
  refine t_seq ?_
  refine t_region ?_
  refine asB rfl ?_
  refine r_nil ?_
  refine i_then ?_
  refine t_seq ?_
  refine t_region ?_
  refine mvI rfl ?_
  refine r_load_pp rfl rfl rfl rfl ?_
  refine r_bin rfl rfl rfl ?_
  refine asB rfl ?_
  refine r_nil ?_
  refine i_then ?_
  refine t_ret ?_
  refine i_rp1 rfl rfl ?_
  all_goals exact ret_refl rfl rfl
set_option maxRecDepth 100000 in
theorem c_Moved_no (y : Yard) (hs : y.Small) (q : Int) (ho : openE y ≠ 0) : Ctr Tryz.prog 48 [yardT y, Ty.int .i64 q] (Ty.tup [Ty.agg (SpanE.tys (movS y q)), Ty.int .i64 (movE y q)]) := by
  refine fn_intro Tryz.func48 rfl (by decide) Tryz.ntmps48 (by exact Nat.le_of_ble_eq_true rfl) fun w0 M0 => ?_
  have hsm := hs.moves
  refine t_seq ?_
  refine t_region ?_
  refine r_box_agg rfl ?_
  refine r_alloc rfl (by exact List.cons_ne_nil _ _) rfl ?_
  refine asI rfl ?_
  refine r_nil ?_
  refine i_then ?_
  refine t_seq ?_
  refine t_seq ?_
  refine t_region ?_
  refine r_load_ppN rfl rfl rfl (by exact Nat.le_of_ble_eq_true rfl) ?_
  refine r_call (c_Check y hs) rfl rfl rfl rfl rfl ?_
  refine asI rfl ?_
  refine r_nil ?_
  refine i_then ?_
  refine t_seq ?_
  refine t_region ?_
  refine mvI rfl ?_
  refine r_bin rfl rfl rfl ?_
  refine r_nil ?_
  refine i_then ?_
  refine t_cond_ndec rfl (fun hc1 => ?_) (fun hc1 => ?_)
  ·
    refine t_seq ?_
    refine t_region ?_
    refine r_build rfl rfl (by exact List.cons_ne_nil _ _) rfl (by repeat (exact (Parts.nil : Parts _ _ [] _))) (by exact (rfl : _ = some [_, _])) ?_
    refine mvI rfl ?_
    refine r_storeN rfl rfl (by decide) rfl rfl rfl rfl rfl rfl ?_
    refine asI rfl ?_
    refine r_nil ?_
    refine i_then ?_
    refine t_ret ?_
    refine i_then_ret ?_
    refine i_rcell2 rfl rfl rfl rfl rfl (by decide) rfl rfl rfl ?_ ?_
    all_goals skip
    all_goals first | exact ret_eq rfl rfl (congrArg (fun s => Ty.agg (SpanE.tys s)) (mvE_1 hc1).2) | exact ret_eq rfl rfl (congrArg (Ty.int .i64) (mvE_1 hc1).1)
  ·
    refine t_skip ?_
    refine i_then ?_
    refine t_seq ?_
    refine t_seq ?_
    refine t_region ?_
    refine mvI rfl ?_
    refine r_field_pp rfl rfl rfl rfl rfl (by decide) ?_
    refine r_load_pp rfl rfl rfl rfl ?_
    refine r_len rfl rfl rfl ?_
    refine r_sub rfl rfl (by omega) (by omega) ?_
    refine r_call (c_in _ _ _) rfl rfl rfl rfl rfl ?_
    refine r_not rfl ?_
    refine r_nil ?_
    refine i_then ?_
    refine t_cond rfl (fun hc2 => ?_) (fun hc2 => ?_)
    ·
      refine t_seq ?_
      refine t_region ?_
      refine r_build rfl rfl (by exact List.cons_ne_nil _ _) rfl (by repeat (exact (Parts.nil : Parts _ _ [] _))) (by exact (rfl : _ = some [_, _])) ?_
      refine r_storeN rfl rfl (by decide) rfl rfl rfl rfl rfl rfl ?_
      refine asI rfl ?_
      refine r_nil ?_
      refine i_then ?_
      refine t_ret ?_
      refine i_then_ret ?_
      refine i_rcell2 rfl rfl rfl rfl rfl (by decide) rfl rfl rfl ?_ ?_
      all_goals skip
      all_goals first | exact ret_eq rfl rfl (congrArg (fun s => Ty.agg (SpanE.tys s)) (mvE_2 hc1 hc2).2) | exact ret_eq rfl rfl (congrArg (Ty.int .i64) (mvE_2 hc1 hc2).1)
    ·
      refine t_skip ?_
      refine i_then ?_
      refine t_seq ?_
      refine t_region ?_
      refine r_load_ppN rfl rfl rfl (by exact Nat.le_of_ble_eq_true rfl) ?_
      refine r_call (c_opened_no y hs ho) rfl rfl rfl rfl rfl ?_
      refine mvT rfl ?_
      refine r_extract rfl rfl ?_
      refine r_extract rfl rfl ?_
      refine asX rfl ?_
      refine asI rfl ?_
      refine r_nil ?_
      refine i_then ?_
      refine t_seq ?_
      refine t_seq ?_
      refine t_region ?_
      refine mvI rfl ?_
      refine r_bin rfl rfl rfl ?_
      refine r_nil ?_
      refine i_then ?_
      refine t_cond_tt rfl (by rw [decide_eq_false ho]; rfl) ?_
      refine t_seq ?_
      refine t_region ?_
      refine r_build rfl rfl (by exact List.cons_ne_nil _ _) rfl (by repeat (exact (Parts.nil : Parts _ _ [] _))) (by exact (rfl : _ = some [_, _])) ?_
      refine mvI rfl ?_
      refine r_storeN rfl rfl (by decide) rfl rfl rfl rfl rfl rfl ?_
      refine asI rfl ?_
      refine r_nil ?_
      refine i_then ?_
      refine t_ret ?_
      refine i_then_ret ?_
      refine i_rcell2 rfl rfl rfl rfl rfl (by decide) rfl rfl rfl ?_ ?_
      all_goals skip
      all_goals first | exact ret_eq rfl rfl (congrArg (fun s => Ty.agg (SpanE.tys s)) (mvE_3 hc1 hc2 ho).2) | exact ret_eq rfl rfl (congrArg (Ty.int .i64) (mvE_3 hc1 hc2 ho).1)
set_option maxRecDepth 100000 in
theorem c_Moved_ok (y : Yard) (hs : y.Small) (q : Int) (ho : openE y = 0) : Ctr Tryz.prog 48 [yardT y, Ty.int .i64 q] (Ty.tup [Ty.agg (SpanE.tys (movS y q)), Ty.int .i64 (movE y q)]) := by
  refine fn_intro Tryz.func48 rfl (by decide) Tryz.ntmps48 (by exact Nat.le_of_ble_eq_true rfl) fun w0 M0 => ?_
  have hck := open_chk ho
  have hr := chk_right hck
  have hF : Fine y (flowsY y (nth allC)) (amtU y) := fine_open ho
  have hfe := feas_open ho
  have hsm := hs.moves
  have hfl := flows_len (y := y) (c := nth allC)
  have hf34 : (flowsY y (nth allC)).length ≤ 34 := flows_few hr
  refine t_seq ?_
  refine t_region ?_
  refine r_box_agg rfl ?_
  refine r_alloc rfl (by exact List.cons_ne_nil _ _) rfl ?_
  refine asI rfl ?_
  refine r_nil ?_
  refine i_then ?_
  refine t_seq ?_
  refine t_seq ?_
  refine t_region ?_
  refine r_load_ppN rfl rfl rfl (by exact Nat.le_of_ble_eq_true rfl) ?_
  refine r_call (c_Check y hs) rfl rfl rfl rfl rfl ?_
  refine asI rfl ?_
  refine r_nil ?_
  refine i_then ?_
  refine t_seq ?_
  refine t_region ?_
  refine mvI rfl ?_
  refine r_bin rfl rfl rfl ?_
  refine r_nil ?_
  refine i_then ?_
  refine t_cond_ndec rfl (fun hc1 => ?_) (fun hc1 => ?_)
  ·
    refine t_seq ?_
    refine t_region ?_
    refine r_build rfl rfl (by exact List.cons_ne_nil _ _) rfl (by repeat (exact (Parts.nil : Parts _ _ [] _))) (by exact (rfl : _ = some [_, _])) ?_
    refine mvI rfl ?_
    refine r_storeN rfl rfl (by decide) rfl rfl rfl rfl rfl rfl ?_
    refine asI rfl ?_
    refine r_nil ?_
    refine i_then ?_
    refine t_ret ?_
    refine i_then_ret ?_
    refine i_rcell2 rfl rfl rfl rfl rfl (by decide) rfl rfl rfl ?_ ?_
    all_goals skip
    all_goals first | exact ret_eq rfl rfl (congrArg (fun s => Ty.agg (SpanE.tys s)) (mvE_1 hc1).2) | exact ret_eq rfl rfl (congrArg (Ty.int .i64) (mvE_1 hc1).1)
  ·
    refine t_skip ?_
    refine i_then ?_
    refine t_seq ?_
    refine t_seq ?_
    refine t_region ?_
    refine mvI rfl ?_
    refine r_field_pp rfl rfl rfl rfl rfl (by decide) ?_
    refine r_load_pp rfl rfl rfl rfl ?_
    refine r_len rfl rfl rfl ?_
    refine r_sub rfl rfl (by omega) (by omega) ?_
    refine r_call (c_in _ _ _) rfl rfl rfl rfl rfl ?_
    refine r_not rfl ?_
    refine r_nil ?_
    refine i_then ?_
    refine t_cond rfl (fun hc2 => ?_) (fun hc2 => ?_)
    ·
      refine t_seq ?_
      refine t_region ?_
      refine r_build rfl rfl (by exact List.cons_ne_nil _ _) rfl (by repeat (exact (Parts.nil : Parts _ _ [] _))) (by exact (rfl : _ = some [_, _])) ?_
      refine r_storeN rfl rfl (by decide) rfl rfl rfl rfl rfl rfl ?_
      refine asI rfl ?_
      refine r_nil ?_
      refine i_then ?_
      refine t_ret ?_
      refine i_then_ret ?_
      refine i_rcell2 rfl rfl rfl rfl rfl (by decide) rfl rfl rfl ?_ ?_
      all_goals skip
      all_goals first | exact ret_eq rfl rfl (congrArg (fun s => Ty.agg (SpanE.tys s)) (mvE_2 hc1 hc2).2) | exact ret_eq rfl rfl (congrArg (Ty.int .i64) (mvE_2 hc1 hc2).1)
    ·
      refine t_skip ?_
      refine i_then ?_
      refine t_seq ?_
      refine t_region ?_
      refine r_load_ppN rfl rfl rfl (by exact Nat.le_of_ble_eq_true rfl) ?_
      refine r_callG (res' := Ty.tup [Ty.pp (deskS y (flowsY y (nth allC)) 1000 (flowsY y (nth allC)).length), Ty.int .i64 0]) [(1000, 1000)] [1000] [(1000, Cont.vec I64 3 (amtU y))] (k_opened y hs ho) rfl rfl (cv_cons cv_nil (cv_pub rfl rfl)) pre_nil (post_cons (a := 1000) (b := 1000) (by decide) rfl (cc_vec (by decide) rfl) post_nil) (cv_tup (cv_cons (cv_cons cv_nil (cv_pub rfl rfl)) (cv_pp (cv_cons (cv_cons (cv_cons (cv_cons (cv_cons (cv_cons cv_nil (cv_vs (by decide))) (cv_pub rfl rfl)) (cv_pub rfl rfl)) (cv_pub rfl rfl)) (cv_pub rfl rfl)) (cv_pub rfl rfl))))) ?_
      refine mvT rfl ?_
      refine r_extract rfl rfl ?_
      refine r_extract rfl rfl ?_
      refine asP rfl ?_
      refine asI rfl ?_
      refine r_nil ?_
      refine i_then ?_
      refine t_seq ?_
      refine t_seq ?_
      refine t_region ?_
      refine mvI rfl ?_
      refine r_bin rfl rfl rfl ?_
      refine r_nil ?_
      refine i_then ?_
      refine t_cond_ff rfl (rfl) ?_
      refine t_skip ?_
      refine i_then ?_
      refine t_seq ?_
      have hq := mv_in hc2
      refine t_draw mixed rfl ?_
      refine mvP rfl ?_
      refine r_nilCheck_pp rfl ?_
      refine r_field_pp rfl rfl rfl rfl rfl (by decide) ?_
      refine r_load_pp rfl rfl rfl rfl ?_
      refine r_len rfl rfl rfl ?_
      refine r_field_pp rfl rfl rfl rfl rfl (by decide) ?_
      refine r_load_pp rfl rfl rfl rfl ?_
      refine r_len rfl rfl rfl ?_
      refine r_sub rfl rfl (by omega) (by omega) ?_
      refine mvI rfl ?_
      refine r_add rfl rfl (by omega) (by omega) ?_
      refine r_alloc rfl (by exact List.cons_ne_nil _ _) rfl ?_
      refine r_store1 rfl rfl (by decide) rfl rfl (by exact (rfl : _ = Ty.int _ _)) rfl (by exact Nat.le_of_ble_eq_true rfl) rfl rfl (by exact (rfl : _ = [_])) ?_
      refine r_nil ?_
      refine ⟨by kernel_rfl, ?_⟩
      refine i_then ?_
      refine t_seq ?_
      refine t_as (s := 9) rfl (Ty.sub_refl _) ?_
      refine t_asC (tg := 10) rfl (Cont.sub_cells (T := 3) (show [Ty.int .i64 (((flowsY y (nth allC)).length : Int) - (y.moves.length : Int) + q)] = [Ty.int .i64 ((y.bins.length * (y.D + 1) + q.toNat : Nat) : Int)] by congr 2; rw [hfl]; omega)) ?_
      refine t_pub (tg := 10) [(9, Ty.pp [Ty.int .i64 ((y.bins.length * (y.D + 1) + q.toNat : Nat) : Int)])] (by decide) rfl ⟨pub_ptr (T := 3) (off := 0) (l := [Ty.int .i64 ((y.bins.length * (y.D + 1) + q.toNat : Nat) : Int)]) rfl rfl rfl (by decide), trivial⟩ ?_
      refine t_region ?_
      refine mvP rfl ?_
      refine r_makeFunc rfl ?_
      refine r_callG [(1000, 1000)] [] [(1000, Cont.vec I64 3 (hiA (flowsY y (nth allC)) (y.cells + 1) (hasK (y.bins.length * (y.D + 1) + q.toNat)) (amtU y)))] (k_span y (flowsY y (nth allC)) (amtU y) hF hfe (Ty.clo 121 [Ty.pp [Ty.int .i64 ((y.bins.length * (y.D + 1) + q.toNat : Nat) : Int)]]) rfl rfl (hasK (y.bins.length * (y.D + 1) + q.toNat)) (fun i _ => by rw [← hasK_eq]; exact cal_clo (c_Moved1 (i : Nat) _) rfl rfl rfl rfl rfl rfl) rfl) rfl rfl (cv_cons (cv_cons cv_nil (cv_pub rfl rfl)) (cv_pp (cv_cons (cv_cons (cv_cons (cv_cons (cv_cons (cv_cons cv_nil (cv_vs (by exact List.mem_cons_self))) (cv_pub rfl rfl)) (cv_pub rfl rfl)) (cv_pub rfl rfl)) (cv_pub rfl rfl)) (cv_pub rfl rfl)))) (pre_cons (a := 1000) (b := 1000) (by exact List.mem_cons_self) rfl (cc_vec (by exact List.mem_cons_self) rfl) pre_nil) (post_cons (a := 1000) (b := 1000) (by decide) rfl (cc_vec (by decide) rfl) post_nil) (cv_pub rfl rfl) ?_
      refine r_storeN rfl rfl (by decide) rfl rfl rfl rfl rfl rfl ?_
      refine asI rfl ?_
      refine r_nil ?_
      refine i_then ?_
      refine t_ret ?_
      refine i_rcell2 rfl rfl rfl rfl rfl (by decide) rfl rfl rfl ?_ ?_
      all_goals skip
      all_goals first | exact ret_eq rfl rfl (congrArg (fun s => Ty.agg (SpanE.tys s)) (mvE_4 hc1 hc2 ho).2) | exact ret_eq rfl rfl (congrArg (Ty.int .i64) (mvE_4 hc1 hc2 ho).1)
theorem c_Bounds (y : Yard) (hs : y.Small) (q : Int) : Ctr Tryz.prog 22 [yardT y, Ty.int .i64 q] (Ty.tup [Ty.sl SpanE (bndY y q), Ty.int .i64 (bndE y q)]) := by
  by_cases ho : openE y = 0
  · exact c_Bounds_ok y hs q ho
  · exact c_Bounds_no y hs q ho
theorem c_Moved (y : Yard) (hs : y.Small) (q : Int) : Ctr Tryz.prog 48 [yardT y, Ty.int .i64 q] (Ty.tup [Ty.agg (SpanE.tys (movS y q)), Ty.int .i64 (movE y q)]) := by
  by_cases ho : openE y = 0
  · exact c_Moved_ok y hs q ho
  · exact c_Moved_no y hs q ho
end Go.Proofs.YtelbollidfdcjaaGreat

namespace Go.T
open Go Go.RowKit
theorem cv_pre {ρ : List (Nat × Nat)} {l1 l2 : List Ty} (h1 : depsOf l1 = []) (h2 : cdepsOf l1 = []) : Conv ρ (.pp (l1 ++ l2)) (.pp l1) := fun w M M' v wf wf' hre ⟨b, off, e, hm, hlt, hd⟩ =>
  ⟨b, off, e, hre.none b hm, hlt, fun i t hi => by
    have hl := (List.getElem?_eq_some_iff.1 hi).1
    obtain ⟨x, hx, hdx⟩ := hd i t (by rw [List.getElem?_append_left hl]; exact hi)
    refine ⟨x, hx, cv_pub ?_ ?_ w M M' x wf wf' hre hdx⟩
    · refine List.eq_nil_iff_forall_not_mem.2 fun u hu => ?_
      have : u ∈ depsOf l1 := List.mem_flatMap.2 ⟨t, List.mem_of_getElem? hi, hu⟩
      rw [h1] at this; cases this
    · refine List.eq_nil_iff_forall_not_mem.2 fun u hu => ?_
      have : u ∈ cdepsOf l1 := List.mem_flatMap.2 ⟨t, List.mem_of_getElem? hi, hu⟩
      rw [h2] at this; cases this⟩
end Go.T

namespace Go.Proofs.YtelbollidfdcjaaGreat
open Go Go.T
set_option maxHeartbeats 16000000
def hasW (y : Yard) (t : Nat) (i : Nat) : Bool := (List.range y.bins.length).any fun b => decide ((i : Int) = ((y.kept b t : Nat) : Int))
noncomputable def whlA (fl : List Flow) (n : Nat) (y : Yard) (a : List Int) : Nat → List Int
  | 0 => a
  | t + 1 => hiA fl n (hasW y t) (whlA fl n y a t)
noncomputable def whlS (fl : List Flow) (n : Nat) (y : Yard) (k : Nat) : List Span := (List.range k).map fun t => spanU fl n (hasW y t)
noncomputable def whlY (y : Yard) : List Span := if openE y = 0 then whlS (flowsY y (nth allC)) (y.cells + 1) y (y.D + 1) else []
noncomputable def fstE (y : Yard) (q s : Int) (p : Span → Bool) : Int :=
  if knownE y q = 0 then (if (!(decide (s ≥ 0) && decide (s ≤ 300))) = true then 3 else if bndE y q = 0 then (if fidx p (bndY y q) < 0 then 6 else 0) else bndE y q) else knownE y q
noncomputable def fstV (y : Yard) (q s : Int) (p : Span → Bool) : Int := if fstE y q s p = 0 then fidx p (bndY y q) else 0
section
variable {y : Yard} {fl : List Flow} {a : List Int} {n b k : Nat} {q s : Int} {p : Span → Bool} {i t : Nat}
theorem whl_feas (hN : Net fl n) (hn : 0 < n) (hB : Bd fl) (h : Feas fl n a) : ∀ t, Feas fl n (whlA fl n y a t)
  | 0 => h
  | t + 1 => (span_of hN hn hB (whl_feas hN hn hB h t)).2.1
theorem whl_zero : a = whlA fl n y a 0 := rfl
theorem whl_succ (t : Nat) : hiA fl n (hasW y t) (whlA fl n y a t) = whlA fl n y a (t + 1) := rfl
theorem whlS_snoc (t : Nat) : whlS fl n y t ++ [spanU fl n (hasW y t)] = whlS fl n y (t + 1) := by unfold whlS; rw [List.range_succ, List.map_append]; rfl
theorem whlS_len (t : Nat) : (whlS fl n y t).length = t := by unfold whlS; rw [List.length_map, List.length_range]
theorem whlS_zero : whlS fl n y 0 = [] := rfl
theorem hasW_yes (hb : b < y.bins.length) (h : (i : Int) = ((y.kept b t : Nat) : Int)) : true = hasW y t i := (List.any_eq_true.2 ⟨b, List.mem_range.2 hb, decide_eq_true h⟩).symm
theorem hasW_no (h : ∀ b, b < y.bins.length → ¬ (i : Int) = ((y.kept b t : Nat) : Int)) : false = hasW y t i := by
  refine (List.any_eq_false.2 fun b hb => ?_).symm
  rw [decide_eq_true_eq]; exact h b (List.mem_range.1 hb)
theorem whlY_no (h : openE y ≠ 0) : [] = whlY y := (if_neg h).symm
theorem whlY_yes (h : openE y = 0) : whlS (flowsY y (nth allC)) (y.cells + 1) y (y.D + 1) = whlY y := (if_pos h).symm
theorem fst_v {e : Int} (h : e = fstE y q s p) (h0 : e ≠ 0) : 0 = fstV y q s p := by unfold fstV; rw [← h, if_neg h0]
theorem fst_1 (h : ¬ knownE y q = 0) : knownE y q = fstE y q s p ∧ 0 = fstV y q s p := by
  have e : knownE y q = fstE y q s p := (if_neg h).symm
  exact ⟨e, fst_v e h⟩
theorem fst_2 (h : knownE y q = 0) (h2 : (!(decide (s ≥ 0) && decide (s ≤ 300))) = true) : 3 = fstE y q s p ∧ 0 = fstV y q s p := by
  have e : 3 = fstE y q s p := by unfold fstE; rw [if_pos h, if_pos h2]
  exact ⟨e, fst_v e (by decide)⟩
theorem fst_3 (h : knownE y q = 0) (h2 : (!(decide (s ≥ 0) && decide (s ≤ 300))) = false) (h3 : ¬ bndE y q = 0) : bndE y q = fstE y q s p ∧ 0 = fstV y q s p := by
  have e : bndE y q = fstE y q s p := by unfold fstE; rw [if_pos h, if_neg (by rw [h2]; decide), if_neg h3]
  exact ⟨e, fst_v e h3⟩
theorem fst_4 (h : knownE y q = 0) (h2 : (!(decide (s ≥ 0) && decide (s ≤ 300))) = false) (h3 : bndE y q = 0) (h4 : fidx p (bndY y q) < 0) : 6 = fstE y q s p ∧ 0 = fstV y q s p := by
  have e : 6 = fstE y q s p := by unfold fstE; rw [if_pos h, if_neg (by rw [h2]; decide), if_pos h3, if_pos h4]
  exact ⟨e, fst_v e (by decide)⟩
theorem fst_5 (h : knownE y q = 0) (h2 : (!(decide (s ≥ 0) && decide (s ≤ 300))) = false) (h3 : bndE y q = 0) (h4 : ¬ fidx p (bndY y q) < 0) : 0 = fstE y q s p ∧ fidx p (bndY y q) = fstV y q s p := by
  have e : 0 = fstE y q s p := by unfold fstE; rw [if_pos h, if_neg (by rw [h2]; decide), if_pos h3, if_neg h4]
  exact ⟨e, by unfold fstV; rw [← e]; rfl⟩
end
attribute [local irreducible] flowsY loL Way.beg Way.fin Way.room waysQ sendM overUp overL over waysL reachM hasM lackM lackB mostL pathM sendS stuckM settleM leastL addW goalG betterM bestM cycM roundM hasUp hasV spanU loA hiA firstK Yard.kept Yard.cells checkY knownE allC toldY amtU openE bndA bndS bndE bndY movE movS hasB hasK whlA whlS whlY hasW fstE fstV
attribute [local irreducible] dInt dBool dSl dPp dPtr dAgg dTup dClo dAny dEx dStr dGd dCells dVec dVs dRow dOp nth Tri Into TOps Ctr bodyPost Exit.then Exit.inBlock Code.wp Code.wpIn dWhen dPa dPe dAo dArr dMp dPm dMap dCJ CtrG CtrI OpY keepPost iterPost bodyPostM roundQ
set_option maxRecDepth 100000 in
theorem c_Whole1 (y : Yard) (hr : y.Right) (i t : Nat) (ht : t ≤ y.D) : Ctr Tryz.prog 88 [Ty.int .i64 ((i : Nat) : Int), Ty.pp (yardTys y), Ty.pp [Ty.pp (yardTys y)], Ty.pp [Ty.int .i64 ((t : Nat) : Int)]] (Ty.bool (hasW y t i)) := by
  refine fn_intro Tryz.func88 rfl (by decide) Tryz.ntmps88 (by exact Nat.le_of_ble_eq_true rfl) fun w0 M0 => ?_
  have h1 := hr.bins
  refine t_seq ?_
  refine t_region ?_
  refine asB rfl ?_
  refine r_nil ?_
  refine i_then ?_
  refine t_seq ?_
  refine t_seq ?_
  refine t_region ?_
  refine r_field_pp rfl rfl rfl rfl rfl (by decide) ?_
  refine r_load_pp rfl rfl rfl rfl ?_
  refine r_len rfl rfl rfl ?_
  refine mvI rfl ?_
  refine r_nil ?_
  refine i_then ?_
  refine t_block ?_
  refine t_loop (fun (b : {b : Nat // b ≤ y.bins.length ∧ ∀ c, c < b → ¬ (i : Int) = ((y.kept c t : Nat) : Int)}) => live [(0, Ty.int .i64 ((i : Nat) : Int)), (1, Ty.pp (yardTys y)), (2, Ty.pp [Ty.pp (yardTys y)]), (3, Ty.pp [Ty.int .i64 ((t : Nat) : Int)]), (9, Ty.int .i64 y.bins.length), (10, Ty.int .i64 (b.1 : Nat))] []) (fun b => y.bins.length - b.1) (⟨0, Nat.zero_le _, fun c hc => absurd hc (Nat.not_lt_zero c)⟩) ?_ fun b => ?_
  · (refine Ent.mk' ?_ ?_ <;> (repeat' (first | exact allSub_zero | exact allTags_nil | refine allSub_succ' ?_ (Ty.sub_any _) | refine allSub_succ' ?_ (Ty.sub_refl _))))
  ·
    have hb := b.2.1
    refine t_seq ?_
    refine t_region ?_
    refine r_bin rfl rfl rfl ?_
    refine r_nil ?_
    refine i_then ?_
    refine t_seq ?_
    refine t_cond_dec rfl (fun hc1 => ?_) (fun hc1 => ?_)
    ·
      refine t_skip ?_
      refine i_then ?_
      refine t_seq ?_
      refine t_block ?_
      refine t_seq ?_
      refine t_region ?_
      refine mvI rfl ?_
      refine asI rfl ?_
      refine r_nil ?_
      refine i_then ?_
      refine t_seq ?_
      refine t_region ?_
      refine mvI rfl ?_
      refine r_load_pp rfl rfl rfl rfl ?_
      refine mvI rfl ?_
      refine r_load_pp rfl rfl rfl rfl ?_
      refine r_call (c_kept y hr b.1 t (by omega) ht) rfl rfl rfl rfl rfl ?_
      refine r_bin rfl rfl rfl ?_
      refine r_nil ?_
      refine i_then ?_
      refine t_cond_dec rfl (fun hc2 => ?_) (fun hc2 => ?_)
      ·
        refine t_seq ?_
        refine t_region ?_
        refine asB rfl ?_
        refine r_nil ?_
        refine i_then ?_
        refine t_ret ?_
        refine i_block_ret ?_
        refine i_then_ret ?_
        refine i_then_ret ?_
        refine i_block_ret ?_
        refine i_then_ret ?_
        refine i_rp1 rfl rfl ?_
        all_goals skip
        all_goals exact ret_eq rfl rfl (congrArg Ty.bool (hasW_yes (by omega) hc2))
      ·
        refine t_skip ?_
        refine i_block ?_
        refine i_then ?_
        refine t_region ?_
        refine r_add rfl rfl (by omega) (by omega) ?_
        refine mvI rfl ?_
        refine r_nil ?_
        refine i_round (⟨b.1 + 1, by omega, fun c hc => by by_cases e : c = b.1; (subst e; exact hc2); exact b.2.2 c (by omega)⟩) ?_ (by show y.bins.length - (b.1 + 1) < y.bins.length - b.1; omega)
        (refine Ent.mk' ?_ ?_ <;> (repeat' (first | exact allSub_zero | exact allTags_nil | refine allSub_succ' ?_ (Ty.sub_any _) | refine allSub_succ' ?_ (Ty.sub_refl _))))
        all_goals skip
    ·
      refine t_exit ?_
      refine i_then_exit ?_
      refine i_then_exit ?_
      refine i_block_exit rfl ?_
      refine i_then ?_
      refine t_seq ?_
      refine t_region ?_
      refine asB rfl ?_
      refine r_nil ?_
      refine i_then ?_
      refine t_ret ?_
      refine i_rp1 rfl rfl ?_
      all_goals skip
      all_goals exact ret_eq rfl rfl (congrArg Ty.bool (hasW_no fun c hc => b.2.2 c (by have := b.2.1; omega)))
set_option maxRecDepth 100000 in
theorem c_Whole_no (y : Yard) (hs : y.Small) (ho : openE y ≠ 0) : Ctr Tryz.prog 21 [yardT y] (Ty.tup [Ty.sl SpanE (whlY y), Ty.int .i64 (openE y)]) := by
  refine fn_intro Tryz.func21 rfl (by decide) Tryz.ntmps21 (by exact Nat.le_of_ble_eq_true rfl) fun w0 M0 => ?_
  refine t_seq ?_
  refine t_region ?_
  refine r_box_agg rfl ?_
  refine asX rfl ?_
  refine asI rfl ?_
  refine r_nil ?_
  refine i_then ?_
  refine t_seq ?_
  refine t_region ?_
  refine r_load_ppN rfl rfl rfl (by exact Nat.le_of_ble_eq_true rfl) ?_
  refine r_call (c_opened_no y hs ho) rfl rfl rfl rfl rfl ?_
  refine mvT rfl ?_
  refine r_extract rfl rfl ?_
  refine r_extract rfl rfl ?_
  refine r_alloc rfl (by exact List.cons_ne_nil _ _) rfl ?_
  refine r_store1 rfl rfl (by decide) rfl rfl (by exact (rfl : _ = Ty.ex _)) rfl (by exact Nat.le_of_ble_eq_true rfl) rfl rfl (by exact (rfl : _ = [_])) ?_
  refine asI rfl ?_
  refine r_nil ?_
  refine i_then ?_
  refine t_seq ?_
  refine t_seq ?_
  refine t_region ?_
  refine mvI rfl ?_
  refine r_bin rfl rfl rfl ?_
  refine r_nil ?_
  refine i_then ?_
  refine t_cond_tt rfl (by rw [decide_eq_false ho]; rfl) ?_
  refine t_seq ?_
  refine t_region ?_
  refine mvI rfl ?_
  refine asX rfl ?_
  refine asI rfl ?_
  refine r_nil ?_
  refine i_then ?_
  refine t_ret ?_
  refine i_then_ret ?_
  refine i_rp2 rfl rfl rfl ?_ ?_
  all_goals first | exact ret_refl rfl rfl | skip
  all_goals exact ret_nil_eq (whlY_no ho).symm
set_option maxRecDepth 100000 in
theorem c_Whole_ok (y : Yard) (hs : y.Small) (ho : openE y = 0) : Ctr Tryz.prog 21 [yardT y] (Ty.tup [Ty.sl SpanE (whlY y), Ty.int .i64 (openE y)]) := by
  refine fn_intro Tryz.func21 rfl (by decide) Tryz.ntmps21 (by exact Nat.le_of_ble_eq_true rfl) fun w0 M0 => ?_
  have hck := open_chk ho
  have hr := chk_right hck
  have hF : Fine y (flowsY y (nth allC)) (amtU y) := fine_open ho
  have hfe := feas_open ho
  have h1 := hr.bins
  have h2 := hr.days
  have h3 := D_eq hr
  have hft := whl_feas (y := y) hF.net (Nat.succ_pos _) hF.bd hfe
  refine t_seq ?_
  refine t_region ?_
  refine r_box_agg rfl ?_
  refine asX rfl ?_
  refine asI rfl ?_
  refine r_nil ?_
  refine i_then ?_
  refine t_seq ?_
  refine t_region ?_
  refine r_load_ppN rfl rfl rfl (by exact Nat.le_of_ble_eq_true rfl) ?_
  refine r_callG (res' := Ty.tup [Ty.pp (deskS y (flowsY y (nth allC)) 1000 (flowsY y (nth allC)).length), Ty.int .i64 0]) [(1000, 1000)] [1000] [(1000, Cont.vec I64 3 (amtU y))] (k_opened y hs ho) rfl rfl (cv_cons cv_nil (cv_pub rfl rfl)) pre_nil (post_cons (a := 1000) (b := 1000) (by decide) rfl (cc_vec (by decide) rfl) post_nil) (cv_tup (cv_cons (cv_cons cv_nil (cv_pub rfl rfl)) (cv_pp (cv_cons (cv_cons (cv_cons (cv_cons (cv_cons (cv_cons cv_nil (cv_vs (by decide))) (cv_pub rfl rfl)) (cv_pub rfl rfl)) (cv_pub rfl rfl)) (cv_pub rfl rfl)) (cv_pub rfl rfl))))) ?_
  refine mvT rfl ?_
  refine r_extract rfl rfl ?_
  refine r_extract rfl rfl ?_
  refine r_alloc rfl (by exact List.cons_ne_nil _ _) rfl ?_
  refine r_store1 rfl rfl (by decide) rfl rfl (by exact (rfl : _ = Ty.pp _)) rfl (by exact Nat.le_of_ble_eq_true rfl) rfl rfl (by exact (rfl : _ = [_])) ?_
  refine asI rfl ?_
  refine r_nil ?_
  refine i_then ?_
  refine t_seq ?_
  refine t_seq ?_
  refine t_region ?_
  refine mvI rfl ?_
  refine r_bin rfl rfl rfl ?_
  refine r_nil ?_
  refine i_then ?_
  refine t_cond_ff rfl (rfl) ?_
  refine t_skip ?_
  refine i_then ?_
  refine t_seq ?_
  refine t_pub (tg := 5) [(4, Ty.pp [Ty.pp (deskS y (flowsY y (nth allC)) 1000 (flowsY y (nth allC)).length)])] (by decide) rfl ⟨pub_ptr (T := 152) (off := 0) (l := [Ty.pp (deskS y (flowsY y (nth allC)) 1000 (flowsY y (nth allC)).length)]) rfl rfl rfl (by decide), trivial⟩ ?_
  refine t_region ?_
  refine asX rfl ?_
  refine r_nil ?_
  refine i_then ?_
  refine t_seq ?_
  refine t_seq ?_
  refine t_region ?_
  refine r_field_pp rfl rfl rfl rfl rfl (by decide) ?_
  refine r_load_pp rfl rfl rfl rfl ?_
  refine r_add rfl rfl (by omega) (by omega) ?_
  refine mvI rfl ?_
  refine r_nil ?_
  refine i_then ?_
  refine t_block ?_
  refine t_loop (fun (t : {t : Nat // t ≤ y.D + 1}) => live [(1, Ty.pp (yardTys y)), (4, Ty.pp [Ty.pp (deskS y (flowsY y (nth allC)) 1000 (flowsY y (nth allC)).length)]), (6, Ty.row SpanE 37 27 (whlS (flowsY y (nth allC)) (y.cells + 1) y t.1)), (18, Ty.int .i64 (y.days + 1)), (19, Ty.int .i64 (t.1 : Nat))] [(1000, Cont.vec I64 3 (whlA (flowsY y (nth allC)) (y.cells + 1) y (amtU y) t.1))]) (fun t => y.D + 1 - t.1) (⟨0, by omega⟩) ?_ fun t => ?_
  · (refine Ent.mk' ?_ ?_ <;> (repeat' (first | exact allSub_zero | exact allTags_nil | refine allSub_succ' ?_ (Ty.sub_any _) | refine allSub_succ' ?_ (Ty.sub_refl _) | refine allTags_cons rfl ?_ ?_ | refine allSub_succ' ?_ ?_)))
    all_goals first | exact nil_rowS whlS_zero | exact Cont.sub_vec whl_zero
  ·
    have hbl := whlS_len (fl := (flowsY y (nth allC))) (n := (y.cells + 1)) (y := y) t.1
    have ht := t.2
    have hFt : Fine y (flowsY y (nth allC)) (whlA (flowsY y (nth allC)) (y.cells + 1) y (amtU y) t.1) := ⟨hr, hF.net, hF.bd, (hft t.1).1, hF.few⟩
    refine t_seq ?_
    refine t_region ?_
    refine r_bin rfl rfl rfl ?_
    refine r_nil ?_
    refine i_then ?_
    refine t_seq ?_
    refine t_cond_dec rfl (fun hc2 => ?_) (fun hc2 => ?_)
    ·
      refine t_skip ?_
      refine i_then ?_
      refine t_seq ?_
      refine t_block ?_
      refine t_seq ?_
      refine t_region ?_
      refine mvI rfl ?_
      refine r_alloc rfl (by exact List.cons_ne_nil _ _) rfl ?_
      refine r_store1 rfl rfl (by decide) rfl rfl (by exact (rfl : _ = Ty.int _ _)) rfl (by exact Nat.le_of_ble_eq_true rfl) rfl rfl (by exact (rfl : _ = [_])) ?_
      refine r_nil ?_
      refine i_then ?_
      refine t_pub (tg := 8) [(7, Ty.pp [Ty.int .i64 ((t.1 : Nat) : Int)])] (by decide) rfl ⟨pub_ptr (T := 3) (off := 0) (l := [Ty.int .i64 ((t.1 : Nat) : Int)]) rfl rfl rfl (by decide), trivial⟩ ?_
      refine t_region ?_
      refine mvR rfl ?_
      refine r_load_pp rfl rfl rfl rfl ?_
      refine r_makeFunc rfl ?_
      refine r_callG [(1000, 1000)] [] [(1000, Cont.vec I64 3 (hiA (flowsY y (nth allC)) (y.cells + 1) (hasW y t.1) (whlA (flowsY y (nth allC)) (y.cells + 1) y (amtU y) t.1)))] (k_span y (flowsY y (nth allC)) (whlA (flowsY y (nth allC)) (y.cells + 1) y (amtU y) t.1) hFt (hft t.1) (Ty.clo 88 [Ty.pp (yardTys y), Ty.pp [Ty.pp (yardTys y)], Ty.pp [Ty.int .i64 ((t.1 : Nat) : Int)]]) rfl rfl (hasW y t.1) (fun i _ => cal_clo (c_Whole1 y hr i t.1 (by omega)) rfl rfl rfl rfl rfl rfl) rfl) rfl rfl (cv_cons (cv_cons cv_nil (cv_clo (cv_cons (cv_cons (cv_cons cv_nil (cv_pub rfl rfl)) (cv_pp (cv_cons cv_nil (cv_pre (l1 := yardTys y) (l2 := [Ty.sl FlowE (flowsY y (nth allC)), Ty.vs 1000 (flowsY y (nth allC)).length]) rfl rfl)))) (cv_pub rfl rfl)))) (cv_pp (cv_cons (cv_cons (cv_cons (cv_cons (cv_cons (cv_cons cv_nil (cv_vs (by exact List.mem_cons_self))) (cv_pub rfl rfl)) (cv_pub rfl rfl)) (cv_pub rfl rfl)) (cv_pub rfl rfl)) (cv_pub rfl rfl)))) (pre_cons (a := 1000) (b := 1000) (by exact List.mem_cons_self) rfl (cc_vec (by exact List.mem_cons_self) rfl) pre_nil) (post_cons (a := 1000) (b := 1000) (by decide) rfl (cc_vec (by decide) rfl) post_nil) (cv_pub rfl rfl) ?_
      refine r_buildSlice (E := SpanE) (xs := [spanU (flowsY y (nth allC)) (y.cells + 1) (hasW y t.1)]) rfl rfl rfl rfl rfl (by decide) (by decide) (by repeat (first | exact (Parts.nil : Parts _ _ [] _) | (show Parts _ _ ((_, _) :: _) _; apply Parts.agg; (· exact (rfl : _ = Ty.agg _))))) (by exact rfl) rfl ?_
      refine r_append rfl rfl (by decide) rfl rfl rfl rfl rfl rfl (by decide) (by (simp <;> omega)) (by (simp <;> omega)) ?_
      refine asR rfl ?_
      refine r_nil ?_
      refine i_block ?_
      refine i_then ?_
      refine t_region ?_
      refine r_add rfl rfl (by omega) (by omega) ?_
      refine mvI rfl ?_
      refine r_nil ?_
      refine i_round (⟨t.1 + 1, by omega⟩) ?_ (by show y.D + 1 - (t.1 + 1) < y.D + 1 - t.1; omega)
      (refine Ent.mk' ?_ ?_ <;> (repeat' (first | exact allSub_zero | exact allTags_nil | refine allSub_succ' ?_ (Ty.sub_any _) | refine allSub_succ' ?_ (Ty.sub_refl _) | refine allTags_cons rfl ?_ ?_ | refine allSub_succ' ?_ ?_)))
      all_goals skip
      all_goals first | exact Ty.sub_row (whlS_snoc _) | exact Cont.sub_vec (whl_succ _)
    ·
      refine t_exit ?_
      refine i_then_exit ?_
      refine i_then_exit ?_
      refine i_block_exit rfl ?_
      refine i_then ?_
      refine t_seq ?_
      refine t_region ?_
      refine mvR rfl ?_
      refine asR rfl ?_
      refine asI rfl ?_
      refine r_nil ?_
      refine i_then ?_
      refine t_ret ?_
      refine i_rp2 rfl rfl rfl ?_ ?_
      all_goals skip
      all_goals first | exact ret_row_eq (by decide) ((show _ = whlS (flowsY y (nth allC)) (y.cells + 1) y (y.D + 1) by rw [show t.1 = y.D + 1 by have := t.2; omega]).trans (whlY_yes ho)) | exact ret_eq rfl rfl (congrArg (Ty.int .i64) ho.symm)
set_option maxRecDepth 100000 in
theorem c_first (y : Yard) (hs : y.Small) (q s : Int) (t : Ty) (h1 : t.one = true) (p : Span → Bool) (hd : t.deps = []) (hc : t.cdeps = []) (hf : ∀ x ∈ bndY y q, Cal Tryz.prog t [Ty.agg (SpanE.tys x)] (Ty.bool (p x))) : Ctr Tryz.prog 100 [yardT y, Ty.int .i64 q, Ty.int .i64 s, t] (Ty.tup [Ty.int .i64 (fstV y q s p), Ty.int .i64 (fstE y q s p)]) := by
  refine fn_intro Tryz.func100 rfl (by decide) Tryz.ntmps100 (by exact Nat.le_of_ble_eq_true rfl) fun w0 M0 => ?_
  refine t_seq ?_
  refine t_region ?_
  refine r_box_agg rfl ?_
  refine asI rfl ?_
  refine asI rfl ?_
  refine r_nil ?_
  refine i_then ?_
  refine t_seq ?_
  refine t_seq ?_
  refine t_region ?_
  refine r_load_ppN rfl rfl rfl (by exact Nat.le_of_ble_eq_true rfl) ?_
  refine mvI rfl ?_
  refine r_call (c_known y hs q) rfl rfl rfl rfl rfl ?_
  refine asI rfl ?_
  refine r_nil ?_
  refine i_then ?_
  refine t_seq ?_
  refine t_region ?_
  refine mvI rfl ?_
  refine r_bin rfl rfl rfl ?_
  refine r_nil ?_
  refine i_then ?_
  refine t_cond_ndec rfl (fun hc1 => ?_) (fun hc1 => ?_)
  ·
    refine t_seq ?_
    refine t_region ?_
    refine mvI rfl ?_
    refine asI rfl ?_
    refine asI rfl ?_
    refine r_nil ?_
    refine i_then ?_
    refine t_ret ?_
    refine i_then_ret ?_
    refine i_rp2 rfl rfl rfl ?_ ?_
    all_goals skip
    all_goals first | exact ret_eq rfl rfl (congrArg (Ty.int .i64) (fst_1 hc1).1) | exact ret_eq rfl rfl (congrArg (Ty.int .i64) (fst_1 hc1).2)
  ·
    refine t_skip ?_
    refine i_then ?_
    refine t_seq ?_
    refine t_seq ?_
    refine t_region ?_
    refine mvI rfl ?_
    refine r_call (c_in _ _ _) rfl rfl rfl rfl rfl ?_
    refine r_not rfl ?_
    refine r_nil ?_
    refine i_then ?_
    refine t_cond rfl (fun hc2 => ?_) (fun hc2 => ?_)
    ·
      refine t_seq ?_
      refine t_region ?_
      refine asI rfl ?_
      refine asI rfl ?_
      refine r_nil ?_
      refine i_then ?_
      refine t_ret ?_
      refine i_then_ret ?_
      refine i_rp2 rfl rfl rfl ?_ ?_
      all_goals skip
      all_goals first | exact ret_eq rfl rfl (congrArg (Ty.int .i64) (fst_2 hc1 hc2).1) | exact ret_eq rfl rfl (congrArg (Ty.int .i64) (fst_2 hc1 hc2).2)
    ·
      refine t_skip ?_
      refine i_then ?_
      refine t_seq ?_
      refine t_region ?_
      refine r_load_ppN rfl rfl rfl (by exact Nat.le_of_ble_eq_true rfl) ?_
      refine mvI rfl ?_
      refine r_call (c_Bounds y hs q) rfl rfl rfl rfl rfl ?_
      refine mvT rfl ?_
      refine r_extract rfl rfl ?_
      refine r_extract rfl rfl ?_
      refine asS rfl ?_
      refine asI rfl ?_
      refine r_nil ?_
      refine i_then ?_
      refine t_seq ?_
      refine t_seq ?_
      refine t_region ?_
      refine mvI rfl ?_
      refine r_bin rfl rfl rfl ?_
      refine r_nil ?_
      refine i_then ?_
      refine t_cond_ndec rfl (fun hc3 => ?_) (fun hc3 => ?_)
      ·
        refine t_seq ?_
        refine t_region ?_
        refine mvI rfl ?_
        refine asI rfl ?_
        refine asI rfl ?_
        refine r_nil ?_
        refine i_then ?_
        refine t_ret ?_
        refine i_then_ret ?_
        refine i_rp2 rfl rfl rfl ?_ ?_
        all_goals skip
        all_goals first | exact ret_eq rfl rfl (congrArg (Ty.int .i64) (fst_3 hc1 hc2 hc3).1) | exact ret_eq rfl rfl (congrArg (Ty.int .i64) (fst_3 hc1 hc2 hc3).2)
      ·
        refine t_skip ?_
        refine i_then ?_
        refine t_seq ?_
        refine t_region ?_
        refine mvS rfl ?_
        refine r_move (ty := t) rfl ?_
        refine r_call (c_IndexFunc_spn (bndY y q) t h1 p hd hc hf) rfl (by exact deps_cons rfl (deps_cons hd rfl)) (by exact cdeps_cons rfl (cdeps_cons hc rfl)) rfl rfl ?_
        refine asI rfl ?_
        refine r_nil ?_
        refine i_then ?_
        refine t_seq ?_
        refine t_seq ?_
        refine t_region ?_
        refine mvI rfl ?_
        refine r_bin rfl rfl rfl ?_
        refine r_nil ?_
        refine i_then ?_
        refine t_cond_dec rfl (fun hc4 => ?_) (fun hc4 => ?_)
        ·
          refine t_seq ?_
          refine t_region ?_
          refine asI rfl ?_
          refine asI rfl ?_
          refine r_nil ?_
          refine i_then ?_
          refine t_ret ?_
          refine i_then_ret ?_
          refine i_rp2 rfl rfl rfl ?_ ?_
          all_goals skip
          all_goals first | exact ret_eq rfl rfl (congrArg (Ty.int .i64) (fst_4 hc1 hc2 hc3 hc4).1) | exact ret_eq rfl rfl (congrArg (Ty.int .i64) (fst_4 hc1 hc2 hc3 hc4).2)
        ·
          refine t_skip ?_
          refine i_then ?_
          refine t_seq ?_
          refine t_region ?_
          refine mvI rfl ?_
          refine asI rfl ?_
          refine asI rfl ?_
          refine r_nil ?_
          refine i_then ?_
          refine t_ret ?_
          refine i_rp2 rfl rfl rfl ?_ ?_
          all_goals skip
          all_goals first | exact ret_eq rfl rfl (congrArg (Ty.int .i64) (fst_5 hc1 hc2 hc3 hc4).1) | exact ret_eq rfl rfl (congrArg (Ty.int .i64) (fst_5 hc1 hc2 hc3 hc4).2)
set_option maxRecDepth 100000 in
theorem c_Surely1 (s : Span) (k : Int) : Ctr Tryz.prog 101 [Ty.agg (SpanE.tys s), Ty.pp [Ty.int .i64 k]] (Ty.bool (decide (s.lo ≥ k))) := by
  refine fn_intro Tryz.func101 rfl (by decide) Tryz.ntmps101 (by exact Nat.le_of_ble_eq_true rfl) fun w0 M0 => ?_
  refine t_seq ?_
  refine t_region ?_
  refine r_box_agg rfl ?_
  refine asB rfl ?_
  refine r_nil ?_
  refine i_then ?_
  refine t_seq ?_
  refine t_region ?_
  refine r_field_pp rfl rfl rfl rfl rfl (by decide) ?_
  refine r_load_pp rfl rfl rfl rfl ?_
  refine r_load_pp rfl rfl rfl rfl ?_
  refine r_bin rfl rfl rfl ?_
  refine asB rfl ?_
  refine r_nil ?_
  refine i_then ?_
  refine t_ret ?_
  refine i_rp1 rfl rfl ?_
  all_goals exact ret_refl rfl rfl
set_option maxRecDepth 100000 in
theorem c_Surely (y : Yard) (hs : y.Small) (q s : Int) : Ctr Tryz.prog 33 [yardT y, Ty.int .i64 q, Ty.int .i64 s] (Ty.tup [Ty.int .i64 (fstV y q s fun x => decide (x.lo ≥ s)), Ty.int .i64 (fstE y q s fun x => decide (x.lo ≥ s))]) := by
  refine fn_intro Tryz.func33 rfl (by decide) Tryz.ntmps33 (by exact Nat.le_of_ble_eq_true rfl) fun w0 M0 => ?_
  refine t_seq ?_
  refine t_region ?_
  refine r_box_agg rfl ?_
  refine r_box_one (by exact (rfl : _ = Ty.int _ _)) rfl ?_
  refine asI rfl ?_
  refine asI rfl ?_
  refine r_nil ?_
  refine i_then ?_
  refine t_seq ?_
  refine t_region ?_
  refine r_load_ppN rfl rfl rfl (by exact Nat.le_of_ble_eq_true rfl) ?_
  refine mvI rfl ?_
  refine r_load_pp rfl rfl rfl rfl ?_
  refine r_makeFunc rfl ?_
  refine r_call (c_first y hs q s (Ty.clo 101 [Ty.pp [Ty.int .i64 s]]) rfl (fun x => decide (x.lo ≥ s)) rfl rfl fun x _ => cal_clo (c_Surely1 x s) rfl rfl rfl rfl rfl rfl) rfl rfl rfl rfl rfl ?_
  refine r_extract rfl rfl ?_
  refine r_extract rfl rfl ?_
  refine asI rfl ?_
  refine asI rfl ?_
  refine r_nil ?_
  refine i_then ?_
  refine t_ret ?_
  refine i_rp2 rfl rfl rfl ?_ ?_
  all_goals exact ret_refl rfl rfl
set_option maxRecDepth 100000 in
theorem c_Perhaps1 (s : Span) (k : Int) : Ctr Tryz.prog 102 [Ty.agg (SpanE.tys s), Ty.pp [Ty.int .i64 k]] (Ty.bool (decide (s.hi ≥ k))) := by
  refine fn_intro Tryz.func102 rfl (by decide) Tryz.ntmps102 (by exact Nat.le_of_ble_eq_true rfl) fun w0 M0 => ?_
  refine t_seq ?_
  refine t_region ?_
  refine r_box_agg rfl ?_
  refine asB rfl ?_
  refine r_nil ?_
  refine i_then ?_
  refine t_seq ?_
  refine t_region ?_
  refine r_field_pp rfl rfl rfl rfl rfl (by decide) ?_
  refine r_load_pp rfl rfl rfl rfl ?_
  refine r_load_pp rfl rfl rfl rfl ?_
  refine r_bin rfl rfl rfl ?_
  refine asB rfl ?_
  refine r_nil ?_
  refine i_then ?_
  refine t_ret ?_
  refine i_rp1 rfl rfl ?_
  all_goals exact ret_refl rfl rfl
set_option maxRecDepth 100000 in
theorem c_Perhaps (y : Yard) (hs : y.Small) (q s : Int) : Ctr Tryz.prog 34 [yardT y, Ty.int .i64 q, Ty.int .i64 s] (Ty.tup [Ty.int .i64 (fstV y q s fun x => decide (x.hi ≥ s)), Ty.int .i64 (fstE y q s fun x => decide (x.hi ≥ s))]) := by
  refine fn_intro Tryz.func34 rfl (by decide) Tryz.ntmps34 (by exact Nat.le_of_ble_eq_true rfl) fun w0 M0 => ?_
  refine t_seq ?_
  refine t_region ?_
  refine r_box_agg rfl ?_
  refine r_box_one (by exact (rfl : _ = Ty.int _ _)) rfl ?_
  refine asI rfl ?_
  refine asI rfl ?_
  refine r_nil ?_
  refine i_then ?_
  refine t_seq ?_
  refine t_region ?_
  refine r_load_ppN rfl rfl rfl (by exact Nat.le_of_ble_eq_true rfl) ?_
  refine mvI rfl ?_
  refine r_load_pp rfl rfl rfl rfl ?_
  refine r_makeFunc rfl ?_
  refine r_call (c_first y hs q s (Ty.clo 102 [Ty.pp [Ty.int .i64 s]]) rfl (fun x => decide (x.hi ≥ s)) rfl rfl fun x _ => cal_clo (c_Perhaps1 x s) rfl rfl rfl rfl rfl rfl) rfl rfl rfl rfl rfl ?_
  refine r_extract rfl rfl ?_
  refine r_extract rfl rfl ?_
  refine asI rfl ?_
  refine asI rfl ?_
  refine r_nil ?_
  refine i_then ?_
  refine t_ret ?_
  refine i_rp2 rfl rfl rfl ?_ ?_
  all_goals exact ret_refl rfl rfl
theorem c_Whole (y : Yard) (hs : y.Small) : Ctr Tryz.prog 21 [yardT y] (Ty.tup [Ty.sl SpanE (whlY y), Ty.int .i64 (openE y)]) := by
  by_cases ho : openE y = 0
  · exact c_Whole_ok y hs ho
  · exact c_Whole_no y hs ho
end Go.Proofs.YtelbollidfdcjaaGreat

namespace Go.Proofs.YtelbollidfdcjaaGreat
open Go Go.T
set_option maxHeartbeats 16000000
structure Prf where
  cells : List Cel
  out : Bool
  deriving Inhabited
def prfTys (p : Prf) : List Ty := [Ty.sl CelE p.cells, Ty.bool p.out]
def wrongW (fl : List Flow) : Int := fl.foldl (fun m f => max m (f.lo - f.hi)) (-300)
def inP (y : Yard) (l : List Cel) (c : Int) : Bool := l.any fun x => decide (y.cell x.bin x.day = c)
def cmB (y : Yard) (p : Prf) (f : Flow) : Bool := if p.out = true then (inP y p.cells f.src && !inP y p.cells f.dst) else (inP y p.cells f.dst && !inP y p.cells f.src)
def goB (y : Yard) (p : Prf) (f : Flow) : Bool := if p.out = true then (inP y p.cells f.dst && !inP y p.cells f.src) else (inP y p.cells f.src && !inP y p.cells f.dst)
def stepH (y : Yard) (p : Prf) (m : Int) (f : Flow) : Int := (m + if cmB y p f = true then f.lo else 0) - if goB y p f = true then f.hi else 0
def holdUp (y : Yard) (fl : List Flow) (p : Prf) : Nat → Int
  | 0 => 0
  | k + 1 => stepH y p (holdUp y fl p k) (nth fl k)
def holdsM (y : Yard) (fl : List Flow) (p : Prf) : Int := if p.cells = [] then wrongW fl else holdUp y fl p fl.length
def beforeC (a b : Cel) : Bool := !decide (a = b) && (decide (a.bin < b.bin) || (decide (a.bin = b.bin) && decide (a.day < b.day)))
def inY (y : Yard) (c : Cel) : Bool := y.bin c.bin && (decide (c.day ≥ 0) && decide (c.day ≤ y.days - 1))
open Classical in
noncomputable def prfE (y : Yard) (p : Prf) : Int := if checkY y = 0 then (if (p.cells.all (inY y)) = true then (if (∀ i, i + 1 < p.cells.length → beforeC (nth p.cells i) (nth p.cells (i + 1)) = true) then (if holdsM y (flowsY y (nth allC)) p < 1 then 6 else 0) else 4) else 1) else checkY y
noncomputable def prfV (y : Yard) (p : Prf) : Int := if prfE y p = 0 then holdsM y (flowsY y (nth allC)) p else 0
section
variable {y : Yard} {fl : List Flow} {a : List Int} {n b k : Nat} {p : Prf} {f : Flow} {m : Int}
theorem wrong_zero : -300 = wrongW (fl.take 0) := rfl
theorem wrong_succ (h : k < fl.length) : max (wrongW (fl.take k)) ((nth fl k).lo - (nth fl k).hi) = wrongW (fl.take (k + 1)) := by
  unfold wrongW; rw [take_nth h, List.foldl_append]; rfl
theorem cm_yes (h : p.out = true) : (inP y p.cells f.src && !inP y p.cells f.dst) = cmB y p f ∧ (inP y p.cells f.dst && !inP y p.cells f.src) = goB y p f := ⟨(if_pos h).symm, (if_pos h).symm⟩
theorem cm_no (h : p.out = false) : (inP y p.cells f.dst && !inP y p.cells f.src) = cmB y p f ∧ (inP y p.cells f.src && !inP y p.cells f.dst) = goB y p f := ⟨(if_neg (by rw [h]; decide)).symm, (if_neg (by rw [h]; decide)).symm⟩
def half1 (y : Yard) (p : Prf) (m : Int) (f : Flow) : Int := m + if cmB y p f = true then f.lo else 0
theorem half_yes (h : cmB y p f = true) : m + f.lo = half1 y p m f := by unfold half1; rw [if_pos h]
theorem half_no (h : cmB y p f = false) : m = half1 y p m f := by unfold half1; rw [if_neg (by rw [h]; decide)]; omega
theorem half_le (h : 0 ≤ f.lo ∧ f.lo ≤ 300) : m ≤ half1 y p m f ∧ half1 y p m f ≤ m + 300 := by unfold half1; split <;> omega
theorem hold_zero : 0 = holdUp y fl p 0 := rfl
theorem hold_yes (h : goB y p (nth fl k) = true) : half1 y p (holdUp y fl p k) (nth fl k) - (nth fl k).hi = holdUp y fl p (k + 1) := by
  show _ = stepH y p _ _; unfold stepH; rw [if_pos h]; rfl
theorem hold_no (h : goB y p (nth fl k) = false) : half1 y p (holdUp y fl p k) (nth fl k) = holdUp y fl p (k + 1) := by
  have e : ¬ goB y p (nth fl k) = true := by rw [h]; decide
  show _ = stepH y p _ _; unfold stepH; rw [if_neg e]; unfold half1; omega
theorem hold_bnd (hb : ∀ i, i < fl.length → 0 ≤ (nth fl i).lo ∧ (nth fl i).lo ≤ 300 ∧ 0 ≤ (nth fl i).hi ∧ (nth fl i).hi ≤ 300) : ∀ k, k ≤ fl.length → -(300 * (k : Int)) ≤ holdUp y fl p k ∧ holdUp y fl p k ≤ 300 * (k : Int)
  | 0, _ => by rw [← hold_zero]; omega
  | k + 1, h => by
    have ih := hold_bnd hb k (by omega)
    have h1 := hb k (by omega)
    have h2 := half_le (y := y) (p := p) (m := holdUp y fl p k) (f := nth fl k) ⟨h1.1, h1.2.1⟩
    cases e : goB y p (nth fl k) with
    | true => rw [← hold_yes e]; omega
    | false => rw [← hold_no e]; omega
theorem holdsM_nil (h : p.cells = []) : wrongW fl = holdsM y fl p := (if_pos h).symm
theorem holdsM_cons (h : p.cells ≠ []) : holdUp y fl p fl.length = holdsM y fl p := (if_neg h).symm
theorem nil_of (h : (p.cells.length : Int) = 0) : p.cells = [] := List.length_eq_zero_iff.1 (by omega)
theorem cons_of (h : ¬ (p.cells.length : Int) = 0) : p.cells ≠ [] := fun e => h (by rw [e]; rfl)
theorem prf_v {e : Int} (h : e = prfE y p) (h0 : e ≠ 0) : 0 = prfV y p := by unfold prfV; rw [← h, if_neg h0]
theorem prf_1 (h : ¬ checkY y = 0) : checkY y = prfE y p ∧ 0 = prfV y p := by
  have e : checkY y = prfE y p := (if_neg h).symm
  exact ⟨e, prf_v e h⟩
theorem prf_2 (h : checkY y = 0) (h2 : (p.cells.all (inY y)) = false) : 1 = prfE y p ∧ 0 = prfV y p := by
  have e : 1 = prfE y p := by unfold prfE; rw [if_pos h, if_neg (by rw [h2]; decide)]
  exact ⟨e, prf_v e (by decide)⟩
theorem prf_3 (h : checkY y = 0) (h2 : (p.cells.all (inY y)) = true) {i : Nat} (hi : i + 1 < p.cells.length) (h3 : beforeC (nth p.cells i) (nth p.cells (i + 1)) = false) : 4 = prfE y p ∧ 0 = prfV y p := by
  have e : 4 = prfE y p := by
    unfold prfE; rw [if_pos h, if_pos h2, if_neg fun hx => by rw [hx i hi] at h3; cases h3]
  exact ⟨e, prf_v e (by decide)⟩
theorem prf_3' (h : checkY y = 0) (h2 : (p.cells.all (inY y)) = true) {i : Nat} (h1 : 1 ≤ i) (hi : i < p.cells.length) (h3 : beforeC (nth p.cells (i - 1)) (nth p.cells i) = false) : 4 = prfE y p ∧ 0 = prfV y p := by
  obtain ⟨j, rfl⟩ : ∃ j, i = j + 1 := ⟨i - 1, by omega⟩
  exact prf_3 h h2 hi h3
theorem prf_4 (h : checkY y = 0) (h2 : (p.cells.all (inY y)) = true) (h3 : ∀ i, i + 1 < p.cells.length → beforeC (nth p.cells i) (nth p.cells (i + 1)) = true) (h4 : holdsM y (flowsY y (nth allC)) p < 1) : 6 = prfE y p ∧ 0 = prfV y p := by
  have e : 6 = prfE y p := by unfold prfE; rw [if_pos h, if_pos h2, if_pos h3, if_pos h4]
  exact ⟨e, prf_v e (by decide)⟩
theorem prf_5 (h : checkY y = 0) (h2 : (p.cells.all (inY y)) = true) (h3 : ∀ i, i + 1 < p.cells.length → beforeC (nth p.cells i) (nth p.cells (i + 1)) = true) (h4 : ¬ holdsM y (flowsY y (nth allC)) p < 1) : 0 = prfE y p ∧ holdsM y (flowsY y (nth allC)) p = prfV y p := by
  have e : 0 = prfE y p := by unfold prfE; rw [if_pos h, if_pos h2, if_pos h3, if_neg h4]
  exact ⟨e, by unfold prfV; rw [← e]; rfl⟩
theorem cel_eq (a b : Cel) : (decide (a.bin = b.bin) && decide (a.day = b.day)) = decide (a = b) := by
  cases a; cases b; simp
theorem inY_in {c : Cel} (h : inY y c = true) : (-1 ≤ c.bin ∧ c.bin < y.bins.length) ∧ 0 ≤ c.day ∧ c.day ≤ y.days := by
  unfold inY Yard.bin inB at h
  simp only [Bool.and_eq_true, decide_eq_true_eq] at h; omega
theorem lev_bnd (hr : y.Right) {c : Nat → Bool} {t : Nat} {q : Span} (h : q.lo ≤ 300 ∧ 0 ≤ q.hi) : ∀ k, k ≤ y.levels.length → (levUp y c b t q k).lo ≤ 300 ∧ 0 ≤ (levUp y c b t q k).hi
  | 0, _ => h
  | k + 1, hk => by
    have ih := lev_bnd hr (c := c) (t := t) h k (by omega)
    have hl := hr.level _ (nth_mem (xs := y.levels) (k := k) (by omega))
    unfold levUp; split
    · show max _ _ ≤ 300 ∧ 0 ≤ min _ _; omega
    · exact ih
theorem flow_300 (hr : y.Right) {c : Nat → Bool} {i : Nat} (hi : i < (flowsY y c).length) : 0 ≤ (nth (flowsY y c) i).lo ∧ (nth (flowsY y c) i).lo ≤ 300 ∧ 0 ≤ (nth (flowsY y c) i).hi ∧ (nth (flowsY y c) i).hi ≤ 300 := by
  have hB := bd_yard hr (c := c) i hi
  suffices h : (nth (flowsY y c) i).lo ≤ 300 ∧ 0 ≤ (nth (flowsY y c) i).hi by omega
  rcases kept_or hi with ⟨b, t, hb, ht, rfl⟩ | ⟨k, hk, rfl⟩
  · rw [flow_kept hb ht]
    obtain ⟨h1, h2, h3⟩ := hr.bin _ (nth_mem hb)
    refine lev_bnd hr (q := span0 y b t) ?_ y.levels.length (Nat.le_refl _)
    unfold span0; split
    · exact ⟨by show (0 : Int) ≤ 300; decide, h1.1⟩
    · show max _ _ ≤ 300 ∧ 0 ≤ min _ _; omega
  · rw [flow_move hk]
    have h := (hr.move _ (nth_mem hk)).2.2.2.2
    show (nth y.moves k).sacks.lo ≤ 300 ∧ 0 ≤ (nth y.moves k).sacks.hi
    omega
theorem flow_bnd (hr : y.Right) {c : Nat → Bool} : ∀ i, i < (flowsY y c).length → 0 ≤ (nth (flowsY y c) i).lo ∧ (nth (flowsY y c) i).lo ≤ 300 ∧ 0 ≤ (nth (flowsY y c) i).hi ∧ (nth (flowsY y c) i).hi ≤ 300 := fun i hi => flow_300 hr hi
end
attribute [local irreducible] flowsY loL Way.beg Way.fin Way.room waysQ sendM overUp overL over waysL reachM hasM lackM lackB mostL pathM sendS stuckM settleM leastL addW goalG betterM bestM cycM roundM hasUp hasV spanU loA hiA firstK Yard.kept Yard.cells checkY knownE allC toldY amtU openE bndA bndS bndE bndY movE movS hasB hasK whlA whlS whlY hasW fstE fstV wrongW inP holdUp holdsM cmB goB stepH
attribute [local irreducible] half1
attribute [local irreducible] dInt dBool dSl dPp dPtr dAgg dTup dClo dAny dEx dStr dGd dCells dVec dVs dRow dOp nth Tri Into TOps Ctr bodyPost Exit.then Exit.inBlock Code.wp Code.wpIn dWhen dPa dPe dAo dArr dMp dPm dMap dCJ CtrG CtrI OpY keepPost iterPost bodyPostM roundQ
set_option maxRecDepth 100000 in
theorem c_wrongly (y : Yard) (fl : List Flow) (a : List Int) (hfl : fl.length ≤ 34) (hb : ∀ i, i < fl.length → 0 ≤ (nth fl i).lo ∧ (nth fl i).lo ≤ 300 ∧ 0 ≤ (nth fl i).hi ∧ (nth fl i).hi ≤ 300) : Ctr Tryz.prog 128 [Ty.pp (deskP y fl a)] (Ty.int .i64 (wrongW fl)) := by
  refine fn_intro Tryz.func128 rfl (by decide) Tryz.ntmps128 (by exact Nat.le_of_ble_eq_true rfl) fun w0 M0 => ?_
  refine t_seq ?_
  refine t_region ?_
  refine asI rfl ?_
  refine r_nil ?_
  refine i_then ?_
  refine t_seq ?_
  refine t_region ?_
  refine asI rfl ?_
  refine r_nil ?_
  refine i_then ?_
  refine t_seq ?_
  refine t_seq ?_
  refine t_region ?_
  refine mvP rfl ?_
  refine r_nilCheck_pp rfl ?_
  refine r_field_pp rfl rfl rfl rfl rfl (by decide) ?_
  refine r_load_pp rfl rfl rfl rfl ?_
  refine r_len rfl rfl rfl ?_
  refine mvI rfl ?_
  refine r_nil ?_
  refine i_then ?_
  refine t_block ?_
  refine t_loop (fun (k : {k : Nat // k ≤ fl.length}) => live [(0, Ty.pp (deskP y fl a)), (3, Ty.int .i64 (wrongW (fl.take k.1))), (9, Ty.sl FlowE fl), (10, Ty.int .i64 fl.length), (11, Ty.int .i64 (k.1 : Nat))] []) (fun k => fl.length - k.1) (⟨0, by omega⟩) ?_ fun k => ?_
  · (refine Ent.mk' ?_ ?_ <;> (repeat' (first | exact allSub_zero | exact allTags_nil | refine allSub_succ' ?_ (Ty.sub_any _) | refine allSub_succ' ?_ (Ty.sub_refl _) | refine allSub_succ' ?_ ?_)))
    all_goals exact Ty.sub_int wrong_zero
  ·
    have hk := k.2
    refine t_seq ?_
    refine t_region ?_
    refine r_bin rfl rfl rfl ?_
    refine r_nil ?_
    refine i_then ?_
    refine t_seq ?_
    refine t_cond_dec rfl (fun hc1 => ?_) (fun hc1 => ?_)
    ·
      refine t_skip ?_
      refine i_then ?_
      refine t_seq ?_
      refine t_block ?_
      refine t_seq ?_
      refine t_region ?_
      refine r_index_slN rfl rfl rfl rfl rfl rfl (by omega) ?_
      refine r_load_ppN rfl rfl rfl (by exact Nat.le_of_ble_eq_true rfl) ?_
      refine r_alloc rfl (by exact List.cons_ne_nil _ _) rfl ?_
      refine r_storeN rfl rfl (by decide) rfl rfl rfl rfl rfl rfl ?_
      refine r_nil ?_
      refine i_then ?_
      have hbk := hb k.1 (by omega)
      refine t_region ?_
      refine mvI rfl ?_
      refine r_field_ptr rfl rfl rfl rfl rfl (by decide) ?_
      refine r_load_ptr rfl rfl (by decide) rfl rfl rfl ?_
      refine r_field_ptr rfl rfl rfl rfl rfl (by decide) ?_
      refine r_load_ptr rfl rfl (by decide) rfl rfl rfl ?_
      refine r_sub rfl rfl (by omega) (by omega) ?_
      refine r_max rfl rfl ?_
      refine asI rfl ?_
      refine r_nil ?_
      refine i_block ?_
      refine i_then ?_
      refine t_region ?_
      refine r_add rfl rfl (by omega) (by omega) ?_
      refine mvI rfl ?_
      refine r_nil ?_
      refine i_round (⟨k.1 + 1, by omega⟩) ?_ (by show fl.length - (k.1 + 1) < fl.length - k.1; omega)
      (refine Ent.mk' ?_ ?_ <;> (repeat' (first | exact allSub_zero | exact allTags_nil | refine allSub_succ' ?_ (Ty.sub_any _) | refine allSub_succ' ?_ (Ty.sub_refl _) | refine allSub_succ' ?_ ?_)))
      all_goals skip
      all_goals exact Ty.sub_int (wrong_succ (by omega))
    ·
      refine t_exit ?_
      refine i_then_exit ?_
      refine i_then_exit ?_
      refine i_block_exit rfl ?_
      refine i_then ?_
      refine t_seq ?_
      refine t_region ?_
      refine mvI rfl ?_
      refine asI rfl ?_
      refine r_nil ?_
      refine i_then ?_
      refine t_ret ?_
      refine i_rp1 rfl rfl ?_
      all_goals skip
      all_goals exact ret_eq rfl rfl (congrArg (Ty.int .i64) (by rw [List.take_of_length_le (by have := k.2; omega)]))
set_option maxRecDepth 100000 in
theorem c_holds11 (y : Yard) (hr : y.Right) (fl : List Flow) (a : List Int) (x : Cel) (hx : (-1 ≤ x.bin ∧ x.bin < y.bins.length) ∧ 0 ≤ x.day ∧ x.day ≤ y.days) (c : Int) : Ctr Tryz.prog 188 [Ty.agg (CelE.tys x), Ty.pp [Ty.pp (deskP y fl a)], Ty.pp [Ty.int .i64 c]] (Ty.bool (decide (y.cell x.bin x.day = c))) := by
  refine fn_intro Tryz.func188 rfl (by decide) Tryz.ntmps188 (by exact Nat.le_of_ble_eq_true rfl) fun w0 M0 => ?_
  refine t_seq ?_
  refine t_region ?_
  refine r_box_agg rfl ?_
  refine asB rfl ?_
  refine r_nil ?_
  refine i_then ?_
  refine t_seq ?_
  refine t_draw mixed rfl ?_
  refine r_load_pp rfl rfl rfl rfl ?_
  refine r_field_pp rfl rfl rfl rfl rfl (by decide) ?_
  refine r_load_pp rfl rfl rfl rfl ?_
  refine r_field_pp rfl rfl rfl rfl rfl (by decide) ?_
  refine r_load_pp rfl rfl rfl rfl ?_
  refine r_callLC [] (c_cell y hr x.bin x.day hx.1 hx.2) rfl (lendcs_cons (lendc_pre (l1 := yardTys y) (l2 := [Ty.sl FlowE fl, Ty.sl I64 a]) rfl rfl) (lendcs_cons (lendc_of (lend_pub rfl rfl)) (lendcs_cons (lendc_of (lend_pub rfl rfl)) lendcs_nil))) (by exact plain_int _ _) ?_
  refine r_load_pp rfl rfl rfl rfl ?_
  refine r_bin rfl rfl rfl ?_
  refine asB rfl ?_
  refine r_nil ?_
  refine ⟨by kernel_rfl, ?_⟩
  refine i_then ?_
  refine t_ret ?_
  refine i_rp1 rfl rfl ?_
  all_goals exact ret_refl rfl rfl
set_option maxRecDepth 100000 in
theorem c_holds1 (y : Yard) (hr : y.Right) (fl : List Flow) (a : List Int) (p : Prf) (hp : ∀ x ∈ p.cells, (-1 ≤ x.bin ∧ x.bin < y.bins.length) ∧ 0 ≤ x.day ∧ x.day ≤ y.days) (c : Int) : Ctr Tryz.prog 187 [Ty.int .i64 c, Ty.pp (prfTys p), Ty.pp [Ty.pp (deskP y fl a)]] (Ty.bool (inP y p.cells c)) := by
  refine fn_intro Tryz.func187 rfl (by decide) Tryz.ntmps187 (by exact Nat.le_of_ble_eq_true rfl) fun w0 M0 => ?_
  refine t_seq ?_
  refine t_region ?_
  refine r_box_one (by exact (rfl : _ = Ty.int _ _)) rfl ?_
  refine asB rfl ?_
  refine r_nil ?_
  refine i_then ?_
  refine t_seq ?_
  refine t_region ?_
  refine r_field_pp rfl rfl rfl rfl rfl (by decide) ?_
  refine r_load_pp rfl rfl rfl rfl ?_
  refine r_makeFunc rfl ?_
  refine r_call (c_ContainsFunc_cel p.cells (Ty.clo 188 [Ty.pp [Ty.pp (deskP y fl a)], Ty.pp [Ty.int .i64 c]]) rfl (fun x => decide (y.cell x.bin x.day = c)) rfl rfl fun x hx => cal_clo (c_holds11 y hr fl a x (hp x hx) c) rfl rfl rfl rfl rfl rfl) rfl rfl rfl rfl rfl ?_
  refine asB rfl ?_
  refine r_nil ?_
  refine i_then ?_
  refine t_ret ?_
  refine i_rp1 rfl rfl ?_
  all_goals skip
  all_goals exact ret_eq rfl rfl (congrArg Ty.bool (by unfold inP; rfl))
set_option maxRecDepth 100000 in
theorem c_holds (y : Yard) (hr : y.Right) (fl : List Flow) (a : List Int) (hfl : fl.length ≤ 34) (hb : ∀ i, i < fl.length → 0 ≤ (nth fl i).lo ∧ (nth fl i).lo ≤ 300 ∧ 0 ≤ (nth fl i).hi ∧ (nth fl i).hi ≤ 300) (p : Prf) (hp : ∀ x ∈ p.cells, (-1 ≤ x.bin ∧ x.bin < y.bins.length) ∧ 0 ≤ x.day ∧ x.day ≤ y.days) : Ctr Tryz.prog 137 [Ty.pp (deskP y fl a), Ty.agg (prfTys p)] (Ty.int .i64 (holdsM y fl p)) := by
  refine fn_intro Tryz.func137 rfl (by decide) Tryz.ntmps137 (by exact Nat.le_of_ble_eq_true rfl) fun w0 M0 => ?_
  refine t_seq ?_
  refine t_region ?_
  refine r_box_one (by exact (rfl : _ = Ty.pp _)) rfl ?_
  refine r_box_agg rfl ?_
  refine asI rfl ?_
  refine r_nil ?_
  refine i_then ?_
  refine t_seq ?_
  refine t_seq ?_
  refine t_region ?_
  refine r_field_pp rfl rfl rfl rfl rfl (by decide) ?_
  refine r_load_pp rfl rfl rfl rfl ?_
  refine r_len rfl rfl rfl ?_
  refine r_bin rfl rfl rfl ?_
  refine r_nil ?_
  refine i_then ?_
  refine t_cond_dec rfl (fun hc1 => ?_) (fun hc1 => ?_)
  ·
    refine t_seq ?_
    refine t_region ?_
    refine r_load_pp rfl rfl rfl rfl ?_
    refine r_call (c_wrongly y fl a hfl hb) rfl rfl rfl rfl rfl ?_
    refine asI rfl ?_
    refine r_nil ?_
    refine i_then ?_
    refine t_ret ?_
    refine i_then_ret ?_
    refine i_rp1 rfl rfl ?_
    all_goals skip
    all_goals exact ret_eq rfl rfl (congrArg (Ty.int .i64) (holdsM_nil (nil_of hc1)))
  ·
    refine t_skip ?_
    refine i_then ?_
    refine t_seq ?_
    refine t_region ?_
    refine r_makeFunc rfl ?_
    refine asF rfl ?_
    refine r_nil ?_
    refine i_then ?_
    refine t_seq ?_
    refine t_region ?_
    refine asI rfl ?_
    refine r_nil ?_
    refine i_then ?_
    refine t_seq ?_
    refine t_seq ?_
    refine t_region ?_
    refine r_load_pp rfl rfl rfl rfl ?_
    refine r_nilCheck_pp rfl ?_
    refine r_field_pp rfl rfl rfl rfl rfl (by decide) ?_
    refine r_load_pp rfl rfl rfl rfl ?_
    refine r_len rfl rfl rfl ?_
    refine mvI rfl ?_
    refine r_nil ?_
    refine i_then ?_
    refine t_block ?_
    refine t_loop (fun (k : {k : Nat // k ≤ fl.length}) => live [(3, Ty.pp (prfTys p)), (5, Ty.clo 187 [Ty.pp (prfTys p), Ty.pp [Ty.pp (deskP y fl a)]]), (6, Ty.int .i64 (holdUp y fl p k.1)), (21, Ty.sl FlowE fl), (22, Ty.int .i64 fl.length), (23, Ty.int .i64 (k.1 : Nat))] []) (fun k => fl.length - k.1) (⟨0, by omega⟩) ?_ fun k => ?_
    · (refine Ent.mk' ?_ ?_ <;> (repeat' (first | exact allSub_zero | exact allTags_nil | refine allSub_succ' ?_ (Ty.sub_any _) | refine allSub_succ' ?_ (Ty.sub_refl _) | refine allSub_succ' ?_ ?_)))
      all_goals exact Ty.sub_int hold_zero
    ·
      have hk := k.2
      have hup := hold_bnd (y := y) (p := p) hb k.1 k.2
      refine t_seq ?_
      refine t_region ?_
      refine r_bin rfl rfl rfl ?_
      refine r_nil ?_
      refine i_then ?_
      refine t_seq ?_
      refine t_cond_dec rfl (fun hc2 => ?_) (fun hc2 => ?_)
      ·
        refine t_skip ?_
        refine i_then ?_
        refine t_seq ?_
        refine t_block ?_
        refine t_seq ?_
        refine t_region ?_
        refine r_index_slN rfl rfl rfl rfl rfl rfl (by omega) ?_
        refine r_load_ppN rfl rfl rfl (by exact Nat.le_of_ble_eq_true rfl) ?_
        refine r_alloc rfl (by exact List.cons_ne_nil _ _) rfl ?_
        refine r_storeN rfl rfl (by decide) rfl rfl rfl rfl rfl rfl ?_
        refine r_nil ?_
        refine i_then ?_
        refine t_seq ?_
        have hbk := hb k.1 (by omega)
        have hhf := half_le (y := y) (p := p) (m := holdUp y fl p k.1) (f := (nth fl k.1)) ⟨hbk.1, hbk.2.1⟩
        refine t_draw mixed rfl ?_
        refine mvF rfl ?_
        refine r_field_ptr rfl rfl rfl rfl rfl (by decide) ?_
        refine r_load_ptr rfl rfl (by decide) rfl rfl rfl ?_
        refine r_callc rfl (cal_clo (c_holds1 y hr fl a p hp (nth fl k.1).dst) rfl rfl rfl rfl rfl rfl) rfl ?_
        refine mvB rfl ?_
        apply r_guard (s := 31) rfl rfl rfl
        · intro hg; apply opT_of; (refine mvF rfl ?_); refine r_nil ?_; exact rfl
        · exact rfl
        · exact rfl
        apply r_guard (s := 31) rfl rfl rfl
        · intro hg; apply opT_of; (refine r_field_ptr rfl rfl rfl rfl rfl (by decide) ?_); refine r_nil ?_; exact rfl
        · exact rfl
        · exact rfl
        apply r_guard (s := 31) rfl rfl rfl
        · intro hg; apply opT_strip (s := 33) rfl (by (rw [hg]; rfl)); apply opT_of; (refine r_load_ptr rfl rfl (by decide) rfl rfl rfl ?_); refine r_nil ?_; exact rfl
        · exact rfl
        · exact rfl
        apply r_guard (s := 31) rfl rfl rfl
        · intro hg; apply opT_strip (s := 32) rfl (by (rw [hg]; rfl)); apply opT_strip (s := 34) rfl (by (rw [hg]; rfl)); apply opT_of; (refine r_callc rfl (cal_clo (c_holds1 y hr fl a p hp (nth fl k.1).src) rfl rfl rfl rfl rfl rfl) rfl ?_); refine r_nil ?_; exact rfl
        · exact rfl
        · exact rfl
        apply r_guard (s := 31) rfl rfl rfl
        · intro hg; apply opT_strip (s := 35) rfl (by (rw [hg]; rfl)); apply opT_of; (refine r_not rfl ?_); refine r_nil ?_; exact rfl
        · exact rfl
        · exact rfl
        refine r_and rfl rfl ?_
        refine mvF rfl ?_
        refine r_field_ptr rfl rfl rfl rfl rfl (by decide) ?_
        refine r_load_ptr rfl rfl (by decide) rfl rfl rfl ?_
        refine r_callc rfl (cal_clo (c_holds1 y hr fl a p hp (nth fl k.1).src) rfl rfl rfl rfl rfl rfl) rfl ?_
        refine mvB rfl ?_
        apply r_guard (s := 42) rfl rfl rfl
        · intro hg; apply opT_of; (refine mvF rfl ?_); refine r_nil ?_; exact rfl
        · exact rfl
        · exact rfl
        apply r_guard (s := 42) rfl rfl rfl
        · intro hg; apply opT_of; (refine r_field_ptr rfl rfl rfl rfl rfl (by decide) ?_); refine r_nil ?_; exact rfl
        · exact rfl
        · exact rfl
        apply r_guard (s := 42) rfl rfl rfl
        · intro hg; apply opT_strip (s := 44) rfl (by (rw [hg]; rfl)); apply opT_of; (refine r_load_ptr rfl rfl (by decide) rfl rfl rfl ?_); refine r_nil ?_; exact rfl
        · exact rfl
        · exact rfl
        apply r_guard (s := 42) rfl rfl rfl
        · intro hg; apply opT_strip (s := 43) rfl (by (rw [hg]; rfl)); apply opT_strip (s := 45) rfl (by (rw [hg]; rfl)); apply opT_of; (refine r_callc rfl (cal_clo (c_holds1 y hr fl a p hp (nth fl k.1).dst) rfl rfl rfl rfl rfl rfl) rfl ?_); refine r_nil ?_; exact rfl
        · exact rfl
        · exact rfl
        apply r_guard (s := 42) rfl rfl rfl
        · intro hg; apply opT_strip (s := 46) rfl (by (rw [hg]; rfl)); apply opT_of; (refine r_not rfl ?_); refine r_nil ?_; exact rfl
        · exact rfl
        · exact rfl
        refine r_and rfl rfl ?_
        refine asB rfl ?_
        refine asB rfl ?_
        refine r_nil ?_
        refine ⟨by kernel_rfl, ?_⟩
        refine i_then ?_
        refine t_join (J := live [(3, Ty.pp (prfTys p)), (5, Ty.clo 187 [Ty.pp (prfTys p), Ty.pp [Ty.pp (deskP y fl a)]]), (6, Ty.int .i64 (holdUp y fl p k.1)), (8, Ty.ptr 9 0), (9, Ty.bool (cmB y p (nth fl k.1))), (10, Ty.bool (goB y p (nth fl k.1))), (21, Ty.sl FlowE fl), (22, Ty.int .i64 fl.length), (23, Ty.int .i64 (k.1 : Nat))] [(9, Cont.cells 187 (FlowE.tys (nth fl k.1)))]) ?_ ?_
        ·
          refine t_seq ?_
          refine t_region ?_
          refine r_field_pp rfl rfl rfl rfl rfl (by decide) ?_
          refine r_load_pp rfl rfl rfl rfl ?_
          refine r_nil ?_
          refine i_then ?_
          refine t_cond rfl (fun hc3 => ?_) (fun hc3 => ?_)
          ·
            refine t_region ?_
            refine mvB rfl ?_
            refine mvB rfl ?_
            refine asB rfl ?_
            refine asB rfl ?_
            refine r_nil ?_
            refine i_join ?_
            (refine Ent.mk' ?_ ?_ <;> (repeat' (first | exact allSub_zero | exact allTags_nil | refine allSub_succ' ?_ (Ty.sub_any _) | refine allSub_succ' ?_ (Ty.sub_refl _) | refine allTags_cons rfl (Cont.sub_refl _) ?_ | refine allSub_succ' ?_ ?_)))
            all_goals first | exact Ty.sub_bool (cm_yes (by assumption)).1 | exact Ty.sub_bool (cm_yes (by assumption)).2
          ·
            refine t_skip ?_
            refine i_join ?_
            (refine Ent.mk' ?_ ?_ <;> (repeat' (first | exact allSub_zero | exact allTags_nil | refine allSub_succ' ?_ (Ty.sub_any _) | refine allSub_succ' ?_ (Ty.sub_refl _) | refine allTags_cons rfl (Cont.sub_refl _) ?_ | refine allSub_succ' ?_ ?_)))
            all_goals first | exact Ty.sub_bool (cm_no (by assumption)).1 | exact Ty.sub_bool (cm_no (by assumption)).2
        ·
          refine t_join (J := live [(3, Ty.pp (prfTys p)), (5, Ty.clo 187 [Ty.pp (prfTys p), Ty.pp [Ty.pp (deskP y fl a)]]), (6, Ty.int .i64 (half1 y p (holdUp y fl p k.1) (nth fl k.1))), (8, Ty.ptr 9 0), (10, Ty.bool (goB y p (nth fl k.1))), (21, Ty.sl FlowE fl), (22, Ty.int .i64 fl.length), (23, Ty.int .i64 (k.1 : Nat))] [(9, Cont.cells 187 (FlowE.tys (nth fl k.1)))]) ?_ ?_
          ·
            refine t_seq ?_
            refine t_region ?_
            refine mvB rfl ?_
            refine r_nil ?_
            refine i_then ?_
            refine t_cond rfl (fun hc4 => ?_) (fun hc4 => ?_)
            ·
              refine t_region ?_
              refine mvI rfl ?_
              refine r_field_ptr rfl rfl rfl rfl rfl (by decide) ?_
              refine r_load_ptr rfl rfl (by decide) rfl rfl rfl ?_
              refine r_add rfl rfl (by omega) (by omega) ?_
              refine asI rfl ?_
              refine r_nil ?_
              refine i_join ?_
              (refine Ent.mk' ?_ ?_ <;> (repeat' (first | exact allSub_zero | exact allTags_nil | refine allSub_succ' ?_ (Ty.sub_any _) | refine allSub_succ' ?_ (Ty.sub_refl _) | refine allTags_cons rfl (Cont.sub_refl _) ?_ | refine allSub_succ' ?_ ?_)))
              all_goals exact Ty.sub_int (half_yes (by assumption))
            ·
              refine t_skip ?_
              refine i_join ?_
              (refine Ent.mk' ?_ ?_ <;> (repeat' (first | exact allSub_zero | exact allTags_nil | refine allSub_succ' ?_ (Ty.sub_any _) | refine allSub_succ' ?_ (Ty.sub_refl _) | refine allTags_cons rfl (Cont.sub_refl _) ?_ | refine allSub_succ' ?_ ?_)))
              all_goals exact Ty.sub_int (half_no (by assumption))
          ·
            refine t_seq ?_
            refine t_region ?_
            refine mvB rfl ?_
            refine r_nil ?_
            refine i_then ?_
            refine t_cond rfl (fun hc5 => ?_) (fun hc5 => ?_)
            ·
              refine t_region ?_
              refine mvI rfl ?_
              refine r_field_ptr rfl rfl rfl rfl rfl (by decide) ?_
              refine r_load_ptr rfl rfl (by decide) rfl rfl rfl ?_
              refine r_sub rfl rfl (by omega) (by omega) ?_
              refine asI rfl ?_
              refine r_nil ?_
              refine i_block ?_
              refine i_then ?_
              refine t_region ?_
              refine r_add rfl rfl (by omega) (by omega) ?_
              refine mvI rfl ?_
              refine r_nil ?_
              refine i_round (⟨k.1 + 1, by omega⟩) ?_ (by show fl.length - (k.1 + 1) < fl.length - k.1; omega)
              (refine Ent.mk' ?_ ?_ <;> (repeat' (first | exact allSub_zero | exact allTags_nil | refine allSub_succ' ?_ (Ty.sub_any _) | refine allSub_succ' ?_ (Ty.sub_refl _) | refine allSub_succ' ?_ ?_)))
              all_goals skip
              all_goals exact Ty.sub_int (hold_yes (by assumption))
            ·
              refine t_skip ?_
              refine i_block ?_
              refine i_then ?_
              refine t_region ?_
              refine r_add rfl rfl (by omega) (by omega) ?_
              refine mvI rfl ?_
              refine r_nil ?_
              refine i_round (⟨k.1 + 1, by omega⟩) ?_ (by show fl.length - (k.1 + 1) < fl.length - k.1; omega)
              (refine Ent.mk' ?_ ?_ <;> (repeat' (first | exact allSub_zero | exact allTags_nil | refine allSub_succ' ?_ (Ty.sub_any _) | refine allSub_succ' ?_ (Ty.sub_refl _) | refine allSub_succ' ?_ ?_)))
              all_goals skip
              all_goals exact Ty.sub_int (hold_no (by assumption))
      ·
        refine t_exit ?_
        refine i_then_exit ?_
        refine i_then_exit ?_
        refine i_block_exit rfl ?_
        refine i_then ?_
        refine t_seq ?_
        refine t_region ?_
        refine mvI rfl ?_
        refine asI rfl ?_
        refine r_nil ?_
        refine i_then ?_
        refine t_ret ?_
        refine i_rp1 rfl rfl ?_
        all_goals skip
        all_goals exact ret_eq rfl rfl (congrArg (Ty.int .i64) ((show _ = holdUp y fl p fl.length by rw [show k.1 = fl.length by have := k.2; omega]).trans (holdsM_cons (cons_of hc1))))
set_option maxRecDepth 100000 in
theorem c_before (a b : Cel) : Ctr Tryz.prog 136 [Ty.agg (CelE.tys a), Ty.agg (CelE.tys b)] (Ty.bool (beforeC a b)) := by
  refine fn_intro Tryz.func136 rfl (by decide) Tryz.ntmps136 (by exact Nat.le_of_ble_eq_true rfl) fun w0 M0 => ?_
  refine t_seq ?_
  refine t_region ?_
  refine r_box_agg rfl ?_
  refine r_box_agg rfl ?_
  refine asB rfl ?_
  refine r_nil ?_
  refine i_then ?_
  refine t_seq ?_
  refine t_region ?_
  refine r_load_ppN rfl rfl rfl (by exact Nat.le_of_ble_eq_true rfl) ?_
  refine r_load_ppN rfl rfl rfl (by exact Nat.le_of_ble_eq_true rfl) ?_
  refine r_neq_A (eqt109 a.bin a.day b.bin b.day) rfl rfl ?_
  refine mvB rfl ?_
  apply r_guard (s := 8) rfl rfl rfl
  · intro hg; apply opT_of; (refine r_field_pp rfl rfl rfl rfl rfl (by decide) ?_); refine r_nil ?_; exact rfl
  · exact rfl
  · exact rfl
  apply r_guard (s := 8) rfl rfl rfl
  · intro hg; apply opT_strip (s := 9) rfl (by (rw [hg]; rfl)); apply opT_of; (refine r_load_pp rfl rfl rfl rfl ?_); refine r_nil ?_; exact rfl
  · exact rfl
  · exact rfl
  apply r_guard (s := 8) rfl rfl rfl
  · intro hg; apply opT_of; (refine r_field_pp rfl rfl rfl rfl rfl (by decide) ?_); refine r_nil ?_; exact rfl
  · exact rfl
  · exact rfl
  apply r_guard (s := 8) rfl rfl rfl
  · intro hg; apply opT_strip (s := 11) rfl (by (rw [hg]; rfl)); apply opT_of; (refine r_load_pp rfl rfl rfl rfl ?_); refine r_nil ?_; exact rfl
  · exact rfl
  · exact rfl
  apply r_guard (s := 8) rfl rfl rfl
  · intro hg; apply opT_strip (s := 10) rfl (by (rw [hg]; rfl)); apply opT_strip (s := 12) rfl (by (rw [hg]; rfl)); apply opT_of; (refine r_bin rfl rfl rfl ?_); refine r_nil ?_; exact rfl
  · exact rfl
  · exact rfl
  apply r_guard (s := 8) rfl rfl rfl
  · intro hg; apply opT_strip (s := 13) rfl (by (rw [hg]; rfl)); apply opT_of; (refine mvB rfl ?_); refine r_nil ?_; exact rfl
  · exact rfl
  · exact rfl
  apply r_guardG (s := 14) rfl rfl rfl
  · intro hg1 hg2; apply opT_of; (refine r_field_pp rfl rfl rfl rfl rfl (by decide) ?_); refine r_nil ?_; exact rfl
  · exact rfl
  · exact rfl
  apply r_guardG (s := 14) rfl rfl rfl
  · intro hg1 hg2; apply opT_strip (s := 15) rfl (by (rw [hg1, hg2]; rfl)); apply opT_of; (refine r_load_pp rfl rfl rfl rfl ?_); refine r_nil ?_; exact rfl
  · exact rfl
  · exact rfl
  apply r_guardG (s := 14) rfl rfl rfl
  · intro hg1 hg2; apply opT_of; (refine r_field_pp rfl rfl rfl rfl rfl (by decide) ?_); refine r_nil ?_; exact rfl
  · exact rfl
  · exact rfl
  apply r_guardG (s := 14) rfl rfl rfl
  · intro hg1 hg2; apply opT_strip (s := 17) rfl (by (rw [hg1, hg2]; rfl)); apply opT_of; (refine r_load_pp rfl rfl rfl rfl ?_); refine r_nil ?_; exact rfl
  · exact rfl
  · exact rfl
  apply r_guardG (s := 14) rfl rfl rfl
  · intro hg1 hg2; apply opT_strip (s := 16) rfl (by (rw [hg1, hg2]; rfl)); apply opT_strip (s := 18) rfl (by (rw [hg1, hg2]; rfl)); apply opT_of; (refine r_bin rfl rfl rfl ?_); refine r_nil ?_; exact rfl
  · exact rfl
  · exact rfl
  apply r_guardG (s := 14) rfl rfl rfl
  · intro hg1 hg2; apply opT_strip (s := 19) rfl (by (rw [hg1, hg2]; rfl)); apply opT_of; (refine mvB rfl ?_); refine r_nil ?_; exact rfl
  · exact rfl
  · exact rfl
  apply r_guardG (s := 20) rfl rfl rfl
  · intro hg1 hg2; apply opT_of; (refine r_field_pp rfl rfl rfl rfl rfl (by decide) ?_); refine r_nil ?_; exact rfl
  · exact rfl
  · exact rfl
  apply r_guardG (s := 20) rfl rfl rfl
  · intro hg1 hg2; apply opT_strip (s := 21) rfl (by (rw [hg1, hg2]; rfl)); apply opT_of; (refine r_load_pp rfl rfl rfl rfl ?_); refine r_nil ?_; exact rfl
  · exact rfl
  · exact rfl
  apply r_guardG (s := 20) rfl rfl rfl
  · intro hg1 hg2; apply opT_of; (refine r_field_pp rfl rfl rfl rfl rfl (by decide) ?_); refine r_nil ?_; exact rfl
  · exact rfl
  · exact rfl
  apply r_guardG (s := 20) rfl rfl rfl
  · intro hg1 hg2; apply opT_strip (s := 23) rfl (by (rw [hg1, hg2]; rfl)); apply opT_of; (refine r_load_pp rfl rfl rfl rfl ?_); refine r_nil ?_; exact rfl
  · exact rfl
  · exact rfl
  apply r_guardG (s := 20) rfl rfl rfl
  · intro hg1 hg2; apply opT_strip (s := 22) rfl (by (rw [hg1, hg2]; rfl)); apply opT_strip (s := 24) rfl (by (rw [hg1, hg2]; rfl)); apply opT_of; (refine r_bin rfl rfl rfl ?_); refine r_nil ?_; exact rfl
  · exact rfl
  · exact rfl
  apply r_guardG (s := 14) rfl rfl rfl
  · intro hg1 hg2; apply opT_strip (s := 20) rfl (by (rw [hg1, hg2]; rfl)); apply opT_stripG (s := 25) rfl (by (rw [hg1, hg2]; rfl)); apply opT_of; (refine r_and rfl rfl ?_); refine r_nil ?_; exact rfl
  · exact rfl
  · exact rfl
  apply r_guard (s := 8) rfl rfl rfl
  · intro hg; apply opT_strip (s := 14) rfl (by (rw [hg]; rfl)); apply opT_stripG (s := 26) rfl (by (rw [hg]; rfl)); apply opT_of; (refine r_or rfl rfl ?_); refine r_nil ?_; exact rfl
  · exact rfl
  · exact rfl
  refine r_and rfl rfl ?_
  refine asB rfl ?_
  refine r_nil ?_
  refine i_then ?_
  refine t_ret ?_
  refine i_rp1 rfl rfl ?_
  all_goals skip
  all_goals exact ret_eq rfl rfl (congrArg Ty.bool (by unfold beforeC; rw [cel_eq]))
set_option maxRecDepth 100000 in
theorem c_Proves1 (y : Yard) (hr : y.Right) (hs : y.Small) (c : Cel) : Ctr Tryz.prog 134 [Ty.agg (CelE.tys c), Ty.pp (yardTys y)] (Ty.bool (inY y c)) := by
  refine fn_intro Tryz.func134 rfl (by decide) Tryz.ntmps134 (by exact Nat.le_of_ble_eq_true rfl) fun w0 M0 => ?_
  have h2 := hr.days
  refine t_seq ?_
  refine t_region ?_
  refine r_box_agg rfl ?_
  refine asB rfl ?_
  refine r_nil ?_
  refine i_then ?_
  refine t_seq ?_
  refine t_region ?_
  refine r_load_ppN rfl rfl rfl (by exact Nat.le_of_ble_eq_true rfl) ?_
  refine r_field_pp rfl rfl rfl rfl rfl (by decide) ?_
  refine r_load_pp rfl rfl rfl rfl ?_
  refine r_call (c_bin y hs _) rfl rfl rfl rfl rfl ?_
  refine mvB rfl ?_
  apply r_guard (s := 8) rfl rfl rfl
  · intro hg; apply opT_of; (refine r_field_pp rfl rfl rfl rfl rfl (by decide) ?_); refine r_nil ?_; exact rfl
  · exact rfl
  · exact rfl
  apply r_guard (s := 8) rfl rfl rfl
  · intro hg; apply opT_strip (s := 9) rfl (by (rw [hg]; rfl)); apply opT_of; (refine r_load_pp rfl rfl rfl rfl ?_); refine r_nil ?_; exact rfl
  · exact rfl
  · exact rfl
  apply r_guard (s := 8) rfl rfl rfl
  · intro hg; apply opT_of; (refine r_field_pp rfl rfl rfl rfl rfl (by decide) ?_); refine r_nil ?_; exact rfl
  · exact rfl
  · exact rfl
  apply r_guard (s := 8) rfl rfl rfl
  · intro hg; apply opT_strip (s := 11) rfl (by (rw [hg]; rfl)); apply opT_of; (refine r_load_pp rfl rfl rfl rfl ?_); refine r_nil ?_; exact rfl
  · exact rfl
  · exact rfl
  apply r_guard (s := 8) rfl rfl rfl
  · intro hg; apply opT_strip (s := 12) rfl (by (rw [hg]; rfl)); apply opT_of; (refine r_sub rfl rfl (by omega) (by omega) ?_); refine r_nil ?_; exact rfl
  · exact rfl
  · exact rfl
  apply r_guard (s := 8) rfl rfl rfl
  · intro hg; apply opT_strip (s := 10) rfl (by (rw [hg]; rfl)); apply opT_strip (s := 13) rfl (by (rw [hg]; rfl)); apply opT_of; (refine r_call (c_in _ _ _) rfl rfl rfl rfl rfl ?_); refine r_nil ?_; exact rfl
  · exact rfl
  · exact rfl
  refine r_and rfl rfl ?_
  refine asB rfl ?_
  refine r_nil ?_
  refine i_then ?_
  refine t_ret ?_
  refine i_rp1 rfl rfl ?_
  all_goals exact ret_refl rfl rfl
  all_goals trace_state
set_option maxRecDepth 100000 in
theorem c_Proves (y : Yard) (hs : y.Small) (p : Prf) (hl : p.cells.length ≤ 1000) : Ctr Tryz.prog 61 [yardT y, Ty.agg (prfTys p)] (Ty.tup [Ty.int .i64 (prfV y p), Ty.int .i64 (prfE y p)]) := by
  refine fn_intro Tryz.func61 rfl (by decide) Tryz.ntmps61 (by exact Nat.le_of_ble_eq_true rfl) fun w0 M0 => ?_
  refine t_seq ?_
  refine t_region ?_
  refine r_box_agg rfl ?_
  refine r_box_agg rfl ?_
  refine asI rfl ?_
  refine asI rfl ?_
  refine r_nil ?_
  refine i_then ?_
  refine t_seq ?_
  refine t_seq ?_
  refine t_region ?_
  refine r_load_ppN rfl rfl rfl (by exact Nat.le_of_ble_eq_true rfl) ?_
  refine r_call (c_Check y hs) rfl rfl rfl rfl rfl ?_
  refine asI rfl ?_
  refine r_nil ?_
  refine i_then ?_
  refine t_seq ?_
  refine t_region ?_
  refine mvI rfl ?_
  refine r_bin rfl rfl rfl ?_
  refine r_nil ?_
  refine i_then ?_
  refine t_cond_ndec rfl (fun hc1 => ?_) (fun hc1 => ?_)
  ·
    refine t_seq ?_
    refine t_region ?_
    refine mvI rfl ?_
    refine asI rfl ?_
    refine asI rfl ?_
    refine r_nil ?_
    refine i_then ?_
    refine t_ret ?_
    refine i_then_ret ?_
    refine i_rp2 rfl rfl rfl ?_ ?_
    all_goals skip
    all_goals first | exact ret_eq rfl rfl (congrArg (Ty.int .i64) (prf_1 hc1).1) | exact ret_eq rfl rfl (congrArg (Ty.int .i64) (prf_1 hc1).2)
  ·
    refine t_skip ?_
    refine i_then ?_
    refine t_seq ?_
    refine t_seq ?_
    have hck : checkY y = 0 := hc1
    have hr := chk_right hck
    refine t_region ?_
    refine r_field_pp rfl rfl rfl rfl rfl (by decide) ?_
    refine r_load_pp rfl rfl rfl rfl ?_
    refine r_makeFunc rfl ?_
    refine r_call (c_every_cel p.cells (Ty.clo 134 [Ty.pp (yardTys y)]) rfl (inY y) rfl rfl fun c _ => cal_clo (c_Proves1 y hr hs c) rfl rfl rfl rfl rfl rfl) rfl rfl rfl rfl rfl ?_
    refine r_not rfl ?_
    refine r_nil ?_
    refine i_then ?_
    refine t_cond rfl (fun hc2 => ?_) (fun hc2 => ?_)
    ·
      refine t_seq ?_
      refine t_region ?_
      refine asI rfl ?_
      refine asI rfl ?_
      refine r_nil ?_
      refine i_then ?_
      refine t_ret ?_
      refine i_then_ret ?_
      refine i_rp2 rfl rfl rfl ?_ ?_
      all_goals skip
      all_goals first | exact ret_eq rfl rfl (congrArg (Ty.int .i64) (prf_2 hc1 (not_b hc2)).1) | exact ret_eq rfl rfl (congrArg (Ty.int .i64) (prf_2 hc1 (not_b hc2)).2)
    ·
      refine t_skip ?_
      refine i_then ?_
      refine t_seq ?_
      refine t_seq ?_
      have hall : (p.cells.all (inY y)) = true := not_not_b hc2
      refine t_region ?_
      refine asI rfl ?_
      refine r_nil ?_
      refine i_then ?_
      refine t_block ?_
      refine t_loop (fun (i : {i : Nat // 1 ≤ i ∧ ∀ j, j + 1 < i → j + 1 < p.cells.length → beforeC (nth p.cells j) (nth p.cells (j + 1)) = true}) => live [(2, Ty.pp (yardTys y)), (3, Ty.pp (prfTys p)), (7, Ty.int .i64 (i.1 : Nat))] []) (fun i => p.cells.length - i.1) (⟨1, Nat.le_refl _, fun j hj => by omega⟩) ?_ fun i => ?_
      · (refine Ent.mk' ?_ ?_ <;> (repeat' (first | exact allSub_zero | exact allTags_nil | refine allSub_succ' ?_ (Ty.sub_any _) | refine allSub_succ' ?_ (Ty.sub_refl _))))
      ·
        have hi1 := i.2.1
        refine t_seq ?_
        refine t_seq ?_
        refine t_region ?_
        refine mvI rfl ?_
        refine r_field_pp rfl rfl rfl rfl rfl (by decide) ?_
        refine r_load_pp rfl rfl rfl rfl ?_
        refine r_len rfl rfl rfl ?_
        refine r_bin rfl rfl rfl ?_
        refine r_nil ?_
        refine i_then ?_
        refine t_cond_dec rfl (fun hc3 => ?_) (fun hc3 => ?_)
        ·
          refine t_skip ?_
          refine i_then ?_
          refine t_seq ?_
          refine t_block ?_
          refine t_seq ?_
          refine t_draw mixed rfl ?_
          refine r_field_pp rfl rfl rfl rfl rfl (by decide) ?_
          refine r_load_pp rfl rfl rfl rfl ?_
          refine mvI rfl ?_
          refine r_sub rfl rfl (by omega) (by omega) ?_
          refine r_index_slN (i := i.1 - 1) rfl (by exact congrArg (Ty.int .i64) (by omega : ((i.1 : Nat) : Int) - 1 = ((i.1 - 1 : Nat) : Int))) rfl rfl rfl rfl (by omega) ?_
          refine r_load_ppN rfl rfl rfl (by exact Nat.le_of_ble_eq_true rfl) ?_
          refine r_field_pp rfl rfl rfl rfl rfl (by decide) ?_
          refine r_load_pp rfl rfl rfl rfl ?_
          refine mvI rfl ?_
          refine r_index_slN rfl rfl rfl rfl rfl rfl (by omega) ?_
          refine r_load_ppN rfl rfl rfl (by exact Nat.le_of_ble_eq_true rfl) ?_
          refine r_call (c_before _ _) rfl rfl rfl rfl rfl ?_
          refine r_not rfl ?_
          refine r_nil ?_
          refine ⟨by kernel_rfl, ?_⟩
          refine i_then ?_
          refine t_cond rfl (fun hc4 => ?_) (fun hc4 => ?_)
          ·
            refine t_seq ?_
            refine t_region ?_
            refine asI rfl ?_
            refine asI rfl ?_
            refine r_nil ?_
            refine i_then ?_
            refine t_ret ?_
            refine i_block_ret ?_
            refine i_then_ret ?_
            refine i_then_ret ?_
            refine i_block_ret ?_
            refine i_then_ret ?_
            refine i_rp2 rfl rfl rfl ?_ ?_
            all_goals skip
            all_goals first | exact ret_eq rfl rfl (congrArg (Ty.int .i64) (prf_3' hc1 hall i.2.1 (by omega) (not_b hc4)).1) | exact ret_eq rfl rfl (congrArg (Ty.int .i64) (prf_3' hc1 hall i.2.1 (by omega) (not_b hc4)).2)
          ·
            refine t_skip ?_
            refine i_block ?_
            refine i_then ?_
            refine t_region ?_
            refine mvI rfl ?_
            refine r_add rfl rfl (by omega) (by omega) ?_
            refine asI rfl ?_
            refine r_nil ?_
            refine i_round (⟨i.1 + 1, by omega, fun j hj hj2 => by by_cases e : j + 1 = i.1; (have := not_not_b hc4; rwa [show i.1 - 1 = j by omega, show i.1 = j + 1 by omega] at this); exact i.2.2 j (by omega) hj2⟩) ?_ (by show p.cells.length - (i.1 + 1) < p.cells.length - i.1; omega)
            (refine Ent.mk' ?_ ?_ <;> (repeat' (first | exact allSub_zero | exact allTags_nil | refine allSub_succ' ?_ (Ty.sub_any _) | refine allSub_succ' ?_ (Ty.sub_refl _))))
            all_goals skip
        ·
          refine t_exit ?_
          refine i_then_exit ?_
          refine i_then_exit ?_
          refine i_block_exit rfl ?_
          refine i_then ?_
          refine t_seq ?_
          refine t_draw mixed rfl ?_
          refine r_load_ppN rfl rfl rfl (by exact Nat.le_of_ble_eq_true rfl) ?_
          refine r_call (c_all) rfl rfl rfl rfl rfl ?_
          refine r_callG (res' := Ty.pp (deskV y 2000 1000 (flowsY y (nth allC)).length (flowsY y (nth allC)).length)) [(2000, 23), (1000, 31)] [2000, 1000] [(2000, Cont.vec FlowE 187 (flowsY y (nth allC))), (1000, Cont.vec I64 3 (loL (flowsY y (nth allC))))] (k_worked y hr allC allC_len) rfl rfl (cv_cons (cv_cons cv_nil (cv_pub rfl rfl)) (cv_pub rfl rfl)) pre_nil (post_cons (a := 2000) (b := 23) (by decide) rfl (cc_vec (by decide) rfl) (post_cons (a := 1000) (b := 31) (by decide) rfl (cc_vec (by decide) rfl) post_nil)) (cv_pp (cv_cons (cv_cons (cv_cons (cv_cons (cv_cons (cv_cons cv_nil (cv_vs (by decide))) (cv_vs (by decide))) (cv_pub rfl rfl)) (cv_pub rfl rfl)) (cv_pub rfl rfl)) (cv_pub rfl rfl))) ?_
          refine r_load_ppN rfl rfl rfl (by exact Nat.le_of_ble_eq_true rfl) ?_
          refine r_callLC [2000, 1000] (c_holds y hr (flowsY y (nth allC)) (loL (flowsY y (nth allC))) (flows_few hr) (flow_bnd hr) p (fun x hx => inY_in (List.all_eq_true.1 hall x hx))) rfl (lendcs_cons (lendc_pp (lendcs_cons (lendc_of (lend_pub rfl rfl)) (lendcs_cons (lendc_of (lend_pub rfl rfl)) (lendcs_cons (lendc_of (lend_pub rfl rfl)) (lendcs_cons (lendc_of (lend_pub rfl rfl)) (lendcs_cons (lendc_vs rfl rfl (by decide) rfl) (lendcs_cons (lendc_vs rfl (lo_len _) (by decide) rfl) lendcs_nil))))))) (lendcs_cons (lendc_of (lend_pub rfl rfl)) lendcs_nil)) (by exact plain_int _ _) ?_
          refine asI rfl ?_
          refine r_nil ?_
          refine ⟨by kernel_rfl, ?_⟩
          refine i_then ?_
          refine t_seq ?_
          refine t_seq ?_
          refine t_region ?_
          refine mvI rfl ?_
          refine r_bin rfl rfl rfl ?_
          refine r_nil ?_
          refine i_then ?_
          refine t_cond_dec rfl (fun hc5 => ?_) (fun hc5 => ?_)
          ·
            refine t_seq ?_
            refine t_region ?_
            refine asI rfl ?_
            refine asI rfl ?_
            refine r_nil ?_
            refine i_then ?_
            refine t_ret ?_
            refine i_then_ret ?_
            refine i_rp2 rfl rfl rfl ?_ ?_
            all_goals skip
            all_goals first | exact ret_eq rfl rfl (congrArg (Ty.int .i64) (prf_4 hc1 hall (fun j hj => i.2.2 j (by omega) hj) hc5).1) | exact ret_eq rfl rfl (congrArg (Ty.int .i64) (prf_4 hc1 hall (fun j hj => i.2.2 j (by omega) hj) hc5).2)
          ·
            refine t_skip ?_
            refine i_then ?_
            refine t_seq ?_
            refine t_region ?_
            refine mvI rfl ?_
            refine asI rfl ?_
            refine asI rfl ?_
            refine r_nil ?_
            refine i_then ?_
            refine t_ret ?_
            refine i_rp2 rfl rfl rfl ?_ ?_
            all_goals skip
            all_goals first | exact ret_eq rfl rfl (congrArg (Ty.int .i64) (prf_5 hc1 hall (fun j hj => i.2.2 j (by omega) hj) hc5).1) | exact ret_eq rfl rfl (congrArg (Ty.int .i64) (prf_5 hc1 hall (fun j hj => i.2.2 j (by omega) hj) hc5).2)
end Go.Proofs.YtelbollidfdcjaaGreat

namespace Go.Proofs.YtelbollidfdcjaaGreat
open Go Go.T
set_option maxHeartbeats 8000000
attribute [local irreducible] flowsY loL
attribute [local irreducible] dInt dBool dSl dPp dPtr dAgg dTup dClo dAny dEx dStr dGd dCells dVec dVs dRow dOp nth Tri Into TOps Ctr bodyPost Exit.then Exit.inBlock Code.wp Code.wpIn dWhen dPa dPe dAo dArr dMp dPm dMap dCJ CtrG CtrI OpY keepPost iterPost bodyPostM roundQ
set_option maxRecDepth 100000 in
theorem k_workedS (y : Yard) (hr : y.Right) (c8 : List Bool) (hc8 : c8.length = 8) : CtrG Tryz.prog 117 [] [] [yardT y, Ty.arr BoolE c8] [(31, Cont.vec I64 3 (loL (flowsY y (nth c8))))] (Ty.pp (deskS y (flowsY y (nth c8)) 31 (flowsY y (nth c8)).length)) := by
  refine fnMG_intro Tryz.func117 rfl (by decide) Tryz.ntmps117 (by exact Nat.le_of_ble_eq_true rfl) fun w0 M0 => ?_
  have hfl := flows_few (c := nth c8) hr
  refine t_seq ?_
  refine t_region ?_
  refine r_box_agg rfl ?_
  refine r_box_arr rfl ?_
  refine asX rfl ?_
  refine r_nil ?_
  refine i_then ?_
  refine t_seq ?_
  refine t_region ?_
  refine r_load_ppN rfl rfl rfl (by exact Nat.le_of_ble_eq_true rfl) ?_
  refine r_build rfl rfl (by exact List.cons_ne_nil _ _) rfl (by repeat (first | exact (Parts.nil : Parts _ _ [] _) | (show Parts _ _ ((_, _) :: _) _; apply Parts.agg; (· exact (rfl : _ = Ty.agg _))))) (by exact rfl) ?_
  refine r_box_own rfl rfl rfl ?_
  refine r_alloc rfl (by exact List.cons_ne_nil _ _) rfl ?_
  refine r_store1 rfl rfl (by decide) rfl rfl (by exact (rfl : _ = Ty.ptr _ _)) rfl (by exact Nat.le_of_ble_eq_true rfl) rfl rfl (by exact (rfl : _ = [_])) ?_
  refine r_nil ?_
  refine i_then ?_
  refine t_seq ?_
  refine t_seq ?_
  refine t_region ?_
  refine r_load_ptr rfl rfl (by decide) rfl rfl rfl ?_
  refine r_load_paA rfl rfl rfl (by rw [hc8]; rfl) ?_
  refine r_callG (res' := Ty.clo 196 [Ty.pp [Ty.ptr 10 0], Ty.pa BoolE c8 0]) [(10, 1000)] [] [(10, Cont.cells 185 (deskN y))] (k_each y c8 hc8) rfl rfl (cv_cons (cv_cons cv_nil (cv_pub rfl rfl)) (cv_ptr (by exact List.mem_cons_self))) (pre_cons (a := 10) (b := 1000) (by exact List.mem_cons_self) rfl (cc_cells_eq (by exact List.mem_cons_self) rfl rfl rfl) pre_nil) (post_cons (a := 10) (b := 1000) (by exact List.mem_cons_self) rfl (cc_cells_eq (by exact List.mem_cons_self) rfl rfl rfl) post_nil) (cv_clo (cv_cons (cv_cons cv_nil (cv_pub rfl rfl)) (cv_pp (cv_cons cv_nil (cv_ptr (by exact List.mem_cons_self)))))) ?_
  refine r_nil ?_
  refine i_then ?_
  refine t_name (D := 10) (Tb := 185) (tys := yardTys y) (r := [Ty.ex (.slice none 0 0), Ty.ex (.slice none 0 0)]) rfl rfl rfl (by decide) fun vs hvs => ?_
  obtain ⟨v0, v1, v2, v3, rfl⟩ := four hvs rfl
  refine t_block ?_
  refine t_rangeFuncT (ps := [13]) (lk [(5, Ty.ptr 6 0), (9, Ty.ptr 10 0)]) (fun k => [(6, Cont.cells 152 [Ty.ptr 10 0]), (10, Cont.cells 185 [Ty.ex v0, Ty.ex v1, Ty.ex v2, Ty.ex v3, Ty.row FlowE 187 23 ((flowsY y (nth c8)).take k), Ty.row I64 3 31 ((loL (flowsY y (nth c8))).take k)]), (4000, Cont.fact (yardTys y) [v0, v1, v2, v3] rfl rfl)]) false [] [6, 10, 4000] rfl rfl ((c_each1 y hr c8 hc8 0 10 (by decide) [v0, v1, v2, v3]).1) (ranges_X (D := 10) (n := 36) (sd := 9) (r := fun k => [Ty.row FlowE 187 23 ((flowsY y (nth c8)).take k), Ty.row I64 3 31 ((loL (flowsY y (nth c8))).take k)]) (fun b => c_each1 y hr c8 hc8 b 10 (by decide) [v0, v1, v2, v3]) (by decide) (by decide) rfl (fun k => List.mem_cons_of_mem _ List.mem_cons_self) (List.mem_cons_of_mem _ (List.mem_cons_of_mem _ List.mem_cons_self))) (deps_lt rfl) (deps_lt rfl) (by decide) (by intro t ht; obtain ⟨x, _, rfl⟩ := List.mem_map.1 ht; exact ⟨rfl, rfl, rfl⟩) rfl rfl (fun _ => rfl) rfl ?_ ?_ ?_ (by intro h; cases h)
  · (refine Ent.mk' ?_ ?_ <;> (repeat' (first | exact allSub_zero | exact allTags_nil | exact subs_nil | refine allSub_succ' ?_ (Ty.sub_any _) | refine allSub_succ' ?_ (Ty.sub_refl _) | refine allTags_cons rfl (Cont.sub_refl _) ?_ | refine allTags_cons rfl (Cont.sub_subs ?_) ?_ | refine subs_cons ?_ (Ty.sub_refl _) | refine subs_cons ?_ Ty.nil_row)))
    all_goals trace_state
  · intro k tys hk
    obtain ⟨hk1, rfl⟩ := enc_get hk
    refine ⟨live [(5, Ty.ptr 6 0), (6, Ty.ptr 7 0), (9, Ty.ptr 10 0)] [(6, Cont.cells 152 [Ty.ptr 10 0]), (7, Cont.cells 187 (FlowE.tys (nth (flowsY y (nth c8)) k))), (10, Cont.cells 185 [Ty.ex v0, Ty.ex v1, Ty.ex v2, Ty.ex v3, Ty.row FlowE 187 23 ((flowsY y (nth c8)).take k), Ty.row I64 3 31 ((loL (flowsY y (nth c8))).take k)]), (4000, Cont.fact (yardTys y) [v0, v1, v2, v3] rfl rfl)], fun l w M => ?_, fun l w M => ?_⟩
    ·
      refine t_region ?_
      refine r_alloc rfl (by exact List.cons_ne_nil _ _) rfl ?_
      refine r_storeN rfl rfl (by decide) rfl rfl rfl rfl rfl rfl ?_
      refine r_nil ?_
      refine i_join ?_
      (refine Ent.mk' ?_ ?_ <;> (repeat' (first | exact allSub_zero | exact allTags_nil | refine allSub_succ' ?_ (Ty.sub_any _) | refine allSub_succ' ?_ (Ty.sub_refl _) | refine allTags_cons rfl (Cont.sub_refl _) ?_)))
    ·
      refine t_block ?_
      refine t_nameR (D := 10) (Tb := 185) (tg := 23) [Ty.ex v0, Ty.ex v1, Ty.ex v2, Ty.ex v3] rfl fun v4 => ?_
      refine t_nameR (D := 10) (Tb := 185) (tg := 31) [Ty.ex v0, Ty.ex v1, Ty.ex v2, Ty.ex v3, Ty.ex v4] rfl fun v5 => ?_
      refine t_draw mixed rfl ?_
      refine r_load_ptr rfl rfl (by decide) rfl rfl rfl ?_
      refine r_load_ptr rfl rfl (by decide) rfl rfl rfl ?_
      refine r_load_ptr rfl rfl (by decide) rfl rfl rfl ?_
      refine r_nilCheck_ptr rfl ?_
      refine r_field_ptr rfl rfl rfl rfl rfl (by decide) ?_
      refine r_load_ptr rfl rfl (by decide) rfl rfl rfl ?_
      refine r_load_ptrN rfl rfl (by decide) rfl rfl (by exact Nat.le_of_ble_eq_true rfl) ?_
      refine r_buildSlice (E := FlowE) (xs := [_]) rfl rfl rfl rfl rfl (by decide) (by decide) (by repeat (first | exact (Parts.nil : Parts _ _ [] _) | (show Parts _ _ ((_, _) :: _) _; apply Parts.agg; (· exact (rfl : _ = Ty.agg _))))) (by exact rfl) rfl ?_
      refine r_appendV (tg := 23) rfl rfl rfl rfl (by decide) rfl rfl rfl rfl rfl rfl (by decide) (by (simp <;> omega)) (by (simp <;> omega)) rfl rfl ?_
      refine r_load_ptr rfl rfl (by decide) rfl rfl rfl ?_
      refine r_nilCheck_ptr rfl ?_
      refine r_field_ptr rfl rfl rfl rfl rfl (by decide) ?_
      refine r_load_ptr rfl rfl (by decide) rfl rfl rfl ?_
      refine r_field_ptr rfl rfl rfl rfl rfl (by decide) ?_
      refine r_load_ptr rfl rfl (by decide) rfl rfl rfl ?_
      refine r_buildSlice (E := I64) (xs := [_]) rfl rfl rfl rfl rfl (by decide) (by decide) (by repeat (first | exact (Parts.nil : Parts _ _ [] _) | (show Parts _ _ ((_, _) :: _) _; apply Parts.one; (· exact (rfl : _ = Ty.int _ _)); (· exact rfl)))) (by exact rfl) rfl ?_
      refine r_appendV (tg := 31) rfl rfl rfl rfl (by decide) rfl rfl rfl rfl rfl rfl (by decide) (by (simp <;> omega)) (by (simp <;> omega)) rfl rfl ?_
      refine r_nilCheck_ptr rfl ?_
      refine r_field_ptr rfl rfl rfl rfl rfl (by decide) ?_
      refine r_store1 rfl rfl (by decide) rfl rfl (by exact (rfl : _ = Ty.row _ _ _ _)) rfl (by exact Nat.le_of_ble_eq_true rfl) rfl rfl (by exact rfl) ?_
      refine r_nilCheck_ptr rfl ?_
      refine r_field_ptr rfl rfl rfl rfl rfl (by decide) ?_
      refine r_store1 rfl rfl (by decide) rfl rfl (by exact (rfl : _ = Ty.row _ _ _ _)) rfl (by exact Nat.le_of_ble_eq_true rfl) rfl rfl (by exact rfl) ?_
      refine r_nil ?_
      refine ⟨by kernel_rfl, ?_⟩
      refine i_block ?_
      refine q_normal ?_
      (refine Ent.mk' ?_ ?_ <;> (repeat' (first | exact allSub_zero | exact allTags_nil | exact subs_nil | refine allSub_succ' ?_ (Ty.sub_any _) | refine allTags_cons rfl (Cont.sub_refl _) ?_ | refine allTags_cons rfl (Cont.sub_subs ?_) ?_ | refine subs_cons ?_ (Ty.sub_refl _) | refine subs_cons ?_ ?_)))
      all_goals first | exact Ty.sub_row (take_nth hk1).symm | exact Ty.sub_row (lo_take hk1)
  ·
    refine i_block ?_
    refine i_then ?_
    refine t_seq ?_
    refine t_unname (D := 10) (Tb := 185) (vs := [v0, v1, v2, v3]) (tys := yardTys y) (r := [Ty.row FlowE 187 23 ((flowsY y (nth c8)).take ((flowsY y (nth c8)).map flowEnc).length), Ty.row I64 3 31 ((loL (flowsY y (nth c8))).take ((flowsY y (nth c8)).map flowEnc).length)]) rfl rfl ?_
    refine t_asC (tg := 10) rfl (Cont.sub_cells (T := 185) (desk_end (y := y) (fl := flowsY y (nth c8)) (f := flowEnc))) ?_
    refine t_ownCell (c0 := 10) (tg := 23) 4 rfl rfl ?_
    refine t_ownCell (c0 := 10) (tg := 31) 5 rfl rfl ?_
    refine t_asC (tg := 10) rfl (Cont.sub_cellsL (l' := deskV y 23 31 (flowsY y (nth c8)).length (flowsY y (nth c8)).length) ⟨Ty.sub_refl _, Ty.sub_refl _, Ty.sub_refl _, Ty.sub_refl _, Ty.row_vs rfl, Ty.row_vs (lo_len _), trivial⟩) ?_
    refine t_pubC (tg := 10) [] [(6, Cont.cells 152 [Ty.pp (deskV y 23 31 (flowsY y (nth c8)).length (flowsY y (nth c8)).length)])] (by decide) rfl trivial ⟨pubC_cells rfl rfl ⟨pubTy_ptr rfl rfl (by decide), trivial⟩, trivial⟩ ?_
    refine t_pubC (tg := 23) [] [(6, Cont.cells 152 [Ty.pp (deskS y (flowsY y (nth c8)) 31 (flowsY y (nth c8)).length)])] (by decide) rfl trivial ⟨pubC_cells rfl rfl ⟨pubTy_pp ⟨pubTy_same rfl, pubTy_same rfl, pubTy_same rfl, pubTy_same rfl, pubTy_vs rfl rfl (by decide), pubTy_same rfl, trivial⟩, trivial⟩, trivial⟩ ?_
    refine t_region ?_
    refine r_load_ptr rfl rfl (by decide) rfl rfl rfl ?_
    refine asP rfl ?_
    refine r_nil ?_
    refine i_then ?_
    refine t_ret ?_
    refine m_ret rfl ?_
    refine g_ret1 [31] rfl rfl (by decide) (by repeat (first | exact rc_nil | refine rc_cons rfl (cc_vec (by decide) rfl) ?_)) ?_
    all_goals skip
    all_goals exact rg_cv (cv_pp (cv_cons (cv_cons (cv_cons (cv_cons (cv_cons (cv_cons cv_nil (cv_vs (by decide))) (cv_pub rfl rfl)) (cv_pub rfl rfl)) (cv_pub rfl rfl)) (cv_pub rfl rfl)) (cv_pub rfl rfl)))
end Go.Proofs.YtelbollidfdcjaaGreat

namespace Go.Proofs.YtelbollidfdcjaaGreat
open Go Go.T
theorem und180 : Tryz.prog.underlying 180 = some (.array 8 4) := by kernel_rfl
theorem eqv180 (a0 a1 a2 a3 a4 a5 a6 a7 b0 b1 b2 b3 b4 b5 b6 b7 : Bool) (w : World) : (Op.equal 180 (.agg #[.bool a0, .bool a1, .bool a2, .bool a3, .bool a4, .bool a5, .bool a6, .bool a7]) (.agg #[.bool b0, .bool b1, .bool b2, .bool b3, .bool b4, .bool b5, .bool b6, .bool b7])).run Tryz.prog w = .ok ((decide (a0 = b0) && (decide (a1 = b1) && (decide (a2 = b2) && (decide (a3 = b3) && (decide (a4 = b4) && (decide (a5 = b5) && (decide (a6 = b6) && decide (a7 = b7))))))))) w := by
  have hs : Tryz.prog.stoodInHeld 180 = false := by kernel_rfl
  have e4 : ∀ (x y : Bool) (w : World), (Op.equalIn 9999 4 (.bool x) (.bool y)).run Tryz.prog w = .ok (decide (x = y)) w := fun x y w => by
    rw [Op.equalIn]
    simp only [Sem.run_bind, run_underlying Tryz.underlying4, Result.andThen_ok]
    rfl
  have g4 : ∀ w, (isAgg 4).run Tryz.prog w = .ok false w := fun w => by simp [isAgg, run_underlying Tryz.underlying4]
  unfold Op.equal Op.maxDepth
  rw [Op.equalIn]
  simp only [Sem.run_bind, run_underlying und180, Result.andThen_ok]
  simp [hs, part, g4, e4]
  rw [show List.range' 0 8 = [0, 1, 2, 3, 4, 5, 6, 7] from rfl]
  simp [List.forIn_cons, g4, e4]
  by_cases h0 : a0 = b0
  case neg => simp [h0]
  rw [if_pos h0]
  by_cases h1 : a1 = b1
  case neg => simp [h1]
  rw [if_pos h1]
  by_cases h2 : a2 = b2
  case neg => simp [h2]
  rw [if_pos h2]
  by_cases h3 : a3 = b3
  case neg => simp [h3]
  rw [if_pos h3]
  by_cases h4 : a4 = b4
  case neg => simp [h4]
  rw [if_pos h4]
  by_cases h5 : a5 = b5
  case neg => simp [h5]
  rw [if_pos h5]
  by_cases h6 : a6 = b6
  case neg => simp [h6]
  rw [if_pos h6]
  by_cases h7 : a7 = b7
  case neg => simp [h7]
  rw [if_pos h7]
  simp [h0, h1, h2, h3, h4, h5, h6, h7]
theorem eqt180 (xs ys : List Bool) (hx : xs.length = 8) (hy : ys.length = 8) : EqT Tryz.prog 180 (xs.flatMap BoolE.tys) (ys.flatMap BoolE.tys) (decide (xs = ys)) := by
  match xs, ys, hx, hy with
  | [a0, a1, a2, a3, a4, a5, a6, a7], [b0, b1, b2, b3, b4, b5, b6, b7], _, _ =>
    refine ⟨by kernel_rfl, fun w M cs ds h1 h2 => ?_⟩
    obtain ⟨cs⟩ := cs
    obtain ⟨ds⟩ := ds
    match cs, ds, h1, h2 with
    | [u0, u1, u2, u3, u4, u5, u6, u7], [v0, v1, v2, v3, v4, v5, v6, v7], h1, h2 =>
      change dens w M [Ty.bool a0, Ty.bool a1, Ty.bool a2, Ty.bool a3, Ty.bool a4, Ty.bool a5, Ty.bool a6, Ty.bool a7] _ at h1
      change dens w M [Ty.bool b0, Ty.bool b1, Ty.bool b2, Ty.bool b3, Ty.bool b4, Ty.bool b5, Ty.bool b6, Ty.bool b7] _ at h2
      obtain ⟨e0, e1, e2, e3, e4, e5, e6, e7, _⟩ := h1
      obtain ⟨f0, f1, f2, f3, f4, f5, f6, f7, _⟩ := h2
      cases e0; cases e1; cases e2; cases e3; cases e4; cases e5; cases e6; cases e7
      cases f0; cases f1; cases f2; cases f3; cases f4; cases f5; cases f6; cases f7
      rw [eqv180]
      congr 1
      simp only [List.cons.injEq, and_true, Bool.decide_and]
end Go.Proofs.YtelbollidfdcjaaGreat

namespace Go.T
open Go Go.RowKit
section
variable {P : Program} {fr : Fr} {ops : Array Oper} {A : As} {rest : List Oper} {K : As → List (As × Fx) → Prop} {d : Nat} {t ty' ty2 : TypeId} {p : String} {e : Array Edge}
theorem r_neqla {α : Type} [Inhabited α] {E : El α} {xs ys : List α} {x y : Operand} {c : Bool} (hE : EqT P ty' (xs.flatMap E.tys) (ys.flatMap E.tys) c) (hx : A.op fr x = .arr E xs) (hy : A.op fr y = .arr E ys)
    (h : TOps P fr ops rest (A.set d (.bool (!c))) fun A' l' => K A' ((A, { d := some d, ty := .bool (!c), rs := opR x ++ opR y }) :: l')) : TOps P fr ops (⟨some d, .binOp .neq ty' x y ty2, t, p, e, none⟩ :: rest) A K :=
  tops_pure (opT_pure rfl rfl fun a w M _ hrd _ => by
    have _ := (inferInstance : Inhabited α)
    obtain ⟨hdx, hdy⟩ := op2 hrd
    rw [hx] at hdx; rw [hy] at hdy
    obtain ⟨cs, ex, h1⟩ := hdx
    obtain ⟨ds, ey, h2⟩ := hdy
    exact ⟨.bool (!c), by simp only [execOp, ex, ey]; simp [eqGuard, hE.1, binOp, hE.2 w M cs ds h1 h2], rfl⟩) h
end
end Go.T

namespace Go.Proofs.YtelbollidfdcjaaGreat
open Go Go.T
set_option maxHeartbeats 16000000
def idxM (l : List Int) (x : Int) : Int := fidx (fun y => decide (x = y)) l
theorem contains_idx (l : List Int) (x : Int) : decide (idxM l x ≥ 0) = decide (x ∈ l) := by
  unfold idxM
  rw [fidx_ge]
  rw [Bool.eq_iff_iff]; simp
def chooseB (l : List Int) (o : Bool) (i : Nat) : Bool := !(decide ((i : Int) ∈ l) == o)
def chooseUp (l : List Int) (o : Bool) (k : Nat) : List Bool := (List.range k).map (chooseB l o) ++ List.replicate (8 - k) false
def chooseL (l : List Int) (o : Bool) : List Bool := (List.range 8).map (chooseB l o)
noncomputable def agreeM (y : Yard) (c : List Bool) : Bool := !(stuckM (flowsY y (nth c)) (y.cells + 1) (loL (flowsY y (nth c)))).2.1
section
variable {y : Yard} {l : List Int} {o : Bool} {k : Nat}
theorem chooseUp_len (h : k ≤ 8) : (chooseUp l o k).length = 8 := by unfold chooseUp; rw [List.length_append, List.length_map, List.length_range, List.length_replicate]; omega
theorem choose_len : (chooseL l o).length = 8 := by unfold chooseL; rw [List.length_map, List.length_range]
theorem chooseUp_zero : List.replicate 8 false = chooseUp l o 0 := rfl
theorem chooseUp_end : chooseUp l o 8 = chooseL l o := List.append_nil _
theorem chooseUp_succ (h : k < 8) : (chooseUp l o k).set k (!(decide ((k : Int) ∈ l) == o)) = chooseUp l o (k + 1) := by
  unfold chooseUp
  have e : ((List.range k).map (chooseB l o)).length = k := by rw [List.length_map, List.length_range]
  rw [List.set_append_right _ _ (by omega), e, Nat.sub_self, show 8 - k = (8 - (k + 1)) + 1 by omega, List.replicate_succ, List.set_cons_zero, List.range_succ, List.map_append, List.append_assoc]; rfl
theorem eqt180b {xs ys : List Bool} {b : Bool} (hx : xs.length = 8) (hy : ys.length = 8) (h : decide (xs = ys) = b) : EqT Tryz.prog 180 (xs.flatMap BoolE.tys) (ys.flatMap BoolE.tys) b := h ▸ eqt180 xs ys hx hy
theorem agr_1 (h : decide (chooseL l o = allC) = true) (h2 : (!(stuckM (flowsY y (nth allC)) (y.cells + 1) (loL (flowsY y (nth allC)))).2.1) = true) : true = agreeM y (chooseL l o) := by rw [of_decide_eq_true h]; exact h2.symm
theorem agr_2 (h : decide (chooseL l o = allC) = true) (h2 : (!(stuckM (flowsY y (nth allC)) (y.cells + 1) (loL (flowsY y (nth allC)))).2.1) = false) : false = agreeM y (chooseL l o) := by rw [of_decide_eq_true h]; exact h2.symm
theorem agr_3 (y : Yard) (c : List Bool) : (!(stuckM (flowsY y (nth c)) (y.cells + 1) (loL (flowsY y (nth c)))).2.1) = agreeM y c := rfl
end
attribute [local irreducible] flowsY loL Way.beg Way.fin Way.room waysQ sendM overUp overL over waysL reachM hasM lackM lackB mostL pathM sendS stuckM settleM leastL addW goalG betterM bestM cycM roundM hasUp hasV spanU loA hiA firstK Yard.kept Yard.cells checkY knownE allC toldY amtU openE bndA bndS bndE bndY movE movS hasB hasK whlA whlS whlY hasW fstE fstV wrongW inP holdUp holdsM cmB goB stepH agreeM chooseL chooseUp
attribute [local irreducible] dInt dBool dSl dPp dPtr dAgg dTup dClo dAny dEx dStr dGd dCells dVec dVs dRow dOp nth Tri Into TOps Ctr bodyPost Exit.then Exit.inBlock Code.wp Code.wpIn dWhen dPa dPe dAo dArr dMp dPm dMap dCJ CtrG CtrI OpY keepPost iterPost bodyPostM roundQ
set_option maxRecDepth 100000 in
theorem c_Index_int (l : List Int) (x : Int) : Ctr Tryz.prog 140 [Ty.sl I64 l, Ty.int .i64 x] (Ty.int .i64 (idxM l x)) := by
  refine fn_intro Tryz.func140 rfl (by decide) Tryz.ntmps140 (by exact Nat.le_of_ble_eq_true rfl) fun w0 M0 => ?_
  refine t_fact (s := 0) rfl rfl sl_len fun hl => ?_
  refine t_seq ?_
  refine t_region ?_
  refine asI rfl ?_
  refine r_nil ?_
  refine i_then ?_
  refine t_seq ?_
  refine t_seq ?_
  refine t_region ?_
  refine mvS rfl ?_
  refine r_len rfl rfl rfl ?_
  refine mvI rfl ?_
  refine r_nil ?_
  refine i_then ?_
  refine t_block ?_
  refine t_loop (fun (k : {k : Nat // ∀ y ∈ l.take k, decide (x = y) = false}) => live [(0, Ty.sl I64 l), (1, Ty.int .i64 x), (7, Ty.int .i64 l.length), (8, Ty.int .i64 (k.1 : Nat))] []) (fun k => l.length - k.1) (⟨0, by simp⟩) ?_ fun k => ?_
  · (refine Ent.mk' ?_ ?_ <;> (repeat' (first | exact allSub_zero | exact allTags_nil | refine allSub_succ' ?_ (Ty.sub_any _) | refine allSub_succ' ?_ (Ty.sub_refl _))))
  ·
    refine t_seq ?_
    refine t_region ?_
    refine r_bin rfl rfl rfl ?_
    refine r_nil ?_
    refine i_then ?_
    refine t_seq ?_
    refine t_cond_dec rfl (fun hc1 => ?_) (fun hc1 => ?_)
    ·
      refine t_skip ?_
      refine i_then ?_
      refine t_seq ?_
      refine t_block ?_
      refine t_seq ?_
      refine t_region ?_
      refine mvI rfl ?_
      refine asI rfl ?_
      refine r_nil ?_
      refine i_then ?_
      refine t_seq ?_
      refine t_region ?_
      refine mvI rfl ?_
      refine mvS rfl ?_
      refine mvI rfl ?_
      refine r_index_slN rfl rfl rfl rfl rfl rfl (by omega) ?_
      refine r_load_pp rfl rfl rfl rfl ?_
      refine r_bin rfl rfl rfl ?_
      refine r_nil ?_
      refine i_then ?_
      refine t_cond_dec rfl (fun hc2 => ?_) (fun hc2 => ?_)
      ·
        refine t_seq ?_
        refine t_region ?_
        refine mvI rfl ?_
        refine asI rfl ?_
        refine r_nil ?_
        refine i_then ?_
        refine t_ret ?_
        refine i_block_ret ?_
        refine i_then_ret ?_
        refine i_then_ret ?_
        refine i_block_ret ?_
        refine i_then_ret ?_
        refine i_rp1 rfl rfl ?_
        all_goals skip
        exact ret_eq rfl rfl (congrArg (Ty.int .i64) (by unfold idxM; rw [fidx_found (k := k.1) (by omega) k.2 (by rw [← nth_lt]; exact decide_eq_true hc2)]))
      ·
        refine t_skip ?_
        refine i_block ?_
        refine i_then ?_
        refine t_region ?_
        refine r_add rfl rfl (by omega) (by omega) ?_
        refine mvI rfl ?_
        refine r_nil ?_
        refine i_round (⟨k.1 + 1, by rw [take_nth (by omega)]; intro y hy; rcases List.mem_append.1 hy with h | h; exact k.2 y h; rw [List.mem_singleton.1 h]; exact decide_eq_false hc2⟩) ?_ (by show l.length - (k.1 + 1) < l.length - k.1; omega)
        (refine Ent.mk' ?_ ?_ <;> (repeat' (first | exact allSub_zero | exact allTags_nil | refine allSub_succ' ?_ (Ty.sub_any _) | refine allSub_succ' ?_ (Ty.sub_refl _))))
        all_goals skip
    ·
      refine t_exit ?_
      refine i_then_exit ?_
      refine i_then_exit ?_
      refine i_block_exit rfl ?_
      refine i_then ?_
      refine t_seq ?_
      refine t_region ?_
      refine asI rfl ?_
      refine r_nil ?_
      refine i_then ?_
      refine t_ret ?_
      refine i_rp1 rfl rfl ?_
      all_goals skip
      exact ret_eq rfl rfl (congrArg (Ty.int .i64) (by unfold idxM; rw [fidx_none (by have := k.2; rwa [List.take_of_length_le (by omega)] at this)]))
set_option maxRecDepth 100000 in
theorem c_Contains_int (l : List Int) (x : Int) : Ctr Tryz.prog 65 [Ty.sl I64 l, Ty.int .i64 x] (Ty.bool (decide (x ∈ l))) := by
  refine fn_intro Tryz.func65 rfl (by decide) Tryz.ntmps65 (by exact Nat.le_of_ble_eq_true rfl) fun w0 M0 => ?_
  refine t_seq ?_
  refine t_region ?_
  refine asB rfl ?_
  refine r_nil ?_
  refine i_then ?_
  refine t_seq ?_
  refine t_region ?_
  refine mvS rfl ?_
  refine mvI rfl ?_
  refine r_call (c_Index_int l x) rfl rfl rfl rfl rfl ?_
  refine r_bin rfl rfl rfl ?_
  refine asB rfl ?_
  refine r_nil ?_
  refine i_then ?_
  refine t_ret ?_
  refine i_rp1 rfl rfl ?_
  all_goals skip
  exact ret_eq rfl rfl (congrArg Ty.bool (contains_idx l x))
set_option maxRecDepth 100000 in
theorem c_agrees (y : Yard) (hr : y.Right) (l : List Int) (o : Bool) : Ctr Tryz.prog 112 [yardT y, Ty.sl I64 l, Ty.bool o] (Ty.bool (agreeM y (chooseL l o))) := by
  refine fn_intro Tryz.func112 rfl (by decide) Tryz.ntmps112 (by exact Nat.le_of_ble_eq_true rfl) fun w0 M0 => ?_
  refine t_seq ?_
  refine t_region ?_
  refine r_box_agg rfl ?_
  refine asB rfl ?_
  refine r_nil ?_
  refine i_then ?_
  refine t_seq ?_
  refine t_region ?_
  refine r_allocV (E := BoolE) (xs := List.replicate 8 false) rfl (by exact List.cons_ne_nil _ _) rfl rfl ?_
  refine r_nil ?_
  refine i_then ?_
  refine t_seq ?_
  refine t_seq ?_
  refine t_region ?_
  refine mvI rfl ?_
  refine r_nil ?_
  refine i_then ?_
  refine t_block ?_
  refine t_loop (fun (k : {k : Nat // k ≤ 8}) => live [(1, Ty.sl I64 l), (2, Ty.bool o), (3, Ty.pp (yardTys y)), (7, Ty.ptr 8 0), (9, Ty.int .i64 (k.1 : Nat))] [(8, Cont.vec BoolE 180 (chooseUp l o k.1))]) (fun k => 8 - k.1) (⟨0, by omega⟩) ?_ fun k => ?_
  · (refine Ent.mk' ?_ ?_ <;> (repeat' (first | exact allSub_zero | exact allTags_nil | refine allSub_succ' ?_ (Ty.sub_any _) | refine allSub_succ' ?_ (Ty.sub_refl _) | refine allTags_cons rfl ?_ ?_)))
    all_goals exact Cont.sub_vec chooseUp_zero
  ·
    have hkl := chooseUp_len (l := l) (o := o) k.2
    refine t_seq ?_
    refine t_region ?_
    refine r_bin rfl rfl rfl ?_
    refine r_nil ?_
    refine i_then ?_
    refine t_seq ?_
    refine t_cond_dec rfl (fun hc1 => ?_) (fun hc1 => ?_)
    ·
      refine t_skip ?_
      refine i_then ?_
      refine t_seq ?_
      refine t_block ?_
      refine t_seq ?_
      refine t_region ?_
      refine mvI rfl ?_
      refine asI rfl ?_
      refine r_nil ?_
      refine i_then ?_
      refine t_region ?_
      refine mvI rfl ?_
      refine mvS rfl ?_
      refine mvI rfl ?_
      refine r_call (c_Contains_int _ _) rfl rfl rfl rfl rfl ?_
      refine mvB rfl ?_
      refine r_neq_B und4 rfl rfl ?_
      refine r_index_ptrI (n := 8) rfl rfl rfl rfl rfl (by omega) (by omega) ?_
      refine r_store_vecA rfl rfl rfl (by decide) rfl rfl (by exact (rfl : _ = Ty.bool _)) rfl (by omega) (by decide) rfl rfl ?_
      refine r_nil ?_
      refine i_block ?_
      refine i_then ?_
      refine t_region ?_
      refine r_add rfl rfl (by omega) (by omega) ?_
      refine mvI rfl ?_
      refine r_nil ?_
      refine i_round (⟨k.1 + 1, by omega⟩) ?_ (by show 8 - (k.1 + 1) < 8 - k.1; omega)
      (refine Ent.mk' ?_ ?_ <;> (repeat' (first | exact allSub_zero | exact allTags_nil | refine allSub_succ' ?_ (Ty.sub_any _) | refine allSub_succ' ?_ (Ty.sub_refl _) | refine allTags_cons rfl ?_ ?_)))
      all_goals skip
      all_goals exact Cont.sub_vec (chooseUp_succ (by omega))
    ·
      refine t_exit ?_
      refine i_then_exit ?_
      refine i_then_exit ?_
      refine i_block_exit rfl ?_
      refine i_then ?_
      refine t_seq ?_
      obtain ⟨k, hk⟩ := k
      obtain rfl : k = 8 := by have h1 : ¬ (k : Int) < 8 := hc1; have h2 : k ≤ 8 := hk; omega
      refine t_asC (tg := 8) rfl (Cont.sub_vec chooseUp_end) ?_
      have hcl : (chooseL l o).length = 8 := choose_len
      refine t_draw mixed rfl ?_
      refine r_load_vecN rfl rfl (by decide) rfl rfl (by rw [hcl]; rfl) (fun e => by rw [e] at hcl; cases hcl) ?_
      refine r_call (c_all) rfl rfl rfl rfl rfl ?_
      refine r_eqla (eqt180 _ _ hcl allC_len) rfl rfl ?_
      cases hsp : (decide ((chooseL l o) = allC))
      ·
        refine mvB rfl ?_
        refine r_off rfl rfl rfl rfl ?_
        refine r_off rfl rfl rfl rfl ?_
        refine r_off rfl rfl rfl rfl ?_
        refine r_off rfl rfl rfl rfl ?_
        refine r_pick0 rfl ?_
        cases hsp : (!(stuckM (flowsY y (nth allC)) (y.cells + 1) (loL (flowsY y (nth allC)))).2.1)
        ·
          refine mvB rfl ?_
          (refine r_on rfl rfl rfl (by apply opT_of; (refine r_load_vecN rfl rfl (by decide) rfl rfl (by rw [hcl]; rfl) (fun e => by rw [e] at hcl; cases hcl) ?_); refine r_nil ?_; exact rfl) ?_)
          (refine r_on rfl rfl rfl (by apply opT_of; (refine r_call (c_all) rfl rfl rfl rfl rfl ?_); refine r_nil ?_; exact rfl) ?_)
          (refine r_on rfl rfl rfl (by apply opT_of; (refine r_neqla (eqt180b hcl allC_len (by assumption)) rfl rfl ?_); refine r_nil ?_; exact rfl) ?_)
          (refine r_on rfl rfl rfl (by apply opT_of; (refine mvB rfl ?_); refine r_nil ?_; exact rfl) ?_)
          (refine r_on rfl rfl rfl (by apply opT_of; (refine r_load_ppN rfl rfl rfl (by exact Nat.le_of_ble_eq_true rfl) ?_); refine r_nil ?_; exact rfl) ?_)
          (refine r_on rfl rfl rfl (by apply opT_of; (refine r_load_vecN rfl rfl (by decide) rfl rfl (by rw [hcl]; rfl) (fun e => by rw [e] at hcl; cases hcl) ?_); refine r_nil ?_; exact rfl) ?_)
          (refine r_on rfl rfl rfl (by apply opT_of; (refine r_callG (res' := Ty.pp (deskS y (flowsY y (nth (chooseL l o))) 1000 (flowsY y (nth (chooseL l o))).length)) [(1000, 31)] [1000] [(1000, Cont.vec I64 3 (loL (flowsY y (nth (chooseL l o)))))] (k_workedS y hr (chooseL l o) hcl) rfl rfl (cv_cons (cv_cons cv_nil (cv_pub rfl rfl)) (cv_pub rfl rfl)) pre_nil (post_cons (a := 1000) (b := 31) (by decide) rfl (cc_vec (by decide) rfl) post_nil) (cv_pp (cv_cons (cv_cons (cv_cons (cv_cons (cv_cons (cv_cons cv_nil (cv_vs (by decide))) (cv_pub rfl rfl)) (cv_pub rfl rfl)) (cv_pub rfl rfl)) (cv_pub rfl rfl)) (cv_pub rfl rfl))) ?_); refine r_nil ?_; exact rfl) ?_)
          (refine r_on rfl rfl rfl (by apply opT_of; (refine r_callG [(1000, 1000)] [] [(1000, Cont.vec I64 3 (stuckM (flowsY y (nth (chooseL l o))) (y.cells + 1) (loL (flowsY y (nth (chooseL l o))))).2.2)] (k_settle y (flowsY y (nth (chooseL l o))) (loL (flowsY y (nth (chooseL l o)))) (rough_of hr)) rfl rfl (cv_cons cv_nil (cv_pp (cv_cons (cv_cons (cv_cons (cv_cons (cv_cons (cv_cons cv_nil (cv_vs (by exact List.mem_cons_self))) (cv_pub rfl rfl)) (cv_pub rfl rfl)) (cv_pub rfl rfl)) (cv_pub rfl rfl)) (cv_pub rfl rfl)))) (pre_cons (a := 1000) (b := 1000) (by exact List.mem_cons_self) rfl (cc_vec (by exact List.mem_cons_self) rfl) pre_nil) (post_cons (a := 1000) (b := 1000) (by decide) rfl (cc_vec (by decide) rfl) post_nil) (cv_pub rfl rfl) ?_); refine r_nil ?_; exact rfl) ?_)
          (refine r_on rfl rfl rfl (by apply opT_of; (refine r_pick1 rfl rfl ?_); refine r_nil ?_; exact rfl) ?_)
          refine r_pickF rfl rfl ?_
          refine asB rfl ?_
          refine r_nil ?_
          refine ⟨by kernel_rfl, ?_⟩
          refine i_then ?_
          refine t_ret ?_
          refine i_rp1 rfl rfl ?_
          all_goals skip
          all_goals exact ret_eq rfl rfl (congrArg Ty.bool (agr_3 y _))
        ·
          refine mvB rfl ?_
          (refine r_on rfl rfl rfl (by apply opT_of; (refine r_load_vecN rfl rfl (by decide) rfl rfl (by rw [hcl]; rfl) (fun e => by rw [e] at hcl; cases hcl) ?_); refine r_nil ?_; exact rfl) ?_)
          (refine r_on rfl rfl rfl (by apply opT_of; (refine r_call (c_all) rfl rfl rfl rfl rfl ?_); refine r_nil ?_; exact rfl) ?_)
          (refine r_on rfl rfl rfl (by apply opT_of; (refine r_neqla (eqt180b hcl allC_len (by assumption)) rfl rfl ?_); refine r_nil ?_; exact rfl) ?_)
          (refine r_on rfl rfl rfl (by apply opT_of; (refine mvB rfl ?_); refine r_nil ?_; exact rfl) ?_)
          (refine r_on rfl rfl rfl (by apply opT_of; (refine r_load_ppN rfl rfl rfl (by exact Nat.le_of_ble_eq_true rfl) ?_); refine r_nil ?_; exact rfl) ?_)
          (refine r_on rfl rfl rfl (by apply opT_of; (refine r_load_vecN rfl rfl (by decide) rfl rfl (by rw [hcl]; rfl) (fun e => by rw [e] at hcl; cases hcl) ?_); refine r_nil ?_; exact rfl) ?_)
          (refine r_on rfl rfl rfl (by apply opT_of; (refine r_callG (res' := Ty.pp (deskS y (flowsY y (nth (chooseL l o))) 1000 (flowsY y (nth (chooseL l o))).length)) [(1000, 31)] [1000] [(1000, Cont.vec I64 3 (loL (flowsY y (nth (chooseL l o)))))] (k_workedS y hr (chooseL l o) hcl) rfl rfl (cv_cons (cv_cons cv_nil (cv_pub rfl rfl)) (cv_pub rfl rfl)) pre_nil (post_cons (a := 1000) (b := 31) (by decide) rfl (cc_vec (by decide) rfl) post_nil) (cv_pp (cv_cons (cv_cons (cv_cons (cv_cons (cv_cons (cv_cons cv_nil (cv_vs (by decide))) (cv_pub rfl rfl)) (cv_pub rfl rfl)) (cv_pub rfl rfl)) (cv_pub rfl rfl)) (cv_pub rfl rfl))) ?_); refine r_nil ?_; exact rfl) ?_)
          (refine r_on rfl rfl rfl (by apply opT_of; (refine r_callG [(1000, 1000)] [] [(1000, Cont.vec I64 3 (stuckM (flowsY y (nth (chooseL l o))) (y.cells + 1) (loL (flowsY y (nth (chooseL l o))))).2.2)] (k_settle y (flowsY y (nth (chooseL l o))) (loL (flowsY y (nth (chooseL l o)))) (rough_of hr)) rfl rfl (cv_cons cv_nil (cv_pp (cv_cons (cv_cons (cv_cons (cv_cons (cv_cons (cv_cons cv_nil (cv_vs (by exact List.mem_cons_self))) (cv_pub rfl rfl)) (cv_pub rfl rfl)) (cv_pub rfl rfl)) (cv_pub rfl rfl)) (cv_pub rfl rfl)))) (pre_cons (a := 1000) (b := 1000) (by exact List.mem_cons_self) rfl (cc_vec (by exact List.mem_cons_self) rfl) pre_nil) (post_cons (a := 1000) (b := 1000) (by decide) rfl (cc_vec (by decide) rfl) post_nil) (cv_pub rfl rfl) ?_); refine r_nil ?_; exact rfl) ?_)
          (refine r_on rfl rfl rfl (by apply opT_of; (refine r_pick1 rfl rfl ?_); refine r_nil ?_; exact rfl) ?_)
          refine r_pickF rfl rfl ?_
          refine asB rfl ?_
          refine r_nil ?_
          refine ⟨by kernel_rfl, ?_⟩
          refine i_then ?_
          refine t_ret ?_
          refine i_rp1 rfl rfl ?_
          all_goals skip
          all_goals exact ret_eq rfl rfl (congrArg Ty.bool (agr_3 y _))
      ·
        refine mvB rfl ?_
        (refine r_on rfl rfl rfl (by apply opT_of; (refine r_load_ppN rfl rfl rfl (by exact Nat.le_of_ble_eq_true rfl) ?_); refine r_nil ?_; exact rfl) ?_)
        (refine r_on rfl rfl rfl (by apply opT_of; (refine r_call (c_all) rfl rfl rfl rfl rfl ?_); refine r_nil ?_; exact rfl) ?_)
        (refine r_on rfl rfl rfl (by apply opT_of; (refine r_callG (res' := Ty.pp (deskS y (flowsY y (nth allC)) 1000 (flowsY y (nth allC)).length)) [(1000, 31)] [1000] [(1000, Cont.vec I64 3 (loL (flowsY y (nth allC))))] (k_workedS y hr allC allC_len) rfl rfl (cv_cons (cv_cons cv_nil (cv_pub rfl rfl)) (cv_pub rfl rfl)) pre_nil (post_cons (a := 1000) (b := 31) (by decide) rfl (cc_vec (by decide) rfl) post_nil) (cv_pp (cv_cons (cv_cons (cv_cons (cv_cons (cv_cons (cv_cons cv_nil (cv_vs (by decide))) (cv_pub rfl rfl)) (cv_pub rfl rfl)) (cv_pub rfl rfl)) (cv_pub rfl rfl)) (cv_pub rfl rfl))) ?_); refine r_nil ?_; exact rfl) ?_)
        (refine r_on rfl rfl rfl (by apply opT_of; (refine r_callG [(1000, 1000)] [] [(1000, Cont.vec I64 3 (stuckM (flowsY y (nth allC)) (y.cells + 1) (loL (flowsY y (nth allC)))).2.2)] (k_settle y (flowsY y (nth allC)) (loL (flowsY y (nth allC))) (rough_of hr)) rfl rfl (cv_cons cv_nil (cv_pp (cv_cons (cv_cons (cv_cons (cv_cons (cv_cons (cv_cons cv_nil (cv_vs (by exact List.mem_cons_self))) (cv_pub rfl rfl)) (cv_pub rfl rfl)) (cv_pub rfl rfl)) (cv_pub rfl rfl)) (cv_pub rfl rfl)))) (pre_cons (a := 1000) (b := 1000) (by exact List.mem_cons_self) rfl (cc_vec (by exact List.mem_cons_self) rfl) pre_nil) (post_cons (a := 1000) (b := 1000) (by decide) rfl (cc_vec (by decide) rfl) post_nil) (cv_pub rfl rfl) ?_); refine r_nil ?_; exact rfl) ?_)
        refine r_pick1 rfl rfl ?_
        cases hsp : (!(stuckM (flowsY y (nth allC)) (y.cells + 1) (loL (flowsY y (nth allC)))).2.1)
        ·
          refine mvB rfl ?_
          (refine r_on rfl rfl rfl (by apply opT_of; (refine r_load_vecN rfl rfl (by decide) rfl rfl (by rw [hcl]; rfl) (fun e => by rw [e] at hcl; cases hcl) ?_); refine r_nil ?_; exact rfl) ?_)
          (refine r_on rfl rfl rfl (by apply opT_of; (refine r_call (c_all) rfl rfl rfl rfl rfl ?_); refine r_nil ?_; exact rfl) ?_)
          (refine r_on rfl rfl rfl (by apply opT_of; (refine r_neqla (eqt180b hcl allC_len (by assumption)) rfl rfl ?_); refine r_nil ?_; exact rfl) ?_)
          (refine r_on rfl rfl rfl (by apply opT_of; (refine mvB rfl ?_); refine r_nil ?_; exact rfl) ?_)
          refine r_off rfl rfl rfl rfl ?_
          refine r_off rfl rfl rfl rfl ?_
          refine r_off rfl rfl rfl rfl ?_
          refine r_off rfl rfl rfl rfl ?_
          (refine r_on rfl rfl rfl (by apply opT_of; (refine r_pick0 rfl ?_); refine r_nil ?_; exact rfl) ?_)
          refine r_pickF rfl rfl ?_
          refine asB rfl ?_
          refine r_nil ?_
          refine ⟨by kernel_rfl, ?_⟩
          refine i_then ?_
          refine t_ret ?_
          refine i_rp1 rfl rfl ?_
          all_goals skip
          all_goals exact ret_eq rfl rfl (congrArg Ty.bool (agr_2 (by assumption) (by assumption)))
        ·
          refine mvB rfl ?_
          refine r_off rfl rfl rfl rfl ?_
          refine r_off rfl rfl rfl rfl ?_
          refine r_off rfl rfl rfl rfl ?_
          refine r_off rfl rfl rfl rfl ?_
          refine r_offU rfl rfl rfl ?_
          refine r_offU rfl rfl rfl ?_
          refine r_offU rfl rfl rfl ?_
          refine r_offU rfl rfl rfl ?_
          refine r_off rfl rfl rfl rfl ?_
          refine r_pickT rfl ?_
          refine asB rfl ?_
          refine r_nil ?_
          refine ⟨by kernel_rfl, ?_⟩
          refine i_then ?_
          refine t_ret ?_
          refine i_rp1 rfl rfl ?_
          all_goals skip
          all_goals exact ret_eq rfl rfl (congrArg Ty.bool (agr_1 (by assumption) (by assumption)))
end Go.Proofs.YtelbollidfdcjaaGreat

namespace Go.Proofs.YtelbollidfdcjaaGreat
open Go Go.T
set_option maxHeartbeats 16000000
def inL (y : Yard) (i : Int) : Bool := decide (i ≥ 0) && decide (i ≤ (y.levels.length : Int) - 1)
def agE (y : Yard) (l : List Int) : Int := if checkY y = 0 then (if (l.all (inL y)) = true then (if l.Nodup then 0 else 5) else 1) else checkY y
noncomputable def agV (y : Yard) (l : List Int) : Bool := if agE y l = 0 then agreeM y (chooseL l false) else false
section
variable {y : Yard} {l : List Int} {i : Nat}
end
attribute [local irreducible] flowsY loL Way.beg Way.fin Way.room waysQ sendM overUp overL over waysL reachM hasM lackM lackB mostL pathM sendS stuckM settleM leastL addW goalG betterM bestM cycM roundM hasUp hasV spanU loA hiA firstK Yard.kept Yard.cells checkY knownE allC toldY amtU openE bndA bndS bndE bndY movE movS hasB hasK whlA whlS whlY hasW fstE fstV wrongW inP holdUp holdsM cmB goB stepH agreeM chooseL chooseUp inL agE agV
attribute [local irreducible] dInt dBool dSl dPp dPtr dAgg dTup dClo dAny dEx dStr dGd dCells dVec dVs dRow dOp nth Tri Into TOps Ctr bodyPost Exit.then Exit.inBlock Code.wp Code.wpIn dWhen dPa dPe dAo dArr dMp dPm dMap dCJ CtrG CtrI OpY keepPost iterPost bodyPostM roundQ
end Go.Proofs.YtelbollidfdcjaaGreat

namespace Go.Proofs.YtelbollidfdcjaaGreat
open Go Go.T
structure IsS (y : Yard) (c : Nat → Bool) (f : Amts → Int) (s : Span) : Prop where
  lo : ∃ a, FitsC y c a ∧ f a = s.lo
  hi : ∃ a, FitsC y c a ∧ f a = s.hi
  all : ∀ a, FitsC y c a → s.lo ≤ f a ∧ f a ≤ s.hi
section
variable {y : Yard} {c : Nat → Bool} {f : Amts → Int} {s s' : Span} {a : Amts} {x : List Int} {b t k : Nat} {has : Nat → Bool}
theorem IsS.one (h : IsS y c f s) (h' : IsS y c f s') : s = s' := by
  obtain ⟨x1, f1, e1⟩ := h.lo
  obtain ⟨x2, f2, e2⟩ := h.hi
  obtain ⟨y1, g1, d1⟩ := h'.lo
  obtain ⟨y2, g2, d2⟩ := h'.hi
  have a1 := h.all y1 g1
  have a2 := h.all y2 g2
  have b1 := h'.all x1 f1
  have b2 := h'.all x2 f2
  cases s; cases s'
  simp only at *
  congr 1 <;> omega
theorem list_extN {α : Type} [Inhabited α] {l k : List α} (h : l.length = k.length) (h2 : ∀ i, i < l.length → nth l i = nth k i) : l = k := by
  refine List.ext_getElem h fun i h1 h3 => ?_
  have := h2 i h1
  unfold nth at this
  rw [List.getD_eq_getElem?_getD, List.getD_eq_getElem?_getD, List.getElem?_eq_getElem h1, List.getElem?_eq_getElem h3] at this
  exact this
theorem told_flow (hr : y.Right) (h : Lens y a) : toldY y (flowA y a) = a := by
  cases a with
  | mk p q =>
    have h1 : (toldY y (flowA y ⟨p, q⟩)).moved = q := flowA_drop
    have h2 : (toldY y (flowA y ⟨p, q⟩)).first = p := by
      have hl := (told_lens (y := y) (c := fun _ => true) (flowA_len h)).first
      refine list_extN (hl.trans h.first.symm) fun i hi => ?_
      rw [hl] at hi
      show nth ((List.range y.bins.length).map fun b => nth (flowA y ⟨p, q⟩) (y.kept b 0)) i = _
      rw [range_nth _ hi, flowA_kept hi (Nat.zero_le _), cont_zero hr]
    cases e : toldY y (flowA y ⟨p, q⟩) with
    | mk u v => rw [e] at h1 h2; subst h1; subst h2; rfl
theorem isS_of (hr : y.Right) (h1 : ∀ x, Feas (flowsY y c) (y.cells + 1) x → hasV (flowsY y c) has x = f (toldY y x)) : IsSpan (flowsY y c) (y.cells + 1) has s ↔ IsS y c f s := by
  constructor
  · rintro ⟨⟨u, hu, eu⟩, ⟨v, hv, ev⟩, hall⟩
    refine ⟨⟨_, told_fits hr hu, by rw [← h1 _ hu, eu]⟩, ⟨_, told_fits hr hv, by rw [← h1 _ hv, ev]⟩, fun a ha => ?_⟩
    have h2 := hall _ (fits_feas hr ha)
    rw [h1 _ (fits_feas hr ha), told_flow hr ha.lens] at h2
    exact h2
  · rintro ⟨⟨u, hu, eu⟩, ⟨v, hv, ev⟩, hall⟩
    refine ⟨⟨_, fits_feas hr hu, by rw [h1 _ (fits_feas hr hu), told_flow hr hu.lens, eu]⟩, ⟨_, fits_feas hr hv, by rw [h1 _ (fits_feas hr hv), told_flow hr hv.lens, ev]⟩, fun x hx => ?_⟩
    rw [h1 _ hx]
    exact hall _ (told_fits hr hx)
theorem span_isS (hr : y.Right) (h1 : ∀ x, Feas (flowsY y c) (y.cells + 1) x → hasV (flowsY y c) has x = f (toldY y x)) (h : ∃ a, FitsC y c a) : IsS y c f (spanU (flowsY y c) (y.cells + 1) has) := by
  obtain ⟨a, ha⟩ := h
  obtain ⟨_, _, hs⟩ := span_of (has := has) (net_yard hr) (Nat.succ_pos _) (bd_yard hr) (fits_feas hr ha)
  rw [hs.eq]
  exact (isS_of hr h1).1 hs
theorem hasV_one {fl : List Flow} (hk : k < fl.length) : hasV fl (fun i => decide ((i : Int) = (k : Int))) x = nth x k := by
  unfold hasV
  rw [sumN_one hk fun i _ hn => if_neg (by rw [decide_eq_true_eq]; omega)]
  exact if_pos (decide_eq_true rfl)
theorem has_bin (hr : y.Right) (hb : b < y.bins.length) (ht : t ≤ y.D) (hx : Feas (flowsY y c) (y.cells + 1) x) : hasV (flowsY y c) (fun i => decide ((i : Int) = ((y.kept b t : Nat) : Int))) x = contY y (toldY y x) b t := by
  rw [hasV_one (by rw [flows_len]; have := kept_lt hb ht; omega), told_cont hr hx.1.1 hx.2 hb t ht]
theorem has_move (hk : k < y.moves.length) : hasV (flowsY y c) (fun i => decide ((i : Int) = ((y.bins.length * (y.D + 1) + k : Nat) : Int))) x = nth (toldY y x).moved k := by
  rw [hasV_one (by rw [flows_len]; omega)]
  exact drop_nth.symm
theorem has_whole (hr : y.Right) (ht : t ≤ y.D) (hx : Feas (flowsY y c) (y.cells + 1) x) : hasV (flowsY y c) (fun i => (List.range y.bins.length).any fun b => decide ((i : Int) = ((y.kept b t : Nat) : Int))) x = sumN (fun b => contY y (toldY y x) b t) y.bins.length := by
  unfold hasV
  rw [flows_len, sumN_append, sumN_block, sumN_zero (n := y.moves.length) fun i _ => ?_, Int.add_zero]
  · refine sumN_congr fun b hb => ?_
    rw [told_cont hr hx.1.1 hx.2 hb t ht]
    have key : ∀ t', t' < y.D + 1 → (((List.range y.bins.length).any fun b' => decide (((b * (y.D + 1) + t' : Nat) : Int) = ((y.kept b' t : Nat) : Int))) = decide (t' = t)) := fun t' ht' => by
      rw [Bool.eq_iff_iff, List.any_eq_true, decide_eq_true_eq]
      constructor
      · rintro ⟨b', _, he⟩
        have he := of_decide_eq_true he
        unfold Yard.kept at he
        exact (cell_inj (D := y.D + 1) ht' (by omega) (Int.ofNat.inj he)).2
      · rintro rfl
        exact ⟨b, List.mem_range.2 hb, decide_eq_true rfl⟩
    rw [sumN_congr (g := fun t' => if decide (t' = t) = true then nth x (b * (y.D + 1) + t') else 0) fun t' ht' => by show (if ((List.range y.bins.length).any fun b' => decide (((b * (y.D + 1) + t' : Nat) : Int) = ((y.kept b' t : Nat) : Int))) = true then _ else _) = _; rw [key t' ht']]
    rw [sumN_one (k := t) (by omega) fun i _ hn => if_neg (by rw [decide_eq_true_eq]; exact hn), if_pos (decide_eq_true rfl)]
    rfl
  · refine if_neg ?_
    rw [List.any_eq_true]
    rintro ⟨b, hb, he⟩
    have he := of_decide_eq_true he
    have := kept_lt (List.mem_range.1 hb) ht
    omega
theorem stuck_fits (hr : y.Right) : (stuckM (flowsY y c) (y.cells + 1) (loL (flowsY y c))).2.1 = false ↔ ∃ a, FitsC y c a := by
  have hi : wrongB (flowsY y c) = true → Inb (flowsY y c) (loL (flowsY y c)) := fun e => inb_lo (wrong_yes e)
  constructor
  · intro h; exact ⟨_, told_fits hr (stuck_yes (net_yard hr) hi h)⟩
  · rintro ⟨a, ha⟩
    cases e : (stuckM (flowsY y c) (y.cells + 1) (loL (flowsY y c))).2.1 with
    | false => rfl
    | true => exact absurd ⟨_, fits_feas hr ha⟩ (stuck_no (net_yard hr) hi e)
end
end Go.Proofs.YtelbollidfdcjaaGreat

namespace Go.Proofs.YtelbollidfdcjaaGreat
open Go Go.T
def visM (h : List Int → Bool) (many : Nat) : Nat → List Int → Nat → List Int → Bool × List Int
  | 0, _, _, o => (false, o)
  | d + 1, l, i, o =>
    if (if (l ++ [(i : Int)]).length = many then (h (l ++ [(i : Int)]), l ++ [(i : Int)]) else visM h many d (l ++ [(i : Int)]) (i + 1) o).1 = true then (if (l ++ [(i : Int)]).length = many then (h (l ++ [(i : Int)]), l ++ [(i : Int)]) else visM h many d (l ++ [(i : Int)]) (i + 1) o)
    else visM h many d l (i + 1) (if (l ++ [(i : Int)]).length = many then (h (l ++ [(i : Int)]), l ++ [(i : Int)]) else visM h many d (l ++ [(i : Int)]) (i + 1) o).2
def goM (h : List Int → Bool) (many lim : Nat) (l : List Int) (i : Nat) (o : List Int) : Bool × List Int := if l.length = many then (h l, l) else visM h many (lim - i) l i o
def canV (many : Nat) : Nat → List Int → Nat → List (List Int)
  | 0, _, _ => []
  | d + 1, l, i => (if (l ++ [(i : Int)]).length = many then [l ++ [(i : Int)]] else canV many d (l ++ [(i : Int)]) (i + 1)) ++ canV many d l (i + 1)
def canM (many lim : Nat) : List (List Int) := if many = 0 then [[]] else canV many lim [] 0
def shortM (h : List Int → Bool) (lim : Nat) : Option (List Int) := ((List.range (lim + 1)).flatMap fun k => canM k lim).find? h
section
variable {h : List Int → Bool} {many lim d i k : Nat} {l o : List Int}
theorem vis_step (hi : i < lim) : visM h many (lim - i) l i o = if (goM h many lim (l ++ [(i : Int)]) (i + 1) o).1 = true then goM h many lim (l ++ [(i : Int)]) (i + 1) o else visM h many (lim - (i + 1)) l (i + 1) (goM h many lim (l ++ [(i : Int)]) (i + 1) o).2 := by
  rw [show lim - i = (lim - (i + 1)) + 1 by omega]; rfl
theorem vis_end (hi : ¬ i < lim) : visM h many (lim - i) l i o = (false, o) := by rw [show lim - i = 0 by omega]; rfl
theorem go_eq (e : l.length = many) : goM h many lim l i o = (h l, l) := if_pos e
theorem go_ne (e : ¬ l.length = many) : goM h many lim l i o = visM h many (lim - i) l i o := if_neg e
theorem vis_any : ∀ (d : Nat) (l : List Int) (i : Nat) (o : List Int), (visM h many d l i o).1 = (canV many d l i).any h ∧ ((visM h many d l i o).1 = true → (canV many d l i).find? h = some (visM h many d l i o).2)
  | 0, _, _, _ => ⟨rfl, fun e => by cases e⟩
  | d + 1, l, i, o => by
    have key : ∀ o, (if (l ++ [(i : Int)]).length = many then (h (l ++ [(i : Int)]), l ++ [(i : Int)]) else visM h many d (l ++ [(i : Int)]) (i + 1) o).1 = (if (l ++ [(i : Int)]).length = many then [l ++ [(i : Int)]] else canV many d (l ++ [(i : Int)]) (i + 1)).any h ∧ ((if (l ++ [(i : Int)]).length = many then (h (l ++ [(i : Int)]), l ++ [(i : Int)]) else visM h many d (l ++ [(i : Int)]) (i + 1) o).1 = true → (if (l ++ [(i : Int)]).length = many then [l ++ [(i : Int)]] else canV many d (l ++ [(i : Int)]) (i + 1)).find? h = some (if (l ++ [(i : Int)]).length = many then (h (l ++ [(i : Int)]), l ++ [(i : Int)]) else visM h many d (l ++ [(i : Int)]) (i + 1) o).2) := by
      intro o
      by_cases e : (l ++ [(i : Int)]).length = many
      · rw [if_pos e, if_pos e]
        refine ⟨by simp, fun h1 => ?_⟩
        have h1 : h (l ++ [(i : Int)]) = true := h1
        rw [List.find?_cons, h1]
      · rw [if_neg e, if_neg e]
        exact vis_any d _ _ o
    unfold visM canV
    generalize (if (l ++ [(i : Int)]).length = many then [l ++ [(i : Int)]] else canV many d (l ++ [(i : Int)]) (i + 1)) = C at key ⊢
    obtain ⟨k1, k2⟩ := key o
    generalize (if (l ++ [(i : Int)]).length = many then (h (l ++ [(i : Int)]), l ++ [(i : Int)]) else visM h many d (l ++ [(i : Int)]) (i + 1) o) = r at k1 k2 ⊢
    rw [List.any_append, List.find?_append]
    cases e : r.1 with
    | true =>
      rw [if_pos rfl]
      refine ⟨by rw [e, ← k1, e]; rfl, fun _ => by rw [k2 e]; rfl⟩
    | false =>
      rw [if_neg (by decide)]
      obtain ⟨j1, j2⟩ := vis_any d l (i + 1) r.2
      have hn : C.find? h = none := by
        rw [List.find?_eq_none]
        intro x hx h1
        have : C.any h = true := List.any_eq_true.2 ⟨x, hx, h1⟩
        rw [← k1, e] at this; cases this
      refine ⟨by rw [j1, ← k1, e, Bool.false_or], fun h1 => by rw [hn, j2 h1]; rfl⟩
theorem go_any : (goM h many lim [] 0 o).1 = (canM many lim).any h ∧ ((goM h many lim [] 0 o).1 = true → (canM many lim).find? h = some (goM h many lim [] 0 o).2) := by
  unfold goM canM
  by_cases e : many = 0
  · rw [if_pos (show ([] : List Int).length = many from e.symm), if_pos e]
    refine ⟨by simp, fun h1 => ?_⟩
    have h1 : h [] = true := h1
    rw [List.find?_cons, h1]
  · rw [if_neg (show ¬ ([] : List Int).length = many from fun h => e h.symm), if_neg e, Nat.sub_zero]
    exact vis_any _ _ _ _
theorem find_none {C : List (List Int)} (h1 : C.any h = false) : C.find? h = none := by
  rw [List.find?_eq_none]
  intro x hx h2
  have : C.any h = true := List.any_eq_true.2 ⟨x, hx, h2⟩
  rw [h1] at this; cases this
def NoneS (h : List Int → Bool) (lim k : Nat) : Prop := ((List.range k).flatMap fun k => canM k lim).find? h = none
theorem none_zero : NoneS h lim 0 := rfl
theorem none_succ (h0 : NoneS h lim k) (h1 : (goM h k lim [] 0 []).1 = false) : NoneS h lim (k + 1) := by
  unfold NoneS at h0 ⊢
  rw [List.range_succ, List.flatMap_append, List.find?_append, h0, List.flatMap_singleton, find_none (by rw [← (go_any (o := [])).1, h1])]; rfl
theorem short_none (h0 : NoneS h lim k) (hk : k = lim + 1) : shortM h lim = none := by subst hk; exact h0
theorem range_split {k n : Nat} (hk : k < n) : ∃ r, List.range n = List.range k ++ k :: r := by
  refine ⟨(List.range (n - k - 1)).map (fun x => k + 1 + x), ?_⟩
  rw [show List.range n = List.range (k + (1 + (n - k - 1))) by congr 1; omega, List.range_add, List.range_add, List.map_append]
  rw [List.map_map]
  congr 1
  show [k + 0] ++ _ = _
  rw [List.singleton_append, Nat.add_zero]
  congr 1
  refine List.map_congr_left fun x _ => ?_
  show k + (1 + x) = _; omega
theorem short_some (h0 : NoneS h lim k) (hk : k ≤ lim) (h1 : (goM h k lim [] 0 []).1 = true) : shortM h lim = some (goM h k lim [] 0 []).2 := by
  unfold NoneS at h0
  unfold shortM
  obtain ⟨r, hr⟩ := range_split (show k < lim + 1 by omega)
  rw [hr, List.flatMap_append, List.find?_append, h0, List.flatMap_cons, List.find?_append, go_any.2 h1]; rfl
end
end Go.Proofs.YtelbollidfdcjaaGreat
