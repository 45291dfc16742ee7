/- Lemmas: the program and the reference walked, plain laws. -/
import Derived.Test.YtpnndljmhpepgaaXd
namespace Go.Proofs.Ytpnndljmhpepgaa
open Go Go.T
set_option maxHeartbeats 16000000
theorem roundsV_1 {b : Barn} {g : Int} (h : ¬ askE b g = 0) : roundsV b g = [] := if_neg h
theorem roundsE_1 {b : Barn} {g : Int} (h : ¬ askE b g = 0) : roundsE b g = askE b g := if_neg h
theorem roundsV_2 {b : Barn} {g : Int} {f : Found} (h : askE b g = 0) (e : roundsM b g = f) (hf : f.is = true) : chainM f.ways (firstP b) f.last = roundsV b g := by unfold roundsV; rw [if_pos h, e, if_pos hf]
theorem roundsE_2 {b : Barn} {g : Int} {f : Found} (h : askE b g = 0) (e : roundsM b g = f) (hf : f.is = true) : roundsE b g = 0 := by unfold roundsE; rw [if_pos h, e, if_pos hf]
theorem roundsV_3 {b : Barn} {g : Int} {f : Found} (h : askE b g = 0) (e : roundsM b g = f) (hf : f.is = false) : roundsV b g = [] := by unfold roundsV; rw [if_pos h, e, if_neg (by rw [hf]; decide)]
theorem roundsE_3 {b : Barn} {g : Int} {f : Found} (h : askE b g = 0) (e : roundsM b g = f) (hf : f.is = false) : roundsE b g = 7 := by unfold roundsE; rw [if_pos h, e, if_neg (by rw [hf]; decide)]
theorem chain_found {b : Barn} {g : Int} {f : Found} (hr : b.Right) (hg : 0 ≤ g) (e : roundsM b g = f) (hf : f.is = true) : Chain f.ways (firstP b) f.last (chainM f.ways (firstP b) f.last) ∧ (chainM f.ways (firstP b) f.last).length ≤ 40000000 := by
  obtain ⟨h, _⟩ := rounds_spec (g := g) hr hg
  rw [e] at h
  obtain ⟨L, h1, _, _, h2, _⟩ := h.yes hf
  rw [chainM_spec h1]; exact ⟨h1, h2⟩
theorem queue_yes {n : Nat} (h : (decide ((n : Int) > 0) && !false) = true) : 0 < n := by
  simp only [Bool.and_eq_true, decide_eq_true_eq] at h; omega
theorem queue_no {n : Nat} (h : (decide ((n : Int) > 0) && !false) = false) : n = 0 := by
  simp only [Bool.not_false, Bool.and_true, decide_eq_false_iff_not] at h; omega
theorem not_b' {b : Bool} (h : (!b) = false) : b = true := by cases b <;> first | rfl | cases h
theorem not_a' {b : Bool} (h : (!b) = true) : b = false := by cases b <;> first | rfl | cases h
attribute [local irreducible] dInt dBool dSl dPp dPtr dAgg dTup dClo dAny dEx dStr dGd dCells dVec dVs dRow dOp nth Tri Into TOps Ctr bodyPost Exit.then Exit.inBlock Code.wp Code.wpIn dWhen dPa dPe dAo dArr dMp dPm dMap dCJ CtrG CtrI OpY keepPost iterPost bodyPostM roundQ
set_option maxRecDepth 100000 in
theorem c_asked (b : Barn) (hs : b.Small) (g : Int) : Ctr Try.prog 110 [barnT b, Ty.int .i64 g] (Ty.tup [Ty.when (decide (askE b g = 0)) (Ty.pe DeskE ⟨b, firstP b⟩ 0), Ty.int .i64 (askE b g)]) := by
  refine fn_intro Try.func110 rfl (by decide) Try.ntmps110 (by exact Nat.le_of_ble_eq_true rfl) fun w0 M0 => ?_
  refine t_seq ?_
  refine t_region ?_
  refine r_box_agg rfl ?_
  refine asX rfl ?_
  refine asI rfl ?_
  refine r_nil ?_
  refine i_then ?_
  refine t_seq ?_
  refine t_region ?_
  refine r_load_ppN rfl rfl rfl (by exact Nat.le_of_ble_eq_true rfl) ?_
  refine r_call (c_open b hs) rfl rfl rfl rfl rfl ?_
  refine mvT rfl ?_
  refine r_extract rfl rfl ?_
  refine r_extract rfl rfl ?_
  refine asW rfl ?_
  refine asI rfl ?_
  refine r_nil ?_
  refine i_then ?_
  refine t_seq ?_
  refine t_seq ?_
  refine t_region ?_
  refine mvI rfl ?_
  refine r_bin rfl rfl rfl ?_
  refine mvB rfl ?_
  apply r_guard (s := 15) rfl rfl rfl
  · intro hg; apply opT_of; (refine mvI rfl ?_); refine r_nil ?_; exact rfl
  · exact rfl
  · exact rfl
  apply r_guard (s := 15) rfl rfl rfl
  · intro hg; apply opT_strip (s := 16) rfl (by (rw [hg]; rfl)); apply opT_of; (refine r_call (c_in _ _ _) rfl rfl rfl rfl rfl ?_); refine r_nil ?_; exact rfl
  · exact rfl
  · exact rfl
  apply r_guard (s := 15) rfl rfl rfl
  · intro hg; apply opT_strip (s := 17) rfl (by (rw [hg]; rfl)); apply opT_of; (refine r_not rfl ?_); refine r_nil ?_; exact rfl
  · exact rfl
  · exact rfl
  refine r_and rfl rfl ?_
  refine r_nil ?_
  refine i_then ?_
  refine t_cond rfl (fun hc1 => ?_) (fun hc1 => ?_)
  ·
    refine t_seq ?_
    refine t_region ?_
    refine asX rfl ?_
    refine asI rfl ?_
    refine r_nil ?_
    refine i_then ?_
    refine t_ret ?_
    refine i_then_ret ?_
    refine i_rp2 rfl rfl rfl ?_ ?_
    all_goals skip
    all_goals first | exact ret_sub rfl rfl (Ty.sub_when rfl fun h => absurd (of_decide_eq_true h) (by rw [ask_3 hc1]; decide)) | exact ret_eq rfl rfl (congrArg (Ty.int .i64) (ask_3 hc1).symm)
  ·
    refine t_skip ?_
    refine i_then ?_
    refine t_seq ?_
    refine t_region ?_
    refine mvW rfl ?_
    refine mvI rfl ?_
    refine asW rfl ?_
    refine asI rfl ?_
    refine r_nil ?_
    refine i_then ?_
    refine t_ret ?_
    refine i_rp2 rfl rfl rfl ?_ ?_
    all_goals skip
    all_goals first | exact ret_sub rfl rfl (Ty.sub_when rfl fun h => Ty.when_sub (by rw [← ask_ok hc1]; exact h)) | exact ret_eq rfl rfl (congrArg (Ty.int .i64) (ask_ok hc1).symm)
set_option maxRecDepth 100000 in
theorem c_Rounds (b : Barn) (hs : b.Small) (g : Int) : Ctr Try.prog 57 [barnT b, Ty.int .i64 g] (Ty.tup [Ty.sl RowT (roundsV b g), Ty.int .i64 (roundsE b g)]) := by
  refine fnM_intro Try.func57 rfl (by decide) Try.ntmps57 (by exact Nat.le_of_ble_eq_true rfl) fun w0 M0 => ?_
  refine t_seq ?_
  refine t_region ?_
  refine r_box_agg rfl ?_
  refine asX rfl ?_
  refine asI rfl ?_
  refine r_nil ?_
  refine i_then ?_
  refine t_seq ?_
  refine t_region ?_
  refine r_load_ppN rfl rfl rfl (by exact Nat.le_of_ble_eq_true rfl) ?_
  refine mvI rfl ?_
  refine r_call (c_asked b hs g) rfl rfl rfl rfl rfl ?_
  refine mvT rfl ?_
  refine r_extract rfl rfl ?_
  refine r_extract rfl rfl ?_
  refine asW rfl ?_
  refine asI rfl ?_
  refine r_nil ?_
  refine i_then ?_
  refine t_seq ?_
  refine t_seq ?_
  refine t_region ?_
  refine mvI rfl ?_
  refine r_bin rfl rfl rfl ?_
  refine r_nil ?_
  refine i_then ?_
  refine t_cond_ndec rfl (fun hc1 => ?_) (fun hc1 => ?_)
  ·
    refine t_seq ?_
    refine t_region ?_
    refine mvI rfl ?_
    refine asX rfl ?_
    refine asI rfl ?_
    refine r_nil ?_
    refine i_then ?_
    refine t_ret ?_
    refine i_then_ret ?_
    refine m_ret rfl ?_
    refine i_rp2 rfl rfl rfl ?_ ?_
    all_goals skip
    all_goals first | exact ret_nil_eq (roundsV_1 hc1) | exact ret_eq rfl rfl (congrArg (Ty.int .i64) (roundsE_1 hc1).symm)
  ·
    refine t_skip ?_
    refine i_then ?_
    refine t_seq ?_
    have hask := ask_zero hc1
    have hr := check_right hask.1
    have h6 := hr.lots
    have hg : 0 ≤ g := by omega
    have hN := placesN_eq
    refine t_as (s := 6) rfl (Ty.when_sub (decide_eq_true hc1)) ?_
    refine t_region ?_
    refine r_makeMap (encN 6) WayV mapT121 rfl ?_
    refine mvPe rfl ?_
    refine r_nilCheck_pe rfl ?_
    refine r_field_pe rfl rfl rfl rfl rfl (by decide) ?_
    refine r_load_peN rfl rfl rfl rfl rfl ?_
    refine r_build rfl rfl (by exact List.cons_ne_nil _ _) rfl (by repeat (exact (Parts.nil : Parts _ _ [] _))) (by exact rfl) ?_
    refine r_insert (r_mapUpdateS plKey (k := firstP b) (v := way0) rfl rfl (by decide) rfl (key_pl (firstP b)) rfl way0_sub mapT121 ?_)
    refine mvM rfl ?_
    refine r_build rfl rfl (by exact List.cons_ne_nil _ _) rfl (by repeat (first | exact (Parts.nil : Parts _ _ [] _) | (show Parts _ _ ((_, _) :: _) _; apply Parts.one; (· exact (rfl : _ = Ty.mp _)); (· exact rfl)))) (by exact rfl) ?_
    refine r_alloc rfl (by exact List.cons_ne_nil _ _) rfl ?_
    refine r_storeN rfl rfl (by decide) rfl rfl rfl rfl rfl rfl ?_
    refine r_nil ?_
    refine i_then ?_
    refine t_seq ?_
    refine t_forget (B := live [(1, Ty.int .i64 g), (6, Ty.pe DeskE ⟨b, firstP b⟩ 0), (8, Ty.ptr 9 0)] [(9, Cont.cells 125 [Ty.mp 27, Ty.int .i64 0, Ty.int .i64 0, Ty.int .i64 0, Ty.int .i64 0, Ty.int .i64 0, Ty.int .i64 0, Ty.bool false]), (27, Cont.mp (encN 6) WayV (rst0 b).ways)]) ?_ ?_
    · (refine Ent.mk' ?_ ?_ <;> (repeat' (first | exact allSub_zero | exact allTags_nil | refine allSub_succ' ?_ (Ty.sub_any _) | refine allSub_succ' ?_ (Ty.sub_refl _) | refine allTags_cons rfl (Cont.sub_refl _) ?_)))
    refine t_region ?_
    refine mvPe rfl ?_
    refine r_nilCheck_pe rfl ?_
    refine r_field_pe rfl rfl rfl rfl rfl (by decide) ?_
    refine r_load_peN rfl rfl rfl rfl rfl ?_
    refine r_buildRowN (E := PlE) (xs := [firstP b]) rfl rfl rfl rfl rfl (by decide) (by decide) (by repeat (first | exact (Parts.nil : Parts _ _ [] _) | (show Parts _ _ ((_, _) :: _) _; apply Parts.agg; (· exact (rfl : _ = Ty.agg _))))) (by exact rfl) rfl rfl ?_
    refine r_alloc rfl (by exact List.cons_ne_nil _ _) rfl ?_
    refine r_store1 rfl rfl (by decide) rfl rfl (by exact (rfl : _ = Ty.row _ _ _ _)) rfl (by exact Nat.le_of_ble_eq_true rfl) rfl rfl (by exact (rfl : _ = [_])) ?_
    refine r_nil ?_
    refine i_then ?_
    refine t_seq ?_
    refine t_toO (J := 4100) (tg := 39) (c0 := 10) rfl (by decide) rfl (by decide) rfl ?_
    refine t_block ?_
    refine t_loop (fun (x : {x : RSt // RIxs b g x ∧ x.queue.length ≤ x.ways.length + 1}) => live [(1, Ty.int .i64 g), (6, Ty.pe DeskE ⟨b, firstP b⟩ 0), (8, Ty.ptr 9 0), (9, Ty.ptr 10 0)] [(9, Cont.cells 125 [Ty.mp 27, Ty.int .i64 0, Ty.int .i64 0, Ty.int .i64 0, Ty.int .i64 0, Ty.int .i64 0, Ty.int .i64 0, Ty.bool false]), (10, Cont.cells 148 [Ty.rowO PlE 123 4100 x.1.queue]), (27, Cont.mp (encN 6) WayV x.1.ways)]) (fun x => muR x.1) (⟨rst0 b, rixs0 hr, by simp [rst0]⟩) ?_ fun x => ?_
    · (refine Ent.mk' ?_ ?_ <;> (repeat' (first | exact allSub_zero | exact allTags_nil | refine allSub_succ' ?_ (Ty.sub_any _) | refine allSub_succ' ?_ (Ty.sub_refl _) | refine allTags_cons rfl (Cont.sub_refl _) ?_)))
    ·
      refine t_seq ?_
      refine t_seq ?_
      refine t_region ?_
      refine r_load_ptr rfl rfl (by decide) rfl rfl rfl ?_
      refine r_lenO rfl rfl rfl ?_
      refine r_bin rfl rfl rfl ?_
      refine mvB rfl ?_
      apply r_guard (s := 42) rfl rfl rfl
      · intro hg; apply opT_of; (refine r_field_ptr rfl rfl rfl rfl rfl (by decide) ?_); refine r_nil ?_; exact rfl
      · exact rfl
      · exact rfl
      apply r_guard (s := 42) rfl rfl rfl
      · intro hg; apply opT_strip (s := 43) rfl (by (rw [hg]; rfl)); apply opT_of; (refine r_load_ptr rfl rfl (by decide) rfl rfl rfl ?_); refine r_nil ?_; exact rfl
      · exact rfl
      · exact rfl
      apply r_guard (s := 42) rfl rfl rfl
      · intro hg; apply opT_strip (s := 44) rfl (by (rw [hg]; rfl)); apply opT_of; (refine r_not rfl ?_); refine r_nil ?_; exact rfl
      · exact rfl
      · exact rfl
      refine r_and rfl rfl ?_
      refine r_nil ?_
      refine i_then ?_
      refine t_cond rfl (fun hc2 => ?_) (fun hc2 => ?_)
      ·
        refine t_skip ?_
        refine i_then ?_
        refine t_block ?_
        refine t_seq ?_
        have hlen : 0 < x.1.queue.length := queue_yes hc2
        refine t_region ?_
        refine r_load_ptr rfl rfl (by decide) rfl rfl rfl ?_
        refine r_indexO (i := 0) rfl rfl rfl rfl rfl rfl hlen ?_
        refine r_load_opN rfl rfl rfl (by exact Nat.le_of_ble_eq_true rfl) ?_
        refine r_alloc rfl (by exact List.cons_ne_nil _ _) rfl ?_
        refine r_storeN rfl rfl (by decide) rfl rfl rfl rfl rfl rfl ?_
        refine r_nil ?_
        refine i_then ?_
        refine t_seq ?_
        refine t_region ?_
        refine r_load_ptr rfl rfl (by decide) rfl rfl rfl ?_
        refine r_cutO (lo := 1) rfl rfl rfl rfl rfl rfl hlen hlen ?_
        refine r_store1 (ty := Ty.rowO PlE 123 4100 (x.1.queue.drop 1)) rfl rfl (by decide) rfl rfl rfl rfl (by exact Nat.le_of_ble_eq_true rfl) rfl rfl (by exact (rfl : _ = [_])) ?_
        refine r_nil ?_
        refine i_then ?_
        refine t_seq ?_
        refine t_seq ?_
        refine t_forget (B := live [(1, Ty.int .i64 g), (6, Ty.pe DeskE ⟨b, firstP b⟩ 0), (8, Ty.ptr 9 0), (9, Ty.ptr 10 0), (10, Ty.ptr 11 0)] [(9, Cont.cells 125 [Ty.mp 27, Ty.int .i64 0, Ty.int .i64 0, Ty.int .i64 0, Ty.int .i64 0, Ty.int .i64 0, Ty.int .i64 0, Ty.bool false]), (10, Cont.cells 148 [Ty.rowO PlE 123 4100 (restR x.1).queue]), (11, Cont.cells 123 (plT (headR x.1))), (27, Cont.mp (encN 6) WayV x.1.ways)]) ?_ ?_
        · (refine Ent.mk' ?_ ?_ <;> (repeat' (first | exact allSub_zero | exact allTags_nil | refine allSub_succ' ?_ (Ty.sub_any _) | refine allSub_succ' ?_ (Ty.sub_refl _) | refine allTags_cons rfl (Cont.sub_refl _) ?_)))
        refine t_region ?_
        refine mvPe rfl ?_
        refine r_load_ptrN rfl rfl (by decide) rfl rfl (by exact Nat.le_of_ble_eq_true rfl) ?_
        refine r_call (c_made ⟨b, firstP b⟩ h6 (headR x.1)) rfl rfl rfl rfl rfl ?_
        refine r_nil ?_
        refine i_then ?_
        refine t_cond rfl (fun hc3 => ?_) (fun hc3 => ?_)
        ·
          refine t_seq ?_
          refine t_region ?_
          refine r_load_ptrN rfl rfl (by decide) rfl rfl (by exact Nat.le_of_ble_eq_true rfl) ?_
          refine r_field_ptr rfl rfl rfl rfl rfl (by decide) ?_
          refine r_storeO rfl rfl (by decide) rfl rfl rfl (by exact Nat.le_of_ble_eq_true rfl) rfl rfl rfl rfl ?_
          refine r_field_ptr rfl rfl rfl rfl rfl (by decide) ?_
          refine r_store1 rfl rfl (by decide) rfl rfl (by exact (rfl : _ = Ty.bool _)) rfl (by exact Nat.le_of_ble_eq_true rfl) rfl rfl (by exact rfl) ?_
          refine r_nil ?_
          refine i_then ?_
          refine t_exit ?_
          refine i_then_exit ?_
          refine i_block_exit' rfl ?_
          refine i_then_exit ?_
          refine i_block_exit rfl ?_
          refine i_then ?_
          refine t_seq ?_
          refine t_seq ?_
          refine t_region ?_
          refine r_field_ptr rfl rfl rfl rfl rfl (by decide) ?_
          refine r_load_ptr rfl rfl (by decide) rfl rfl rfl ?_
          refine r_not rfl ?_
          refine r_nil ?_
          refine i_then ?_
          refine t_cond_ff rfl (rfl) ?_
          refine t_skip ?_
          refine i_then ?_
          refine t_seq ?_
          have hfm : roundsM b g = ⟨x.1.ways, headR x.1, true⟩ := x.2.1.same.stop (stepR_found (rowR hlen) hc3)
          have hch := chain_found hr hg hfm rfl
          refine t_pubC (tg := 27) [] [(9, Cont.cells 125 [Ty.pm (encN 6) WayV x.1.ways, Ty.int .i64 (nth (headR x.1).1 0), Ty.int .i64 (nth (headR x.1).1 1), Ty.int .i64 (nth (headR x.1).1 2), Ty.int .i64 (nth (headR x.1).1 3), Ty.int .i64 (nth (headR x.1).1 4), Ty.int .i64 (nth (headR x.1).1 5), Ty.bool true])] (by decide) rfl trivial ⟨pubC_cells rfl rfl ⟨pubTy_mp rfl (by decide), pubTy_same rfl, pubTy_same rfl, pubTy_same rfl, pubTy_same rfl, pubTy_same rfl, pubTy_same rfl, pubTy_same rfl, trivial⟩, trivial⟩ ?_
          refine t_forget (B := live [(6, Ty.pe DeskE ⟨b, firstP b⟩ 0), (8, Ty.ptr 9 0)] [(9, Cont.cells 125 (foundTys ⟨x.1.ways, headR x.1, true⟩))]) ?_ ?_
          · (refine Ent.mk' ?_ ?_ <;> (repeat' (first | exact allSub_zero | exact allTags_nil | refine allSub_succ' ?_ (Ty.sub_any _) | refine allSub_succ' ?_ (Ty.sub_refl _) | refine allTags_cons rfl (Cont.sub_refl _) ?_)))
          refine t_draw mixed rfl ?_
          refine r_load_ptrN rfl rfl (by decide) rfl rfl (by exact Nat.le_of_ble_eq_true rfl) ?_
          refine mvPe rfl ?_
          refine r_nilCheck_pe rfl ?_
          refine r_field_pe rfl rfl rfl rfl rfl (by decide) ?_
          refine r_load_peN rfl rfl rfl rfl rfl ?_
          refine r_call (c_plan ⟨x.1.ways, headR x.1, true⟩ (firstP b) _ hch.1 hch.2) rfl rfl rfl rfl rfl ?_
          refine asS rfl ?_
          refine asI rfl ?_
          refine r_nil ?_
          refine ⟨by kernel_rfl, ?_⟩
          refine i_then ?_
          refine t_ret ?_
          refine m_ret rfl ?_
          refine i_rp2 rfl rfl rfl ?_ ?_
          all_goals skip
          all_goals first | exact ret_eq rfl rfl (congrArg (Ty.sl RowT) (roundsV_2 hc1 hfm rfl)) | exact ret_eq rfl rfl (congrArg (Ty.int .i64) (roundsE_2 hc1 hfm rfl).symm)
        ·
          refine t_skip ?_
          refine i_then ?_
          refine t_seq ?_
          refine t_region ?_
          refine mvPe rfl ?_
          refine r_load_ptrN rfl rfl (by decide) rfl rfl (by exact Nat.le_of_ble_eq_true rfl) ?_
          refine mvI rfl ?_
          refine r_call (c_rounds ⟨b, firstP b⟩ (headR x.1) g) rfl rfl rfl rfl rfl ?_
          refine r_nil ?_
          refine i_then ?_
          refine t_block ?_
          refine t_rangeFunc (ps := [62]) (lk [(1, Ty.int .i64 g), (6, Ty.pe DeskE ⟨b, firstP b⟩ 0), (8, Ty.ptr 9 0), (9, Ty.ptr 10 0), (10, Ty.ptr 11 0)]) (fun k => [(9, Cont.cells 125 [Ty.mp 27, Ty.int .i64 0, Ty.int .i64 0, Ty.int .i64 0, Ty.int .i64 0, Ty.int .i64 0, Ty.int .i64 0, Ty.bool false]), (10, Cont.cells 148 [Ty.rowO PlE 123 4100 (foldR b g (headR x.1) (restR x.1) k).queue]), (11, Cont.cells 123 (plT (headR x.1))), (27, Cont.mp (encN 6) WayV (foldR b g (headR x.1) (restR x.1) k).ways)]) false [] [9, 10, 11, 27] rfl rfl (c_rounds1 ⟨b, firstP b⟩ (small_right hr) h6 g (headR x.1)) rfl rfl (by decide) (by intro t ht; obtain ⟨x, _, rfl⟩ := List.mem_map.1 ht; exact ⟨rfl, rfl, rfl⟩) rfl rfl (fun _ => rfl) rfl ?_ ?_ ?_ (by intro h; cases h)
          · (refine Ent.mk' ?_ ?_ <;> (repeat' (first | exact allSub_zero | exact allTags_nil | refine allSub_succ' ?_ (Ty.sub_any _) | refine allSub_succ' ?_ (Ty.sub_refl _) | refine allTags_cons rfl (Cont.sub_refl _) ?_)))
          · intro k tys hk
            obtain ⟨hk1, rfl⟩ := enc_get hk
            have hk1 : k < (allR b (headR x.1) g).length := hk1
            have hok := (mem_allR hg).1 (nth_mem (xs := allR b (headR x.1) g) hk1)
            have hlg := hok.len
            have hfw := foldR_few x.2.1 hr hg hlen hc3 (Nat.le_of_lt hk1)
            have hql := foldR_qlen (x := restR x.1) (b := b) (g := g) (by have := x.2.2; show (x.1.queue.drop 1).length ≤ x.1.ways.length + 1; rw [List.length_drop]; omega) (headR x.1) k
            refine ⟨live [(1, Ty.int .i64 g), (6, Ty.pe DeskE ⟨b, firstP b⟩ 0), (8, Ty.ptr 9 0), (9, Ty.ptr 10 0), (10, Ty.ptr 11 0), (11, Ty.sl TurE (nth (allR b (headR x.1) g) k))] [(9, Cont.cells 125 [Ty.mp 27, Ty.int .i64 0, Ty.int .i64 0, Ty.int .i64 0, Ty.int .i64 0, Ty.int .i64 0, Ty.int .i64 0, Ty.bool false]), (10, Cont.cells 148 [Ty.rowO PlE 123 4100 (foldR b g (headR x.1) (restR x.1) k).queue]), (11, Cont.cells 123 (plT (headR x.1))), (27, Cont.mp (encN 6) WayV (foldR b g (headR x.1) (restR x.1) k).ways)], fun l w M => ?_, fun l w M => ?_⟩
            ·
              refine t_region ?_
              refine asS rfl ?_
              refine r_nil ?_
              refine i_join ?_
              (refine Ent.mk' ?_ ?_ <;> (repeat' (first | exact allSub_zero | exact allTags_nil | refine allSub_succ' ?_ (Ty.sub_any _) | refine allSub_succ' ?_ (Ty.sub_refl _) | refine allTags_cons rfl (Cont.sub_refl _) ?_)))
            ·
              refine t_block ?_
              refine t_seq ?_
              refine t_region ?_
              refine r_load_ptrN rfl rfl (by decide) rfl rfl (by exact Nat.le_of_ble_eq_true rfl) ?_
              refine r_alloc rfl (by exact List.cons_ne_nil _ _) rfl ?_
              refine r_storeN rfl rfl (by decide) rfl rfl rfl rfl rfl rfl ?_
              refine r_nil ?_
              refine i_then ?_
              refine t_seq ?_
              refine t_seq ?_
              refine t_region ?_
              refine mvS rfl ?_
              refine r_len rfl rfl rfl ?_
              refine mvI rfl ?_
              refine r_nil ?_
              refine i_then ?_
              refine t_block ?_
              refine t_loop (fun (j : {j : Nat // j ≤ (nth (allR b (headR x.1) g) k).length}) => live [(1, Ty.int .i64 g), (6, Ty.pe DeskE ⟨b, firstP b⟩ 0), (8, Ty.ptr 9 0), (9, Ty.ptr 10 0), (10, Ty.ptr 11 0), (11, Ty.sl TurE (nth (allR b (headR x.1) g) k)), (12, Ty.ptr 13 0), (64, Ty.sl TurE (nth (allR b (headR x.1) g) k)), (65, Ty.int .i64 (nth (allR b (headR x.1) g) k).length), (66, Ty.int .i64 (j.1 : Nat))] [(9, Cont.cells 125 [Ty.mp 27, Ty.int .i64 0, Ty.int .i64 0, Ty.int .i64 0, Ty.int .i64 0, Ty.int .i64 0, Ty.int .i64 0, Ty.bool false]), (10, Cont.cells 148 [Ty.rowO PlE 123 4100 (foldR b g (headR x.1) (restR x.1) k).queue]), (11, Cont.cells 123 (plT (headR x.1))), (13, Cont.cells 123 (plT (movedAll (headR x.1) ((nth (allR b (headR x.1) g) k).take j.1)))), (27, Cont.mp (encN 6) WayV (foldR b g (headR x.1) (restR x.1) k).ways)]) (fun j => (nth (allR b (headR x.1) g) k).length - j.1) (⟨0, by omega⟩) ?_ fun j => ?_
              · (refine Ent.mk' ?_ ?_ <;> (repeat' (first | exact allSub_zero | exact allTags_nil | refine allSub_succ' ?_ (Ty.sub_any _) | refine allSub_succ' ?_ (Ty.sub_refl _) | refine allTags_cons rfl (Cont.sub_refl _) ?_)))
              ·
                refine t_seq ?_
                refine t_region ?_
                refine r_bin rfl rfl rfl ?_
                refine r_nil ?_
                refine i_then ?_
                refine t_seq ?_
                refine t_cond_dec rfl (fun hc5 => ?_) (fun hc5 => ?_)
                ·
                  refine t_skip ?_
                  refine i_then ?_
                  refine t_seq ?_
                  refine t_block ?_
                  refine t_seq ?_
                  refine t_region ?_
                  refine r_index_slN rfl rfl rfl rfl rfl rfl (by omega) ?_
                  refine r_load_ppN rfl rfl rfl (by exact Nat.le_of_ble_eq_true rfl) ?_
                  refine r_alloc rfl (by exact List.cons_ne_nil _ _) rfl ?_
                  refine r_storeN rfl rfl (by decide) rfl rfl rfl rfl rfl rfl ?_
                  refine r_nil ?_
                  refine i_then ?_
                  have htk := hok.ok _ (nth_mem (xs := nth (allR b (headR x.1) g) k) (k := j.1) (by omega))
                  have htm := take_moved (p := headR x.1) (l := nth (allR b (headR x.1) g) k) (j := j.1) (by omega)
                  have htl : (0 : Int) ≤ (nth (nth (allR b (headR x.1) g) k) j.1).lot ∧ (nth (nth (allR b (headR x.1) g) k) j.1).lot < b.lots.length := htk.1
                  refine t_region ?_
                  refine r_field_ptr rfl rfl rfl rfl rfl (by decide) ?_
                  refine r_load_ptr rfl rfl (by decide) rfl rfl rfl ?_
                  refine r_field_ptr rfl rfl rfl rfl rfl (by decide) ?_
                  refine r_load_ptr rfl rfl (by decide) rfl rfl rfl ?_
                  refine r_index_ptrI (n := 6) rfl rfl rfl rfl rfl htl.1 (by omega) ?_
                  refine r_store1 (l' := plT (moved (movedAll (headR x.1) ((nth (allR b (headR x.1) g) k).take j.1)) (nth (nth (allR b (headR x.1) g) k) j.1))) rfl rfl (by decide) rfl rfl (by exact (rfl : _ = Ty.int _ _)) rfl (by show 0 + _ * 1 < 6; omega) rfl rfl (pl_moved _ _ (by omega)) ?_
                  refine r_nil ?_
                  refine i_block ?_
                  refine i_then ?_
                  refine t_region ?_
                  refine r_add rfl rfl (by omega) (by omega) ?_
                  refine mvI rfl ?_
                  refine r_nil ?_
                  refine i_round (⟨j.1 + 1, by omega⟩) ?_ (by show (nth (allR b (headR x.1) g) k).length - (j.1 + 1) < (nth (allR b (headR x.1) g) k).length - j.1; omega)
                  (refine Ent.mk' ?_ ?_ <;> (repeat' (first | exact allSub_zero | exact allTags_nil | exact subs_nil | refine allSub_succ' ?_ (Ty.sub_any _) | refine allSub_succ' ?_ (Ty.sub_refl _) | refine allTags_cons rfl (Cont.sub_refl _) ?_ | refine allTags_cons rfl (Cont.sub_subs ?_) ?_ | refine subs_cons ?_ ?_)))
                  all_goals skip
                  all_goals first | exact Ty.sub_int (congrArg (fun p : Pl => nth p.1 0) htm) | exact Ty.sub_int (congrArg (fun p : Pl => nth p.1 1) htm) | exact Ty.sub_int (congrArg (fun p : Pl => nth p.1 2) htm) | exact Ty.sub_int (congrArg (fun p : Pl => nth p.1 3) htm) | exact Ty.sub_int (congrArg (fun p : Pl => nth p.1 4) htm) | exact Ty.sub_int (congrArg (fun p : Pl => nth p.1 5) htm)
                ·
                  refine t_exit ?_
                  refine i_then_exit ?_
                  refine i_then_exit ?_
                  refine i_block_exit rfl ?_
                  refine i_then ?_
                  refine t_seq ?_
                  refine t_forget (B := live [(1, Ty.int .i64 g), (6, Ty.pe DeskE ⟨b, firstP b⟩ 0), (8, Ty.ptr 9 0), (9, Ty.ptr 10 0), (10, Ty.ptr 11 0), (11, Ty.sl TurE (nth (allR b (headR x.1) g) k)), (12, Ty.ptr 13 0)] [(9, Cont.cells 125 [Ty.mp 27, Ty.int .i64 0, Ty.int .i64 0, Ty.int .i64 0, Ty.int .i64 0, Ty.int .i64 0, Ty.int .i64 0, Ty.bool false]), (10, Cont.cells 148 [Ty.rowO PlE 123 4100 (foldR b g (headR x.1) (restR x.1) k).queue]), (11, Cont.cells 123 (plT (headR x.1))), (13, Cont.cells 123 (plT (movedAll (headR x.1) ((nth (allR b (headR x.1) g) k).take j.1)))), (27, Cont.mp (encN 6) WayV (foldR b g (headR x.1) (restR x.1) k).ways)]) ?_ ?_
                  · (refine Ent.mk' ?_ ?_ <;> (repeat' (first | exact allSub_zero | exact allTags_nil | refine allSub_succ' ?_ (Ty.sub_any _) | refine allSub_succ' ?_ (Ty.sub_refl _) | refine allTags_cons rfl (Cont.sub_refl _) ?_)))
                  refine t_asC (tg := 13) rfl (Cont.sub_cells (congrArg plT (show movedAll (headR x.1) ((nth (allR b (headR x.1) g) k).take j.1) = movedAll (headR x.1) (nth (allR b (headR x.1) g) k) by rw [List.take_of_length_le (by omega)]))) ?_
                  refine t_region ?_
                  refine r_field_ptr rfl rfl rfl rfl rfl (by decide) ?_
                  refine r_load_ptr rfl rfl (by decide) rfl rfl rfl ?_
                  refine r_load_ptrN rfl rfl (by decide) rfl rfl (by exact Nat.le_of_ble_eq_true rfl) ?_
                  refine r_lookup2 plKey (k := movedAll (headR x.1) (nth (allR b (headR x.1) g) k)) (z0 := way0) rfl rfl (by decide) rfl (key_pl _) mapT121 zero147 way_zero ?_
                  refine mvT rfl ?_
                  refine r_extract rfl rfl ?_
                  refine r_extract rfl rfl ?_
                  refine r_alloc rfl (by exact List.cons_ne_nil _ _) rfl ?_
                  refine r_storeN rfl rfl (by decide) rfl rfl rfl rfl rfl rfl ?_
                  refine asB rfl ?_
                  refine r_nil ?_
                  refine i_then ?_
                  refine t_seq ?_
                  refine t_region ?_
                  refine mvB rfl ?_
                  refine r_not rfl ?_
                  refine r_nil ?_
                  refine i_then ?_
                  refine t_cond rfl (fun hc6 => ?_) (fun hc6 => ?_)
                  ·
                    refine t_seq ?_
                    refine t_region ?_
                    refine r_field_ptr rfl rfl rfl rfl rfl (by decide) ?_
                    refine r_load_ptr rfl rfl (by decide) rfl rfl rfl ?_
                    refine r_load_ptrN rfl rfl (by decide) rfl rfl (by exact Nat.le_of_ble_eq_true rfl) ?_
                    refine r_load_ptrN rfl rfl (by decide) rfl rfl (by exact Nat.le_of_ble_eq_true rfl) ?_
                    refine mvS rfl ?_
                    refine r_build rfl rfl (by exact List.cons_ne_nil _ _) rfl (by repeat (first | exact (Parts.nil : Parts _ _ [] _) | (show Parts _ _ ((_, _) :: _) _; apply Parts.one; (· first | exact (rfl : _ = Ty.int _ _) | exact (rfl : _ = Ty.sl _ _)); (· exact rfl)) | (show Parts _ _ ((_, _) :: _) _; apply Parts.agg; (· exact (rfl : _ = Ty.agg _))))) (by exact rfl) ?_
                    refine r_mapUpdate plKey (k := movedAll (headR x.1) (nth (allR b (headR x.1) g) k)) (v := ⟨headR x.1, nth (allR b (headR x.1) g) k, 0⟩) rfl rfl (by decide) rfl (key_pl _) rfl rfl mapT121 ?_
                    refine r_nil ?_
                    refine i_then ?_
                    refine t_region ?_
                    refine r_load_ptr rfl rfl (by decide) rfl rfl rfl ?_
                    refine r_load_ptrN rfl rfl (by decide) rfl rfl (by exact Nat.le_of_ble_eq_true rfl) ?_
                    refine r_buildSlice (E := PlE) (xs := [movedAll (headR x.1) (nth (allR b (headR x.1) g) k)]) rfl rfl rfl rfl rfl (by decide) (by decide) (by repeat (first | exact (Parts.nil : Parts _ _ [] _) | (show Parts _ _ ((_, _) :: _) _; apply Parts.agg; (· exact (rfl : _ = Ty.agg _))))) (by exact rfl) rfl ?_
                    refine r_appendO rfl rfl (by decide) rfl (by show 0 < 1; decide) rfl rfl rfl rfl rfl (by decide) (by show (_ + 1) * 48 ≤ _; omega) (by show _ + 1 ≤ _; omega) ?_
                    refine r_store1 (ty := Ty.rowO PlE 123 4100 ((foldR b g (headR x.1) (restR x.1) k).queue ++ [movedAll (headR x.1) (nth (allR b (headR x.1) g) k)])) rfl rfl (by decide) rfl rfl rfl rfl (by exact Nat.le_of_ble_eq_true rfl) rfl rfl (by exact (rfl : _ = [_])) ?_
                    refine r_nil ?_
                    refine i_block ?_
                    refine q_normal ?_
                    (refine Ent.mk' ?_ ?_ <;> (repeat' (first | exact allSub_zero | exact allTags_nil | exact subs_nil | refine allSub_succ' ?_ (Ty.sub_any _) | refine allTags_cons rfl (Cont.sub_refl _) ?_ | refine allTags_cons rfl (Cont.sub_subs ?_) ?_ | refine subs_cons ?_ ?_ | refine allTags_cons rfl ?_ ?_)))
                    all_goals first | exact Ty.sub_eq (congrArg (Ty.rowO PlE 123 4100) (frR_no hk1 (not_a' hc6)).2) | exact Cont.sub_mp (frR_no hk1 (not_a' hc6)).1
                  ·
                    refine t_skip ?_
                    refine i_block ?_
                    refine q_normal ?_
                    (refine Ent.mk' ?_ ?_ <;> (repeat' (first | exact allSub_zero | exact allTags_nil | exact subs_nil | refine allSub_succ' ?_ (Ty.sub_any _) | refine allTags_cons rfl (Cont.sub_refl _) ?_ | refine allTags_cons rfl (Cont.sub_subs ?_) ?_ | refine subs_cons ?_ ?_ | refine allTags_cons rfl ?_ ?_)))
                    all_goals first | exact Ty.sub_eq (congrArg (fun z : RSt => Ty.rowO PlE 123 4100 z.queue) (frR_yes hk1 (not_b' hc6))) | exact Cont.sub_mp (congrArg RSt.ways (frR_yes hk1 (not_b' hc6)))
          ·
            refine i_block ?_
            refine i_block ?_
            refine i_round (⟨foldR b g (headR x.1) (restR x.1) (allR b (headR x.1) g).length, (x.2.1.next hr hg hlen hc3).1, foldR_qlen (by have := x.2.2; show (x.1.queue.drop 1).length ≤ x.1.ways.length + 1; rw [List.length_drop]; omega) _ _⟩) ?_ (by exact (x.2.1.next hr hg hlen hc3).2)
            (refine Ent.mk' ?_ ?_ <;> (repeat' (first | exact allSub_zero | exact allTags_nil | exact subs_nil | refine allSub_succ' ?_ (Ty.sub_any _) | refine allSub_succ' ?_ (Ty.sub_refl _) | refine allTags_cons rfl (Cont.sub_refl _) ?_ | refine allTags_cons rfl (Cont.sub_subs ?_) ?_ | refine subs_cons ?_ ?_ | refine allTags_cons rfl ?_ ?_)))
            all_goals skip
            all_goals first | exact Cont.sub_mp (congrArg (fun n => (foldR b g (headR x.1) (restR x.1) n).ways) (List.length_map _)) | exact Ty.sub_eq (congrArg (fun n => Ty.rowO PlE 123 4100 (foldR b g (headR x.1) (restR x.1) n).queue) (List.length_map _))
      ·
        refine t_exit ?_
        refine i_then_exit ?_
        refine i_then_exit ?_
        refine i_block_exit rfl ?_
        refine i_then ?_
        refine t_seq ?_
        refine t_seq ?_
        refine t_region ?_
        refine r_field_ptr rfl rfl rfl rfl rfl (by decide) ?_
        refine r_load_ptr rfl rfl (by decide) rfl rfl rfl ?_
        refine r_not rfl ?_
        refine r_nil ?_
        refine i_then ?_
        refine t_cond_tt rfl (rfl) ?_
        refine t_seq ?_
        refine t_region ?_
        refine asX rfl ?_
        refine asI rfl ?_
        refine r_nil ?_
        refine i_then ?_
        refine t_ret ?_
        refine i_then_ret ?_
        refine m_ret rfl ?_
        refine i_rp2 rfl rfl rfl ?_ ?_
        all_goals skip
        all_goals first | exact ret_nil_eq (roundsV_3 hc1 (x.2.1.same.stop (stepR_end (List.length_eq_zero_iff.1 (queue_no hc2)))) rfl) | exact ret_eq rfl rfl (congrArg (Ty.int .i64) (roundsE_3 hc1 (x.2.1.same.stop (stepR_end (List.length_eq_zero_iff.1 (queue_no hc2)))) rfl).symm)
set_option maxRecDepth 100000 in
theorem c_Least (b : Barn) (hs : b.Small) (g : Int) : Ctr Try.prog 55 [barnT b, Ty.int .i64 g] (Ty.tup [Ty.int .i64 (roundsV b g).length, Ty.int .i64 (roundsE b g)]) := by
  refine fn_intro Try.func55 rfl (by decide) Try.ntmps55 (by exact Nat.le_of_ble_eq_true rfl) fun w0 M0 => ?_
  refine t_seq ?_
  refine t_region ?_
  refine r_box_agg rfl ?_
  refine asI rfl ?_
  refine asI rfl ?_
  refine r_nil ?_
  refine i_then ?_
  refine t_seq ?_
  refine t_region ?_
  refine r_load_ppN rfl rfl rfl (by exact Nat.le_of_ble_eq_true rfl) ?_
  refine mvI rfl ?_
  refine r_call (c_Rounds b hs g) rfl rfl rfl rfl rfl ?_
  refine mvT rfl ?_
  refine r_extract rfl rfl ?_
  refine r_extract rfl rfl ?_
  refine asS rfl ?_
  refine asI rfl ?_
  refine r_nil ?_
  refine i_then ?_
  refine t_seq ?_
  refine t_region ?_
  refine mvS rfl ?_
  refine r_len rfl rfl rfl ?_
  refine mvI rfl ?_
  refine asI rfl ?_
  refine asI rfl ?_
  refine r_nil ?_
  refine i_then ?_
  refine t_ret ?_
  refine i_rp2 rfl rfl rfl ?_ ?_
  all_goals exact ret_refl rfl rfl
end Go.Proofs.Ytpnndljmhpepgaa

namespace Go.Proofs.Ytpnndljmhpepgaa
open Go Go.T
def three (l : List Int) : Barn := ⟨[50, 50, 50] ++ l, [⟨30, 0, 1⟩, ⟨20, 1, 0⟩, ⟨40, 2, 2⟩]⟩
def okRun (b : Barn) (c : Tur → Int) (all : Bool) (n : Nat) (P : Found → Bool) : Bool := match runN b c all n (st0 b) with
  | some f => P f
  | none => false
theorem run_ok {b : Barn} {c : Tur → Int} {all : Bool} {n : Nat} {P : Found → Bool} (h : okRun b c all n P = true) : P (searchM b c all) = true := by
  unfold okRun at h
  cases e : runN b c all n (st0 b) with
  | none => rw [e] at h; cases h
  | some f => rw [e] at h; rw [searchM_eq ⟨n, e⟩]; exact h
def okRunR (b : Barn) (g : Int) (n : Nat) (P : Found → Bool) : Bool := match runR b g n (rst0 b) with
  | some f => P f
  | none => false
theorem runR_ok {b : Barn} {g : Int} {n : Nat} {P : Found → Bool} (h : okRunR b g n P = true) : P (roundsM b g) = true := by
  unfold okRunR at h
  cases e : runR b g n (rst0 b) with
  | none => rw [e] at h; cases h
  | some f => rw [e] at h; rw [roundsM_eq ⟨n, e⟩]; exact h
theorem three_ok1 : checkB (three [50]) = 0 := by decide
theorem three_ok2 : checkB (three [15]) = 0 := by decide
theorem ex1 : okRun (three [50]) oneC false 100 (fun f => f.is && decide (((mget f.ways f.last).getD way0).all = 3)) = true := by kernel_rfl
theorem ex2 : okRun (three [50]) (sackC (three [50])) false 400 (fun f => f.is && decide (((mget f.ways f.last).getD way0).all = 70)) = true := by kernel_rfl
theorem ex3 : okRun (three [15]) oneC false 100 (fun f => !f.is) = true := by kernel_rfl
theorem ex4 : okRun (three [15]) oneC true 100 (fun f => decide (f.ways.length = 1)) = true := by kernel_rfl
def chainF (ways : List (Pl × Way)) (first : Pl) : Nat → Pl → Option (List (List Tur))
  | 0, p => if p = first then some [] else none
  | n + 1, p => if p = first then some [] else match mget ways p with
    | none => none
    | some w => (chainF ways first n w.frm).map fun A => A ++ [w.byT]
theorem chainF_spec {ways : List (Pl × Way)} {first : Pl} : ∀ {n : Nat} {p : Pl} {A : List (List Tur)}, chainF ways first n p = some A → Chain ways first p A
  | 0, p, A, h => by
    unfold chainF at h
    by_cases e : p = first
    · rw [if_pos e] at h; injection h with h; subst h; subst e; exact .nil
    · rw [if_neg e] at h; cases h
  | n + 1, p, A, h => by
    unfold chainF at h
    by_cases e : p = first
    · rw [if_pos e] at h; injection h with h; subst h; subst e; exact .nil
    · rw [if_neg e] at h
      cases hw : mget ways p with
      | none => rw [hw] at h; cases h
      | some w =>
        rw [hw] at h
        obtain ⟨B, hB, rfl⟩ := Option.map_eq_some_iff.1 h
        exact .snoc e hw (chainF_spec hB)
def lenIs (b : Barn) (f : Found) (n : Nat) : Bool := match chainF f.ways (firstP b) 20 f.last with
  | some A => decide (A.length = n)
  | none => false
theorem lenIs_spec {b : Barn} {f : Found} {n : Nat} (h : lenIs b f n = true) : (chainM f.ways (firstP b) f.last).length = n := by
  unfold lenIs at h
  cases e : chainF f.ways (firstP b) 20 f.last with
  | none => rw [e] at h; cases h
  | some A => rw [e] at h; rw [chainM_spec (chainF_spec e)]; exact of_decide_eq_true h
theorem ex5 : okRunR (three [50, 50]) 2 200 (fun f => f.is && lenIs (three [50, 50]) f 2) = true := by kernel_rfl
theorem two_of {a b : Bool} (h : (a && b) = true) : a = true ∧ b = true := by simpa using h
theorem aw1 : costR (three [50]) oneC = 3 := by
  have h := two_of (run_ok ex1)
  unfold costR costV; rw [if_pos three_ok1, if_pos h.1]; exact of_decide_eq_true h.2
theorem aw2 : planE (three [50]) oneC = 0 := by
  have h := two_of (run_ok ex1)
  unfold planE; rw [if_pos three_ok1, if_pos h.1]
theorem aw3 : costR (three [50]) (sackC (three [50])) = 70 := by
  have h := two_of (run_ok ex2)
  unfold costR costV; rw [if_pos three_ok1, if_pos h.1]; exact of_decide_eq_true h.2
theorem aw4 : planE (three [50]) (sackC (three [50])) = 0 := by
  have h := two_of (run_ok ex2)
  unfold planE; rw [if_pos three_ok1, if_pos h.1]
theorem aw5 : planE (three [15]) oneC = 7 := by
  have h := run_ok ex3
  unfold planE; rw [if_pos three_ok2, if_neg (by simpa using h)]
theorem aw6 : placesV (three [15]) = 1 := by
  have h := run_ok ex4
  unfold placesV; rw [if_pos three_ok2, of_decide_eq_true h]; rfl
theorem aw7 : showV (three [50]) [[1, 0]] = (3, 0) := by kernel_rfl
theorem aw8 : ((roundsV (three [50, 50]) 2).length : Int) = 2 := by
  have h := two_of (runR_ok ex5)
  have ha : askE (three [50, 50]) 2 = 0 := by decide
  unfold roundsV; rw [if_pos ha, if_pos h.1, lenIs_spec h.2]; rfl
theorem aw9 : roundsE (three [50, 50]) 2 = 0 := by
  have h := two_of (runR_ok ex5)
  have ha : askE (three [50, 50]) 2 = 0 := by decide
  unfold roundsE; rw [if_pos ha, if_pos h.1]
def exPlan : List Tur := [⟨1, 3⟩, ⟨0, 1⟩, ⟨1, 0⟩]
theorem aw10 : makesB (three [25]) exPlan = true := by kernel_rfl
theorem aw11 : (doneV (three [25]) exPlan).2.2 = 0 := by kernel_rfl
theorem three_small {l : List Int} (h : l.length ≤ 9) : (three l).Small := ⟨by show ([50, 50, 50] ++ l).length ≤ 12; rw [List.length_append]; simp; omega, by show 3 ≤ 10; decide⟩
end Go.Proofs.Ytpnndljmhpepgaa

namespace Go.Proofs.Ytpnndljmhpepgaa
open Go Go.T
set_option maxHeartbeats 4000000
attribute [local irreducible] costR planE placesV showV roundsV roundsE makesB doneV planR sackC
attribute [local irreducible] dInt dBool dSl dPp dPtr dAgg dTup dClo dAny dEx dStr dGd dCells dVec dVs dRow dOp nth Tri Into TOps Ctr bodyPost Exit.then Exit.inBlock Code.wp Code.wpIn dWhen dPa dPe dAo dArr dMp dPm dMap dCJ CtrG CtrI OpY keepPost iterPost bodyPostM roundQ
set_option maxRecDepth 100000 in
theorem c_Three (l : List Int) (h : l.length ≤ 9) : Ctr Try.prog 67 [Ty.sl I64 l] (barnT (three l)) := by
  refine fn_intro Try.func67 rfl (by decide) Try.ntmps67 (by exact Nat.le_of_ble_eq_true rfl) fun w0 M0 => ?_
  refine t_seq ?_
  refine t_region ?_
  refine r_alloc rfl (by exact List.cons_ne_nil _ _) rfl ?_
  refine r_nil ?_
  refine i_then ?_
  refine t_seq ?_
  refine t_region ?_
  refine r_buildRowN (E := I64) (xs := [50, 50, 50]) rfl rfl rfl rfl rfl (by decide) (by decide) (by repeat (first | exact (Parts.nil : Parts _ _ [] _) | (show Parts _ _ ((_, _) :: _) _; apply Parts.one; (· exact (rfl : _ = Ty.int _ _)); (· exact rfl)))) (by exact rfl) rfl rfl ?_
  refine mvS rfl ?_
  refine r_append rfl rfl (by decide) rfl rfl rfl rfl rfl rfl (by decide) (by (simp <;> omega)) (by (simp <;> omega)) ?_
  refine r_build rfl rfl (by exact List.cons_ne_nil _ _) rfl (by repeat (first | exact (Parts.nil : Parts _ _ [] _) | (show Parts _ _ ((_, _) :: _) _; apply Parts.one; (· exact (rfl : _ = Ty.int _ _)); (· exact rfl)))) (by exact (rfl : _ = some [_, _, _])) ?_
  refine r_build rfl rfl (by exact List.cons_ne_nil _ _) rfl (by repeat (first | exact (Parts.nil : Parts _ _ [] _) | (show Parts _ _ ((_, _) :: _) _; apply Parts.one; (· exact (rfl : _ = Ty.int _ _)); (· exact rfl)))) (by exact (rfl : _ = some [_, _, _])) ?_
  refine r_build rfl rfl (by exact List.cons_ne_nil _ _) rfl (by repeat (first | exact (Parts.nil : Parts _ _ [] _) | (show Parts _ _ ((_, _) :: _) _; apply Parts.one; (· exact (rfl : _ = Ty.int _ _)); (· exact rfl)))) (by exact (rfl : _ = some [_, _, _])) ?_
  refine r_buildSlice (E := LotE) (xs := [⟨30, 0, 1⟩, ⟨20, 1, 0⟩, ⟨40, 2, 2⟩]) rfl rfl rfl rfl rfl (by decide) (by decide) (by repeat (first | exact (Parts.nil : Parts _ _ [] _) | (show Parts _ _ ((_, _) :: _) _; apply Parts.agg; (· exact (rfl : _ = Ty.agg _))))) (by exact rfl) rfl ?_
  refine r_build rfl rfl (by exact List.cons_ne_nil _ _) rfl (by repeat (first | exact (Parts.nil : Parts _ _ [] _) | (show Parts _ _ ((_, _) :: _) _; apply Parts.one; (· first | exact (rfl : _ = Ty.sl _ _) | exact (rfl : _ = Ty.row _ _ _ _)); (· exact rfl)))) (by exact (rfl : _ = some [_, _])) ?_
  refine r_storeN rfl rfl (by decide) rfl rfl rfl rfl rfl rfl ?_
  refine r_nil ?_
  refine i_then ?_
  refine t_ret ?_
  refine i_rcell rfl rfl rfl rfl (by decide) rfl rfl rfl ?_
  exact ret_agg ⟨ret_row_eq (by decide) rfl, ret_eq rfl rfl rfl, trivial⟩
set_option maxRecDepth 100000 in
theorem c_awake : Ctr Try.prog 14 [] (Ty.bool true) := by
  refine fn_intro Try.func14 rfl (by decide) Try.ntmps14 (by exact Nat.le_of_ble_eq_true rfl) fun w0 M0 => ?_
  refine t_seq ?_
  refine t_region ?_
  refine asB rfl ?_
  refine r_nil ?_
  refine i_then ?_
  refine t_seq ?_
  refine t_region ?_
  refine r_buildSlice (E := I64) (xs := [_]) rfl rfl rfl rfl rfl (by decide) (by decide) (by repeat (first | exact (Parts.nil : Parts _ _ [] _) | (show Parts _ _ ((_, _) :: _) _; apply Parts.one; (· exact (rfl : _ = Ty.int _ _)); (· exact rfl)))) (by exact rfl) rfl ?_
  refine r_call (c_Three [50] (by decide)) rfl rfl rfl rfl rfl ?_
  refine r_call (c_Fewest (three [50]) (three_small (by decide))) rfl rfl rfl rfl rfl ?_
  refine mvT rfl ?_
  refine r_extract rfl rfl ?_
  refine r_extract rfl rfl ?_
  refine asI rfl ?_
  refine asI rfl ?_
  refine r_nil ?_
  refine i_then ?_
  refine t_seq ?_
  refine t_region ?_
  refine r_buildSlice (E := I64) (xs := [_]) rfl rfl rfl rfl rfl (by decide) (by decide) (by repeat (first | exact (Parts.nil : Parts _ _ [] _) | (show Parts _ _ ((_, _) :: _) _; apply Parts.one; (· exact (rfl : _ = Ty.int _ _)); (· exact rfl)))) (by exact rfl) rfl ?_
  refine r_call (c_Three [50] (by decide)) rfl rfl rfl rfl rfl ?_
  refine r_call (c_Lightest (three [50]) (three_small (by decide))) rfl rfl rfl rfl rfl ?_
  refine mvT rfl ?_
  refine r_extract rfl rfl ?_
  refine r_extract rfl rfl ?_
  refine r_extract rfl rfl ?_
  refine asS rfl ?_
  refine asI rfl ?_
  refine asI rfl ?_
  refine r_nil ?_
  refine i_then ?_
  refine t_seq ?_
  refine t_region ?_
  refine r_buildSlice (E := I64) (xs := [_]) rfl rfl rfl rfl rfl (by decide) (by decide) (by repeat (first | exact (Parts.nil : Parts _ _ [] _) | (show Parts _ _ ((_, _) :: _) _; apply Parts.one; (· exact (rfl : _ = Ty.int _ _)); (· exact rfl)))) (by exact rfl) rfl ?_
  refine r_call (c_Three [15] (by decide)) rfl rfl rfl rfl rfl ?_
  refine r_call (c_Fewest (three [15]) (three_small (by decide))) rfl rfl rfl rfl rfl ?_
  refine mvT rfl ?_
  refine r_extract rfl rfl ?_
  refine r_extract rfl rfl ?_
  refine asI rfl ?_
  refine asI rfl ?_
  refine r_nil ?_
  refine i_then ?_
  refine t_seq ?_
  refine t_region ?_
  refine r_buildSlice (E := I64) (xs := [_]) rfl rfl rfl rfl rfl (by decide) (by decide) (by repeat (first | exact (Parts.nil : Parts _ _ [] _) | (show Parts _ _ ((_, _) :: _) _; apply Parts.one; (· exact (rfl : _ = Ty.int _ _)); (· exact rfl)))) (by exact rfl) rfl ?_
  refine r_call (c_Three [15] (by decide)) rfl rfl rfl rfl rfl ?_
  refine r_call (c_Places (three [15]) (three_small (by decide))) rfl rfl rfl rfl rfl ?_
  refine mvT rfl ?_
  refine r_extract rfl rfl ?_
  refine r_extract rfl rfl ?_
  refine asI rfl ?_
  refine asI rfl ?_
  refine r_nil ?_
  refine i_then ?_
  refine t_seq ?_
  refine t_region ?_
  refine r_buildSlice (E := I64) (xs := [_]) rfl rfl rfl rfl rfl (by decide) (by decide) (by repeat (first | exact (Parts.nil : Parts _ _ [] _) | (show Parts _ _ ((_, _) :: _) _; apply Parts.one; (· exact (rfl : _ = Ty.int _ _)); (· exact rfl)))) (by exact rfl) rfl ?_
  refine r_call (c_Three [50] (by decide)) rfl rfl rfl rfl rfl ?_
  refine r_buildSlice (E := I64) (xs := [_, _]) rfl rfl rfl rfl rfl (by decide) (by decide) (by repeat (first | exact (Parts.nil : Parts _ _ [] _) | (show Parts _ _ ((_, _) :: _) _; apply Parts.one; (· exact (rfl : _ = Ty.int _ _)); (· exact rfl)))) (by exact rfl) rfl ?_
  refine r_buildSlice (E := RowE) (xs := [[1, 0]]) rfl rfl rfl rfl rfl (by decide) (by decide) (by repeat (first | exact (Parts.nil : Parts _ _ [] _) | (show Parts _ _ ((_, _) :: _) _; apply Parts.one; (· exact (rfl : _ = Ty.sl _ _)); (· exact rfl)))) (by exact rfl) rfl ?_
  refine r_call (c_Shows (three [50]) (three_small (by decide)) [[1, 0]] (by decide) (by decide)) rfl rfl rfl rfl rfl ?_
  refine mvT rfl ?_
  refine r_extract rfl rfl ?_
  refine r_extract rfl rfl ?_
  refine asI rfl ?_
  refine asI rfl ?_
  refine r_nil ?_
  refine i_then ?_
  refine t_seq ?_
  refine t_region ?_
  refine r_buildSlice (E := I64) (xs := [_, _]) rfl rfl rfl rfl rfl (by decide) (by decide) (by repeat (first | exact (Parts.nil : Parts _ _ [] _) | (show Parts _ _ ((_, _) :: _) _; apply Parts.one; (· exact (rfl : _ = Ty.int _ _)); (· exact rfl)))) (by exact rfl) rfl ?_
  refine r_call (c_Three [50, 50] (by decide)) rfl rfl rfl rfl rfl ?_
  refine r_call (c_Least (three [50, 50]) (three_small (by decide)) 2) rfl rfl rfl rfl rfl ?_
  refine mvT rfl ?_
  refine r_extract rfl rfl ?_
  refine r_extract rfl rfl ?_
  refine asI rfl ?_
  refine asI rfl ?_
  refine r_nil ?_
  refine i_then ?_
  refine t_seq ?_
  refine t_region ?_
  refine r_buildSlice (E := I64) (xs := [_]) rfl rfl rfl rfl rfl (by decide) (by decide) (by repeat (first | exact (Parts.nil : Parts _ _ [] _) | (show Parts _ _ ((_, _) :: _) _; apply Parts.one; (· exact (rfl : _ = Ty.int _ _)); (· exact rfl)))) (by exact rfl) rfl ?_
  refine r_call (c_Three [25] (by decide)) rfl rfl rfl rfl rfl ?_
  refine r_build rfl rfl (by exact List.cons_ne_nil _ _) rfl (by repeat (first | exact (Parts.nil : Parts _ _ [] _) | (show Parts _ _ ((_, _) :: _) _; apply Parts.one; (· exact (rfl : _ = Ty.int _ _)); (· exact rfl)))) (by exact (rfl : _ = some [_, _])) ?_
  refine r_build rfl rfl (by exact List.cons_ne_nil _ _) rfl (by repeat (first | exact (Parts.nil : Parts _ _ [] _) | (show Parts _ _ ((_, _) :: _) _; apply Parts.one; (· exact (rfl : _ = Ty.int _ _)); (· exact rfl)))) (by exact (rfl : _ = some [_, _])) ?_
  refine r_build rfl rfl (by exact List.cons_ne_nil _ _) rfl (by repeat (first | exact (Parts.nil : Parts _ _ [] _) | (show Parts _ _ ((_, _) :: _) _; apply Parts.one; (· exact (rfl : _ = Ty.int _ _)); (· exact rfl)))) (by exact (rfl : _ = some [_, _])) ?_
  refine r_buildSlice (E := TurE) (xs := exPlan) rfl rfl rfl rfl rfl (by decide) (by decide) (by repeat (first | exact (Parts.nil : Parts _ _ [] _) | (show Parts _ _ ((_, _) :: _) _; apply Parts.agg; (· exact (rfl : _ = Ty.agg _))))) (by exact rfl) rfl ?_
  refine r_call (c_Makes (three [25]) (three_small (by decide)) exPlan (by decide)) rfl rfl rfl rfl rfl ?_
  refine mvT rfl ?_
  refine r_extract rfl rfl ?_
  refine r_extract rfl rfl ?_
  refine asB rfl ?_
  refine asI rfl ?_
  refine r_nil ?_
  refine i_then ?_
  refine t_seq ?_
  refine t_as (s := 1) rfl (Ty.sub_int aw1) ?_
  refine t_as (s := 2) rfl (Ty.sub_int aw2) ?_
  refine t_as (s := 4) rfl (Ty.sub_int aw3) ?_
  refine t_as (s := 5) rfl (Ty.sub_int aw4) ?_
  refine t_as (s := 7) rfl (Ty.sub_int aw5) ?_
  refine t_as (s := 8) rfl (Ty.sub_int aw6) ?_
  refine t_as (s := 9) rfl (Ty.sub_int three_ok2) ?_
  refine t_as (s := 10) rfl (Ty.sub_int (congrArg Prod.fst aw7)) ?_
  refine t_as (s := 11) rfl (Ty.sub_int (congrArg Prod.snd aw7)) ?_
  refine t_as (s := 12) rfl (Ty.sub_int aw8) ?_
  refine t_as (s := 13) rfl (Ty.sub_int aw9) ?_
  refine t_as (s := 14) rfl (Ty.sub_bool aw10) ?_
  refine t_as (s := 15) rfl (Ty.sub_int aw11) ?_
  refine t_forget (B := live [(1, Ty.int .i64 3), (2, Ty.int .i64 0), (4, Ty.int .i64 70), (5, Ty.int .i64 0), (7, Ty.int .i64 7), (8, Ty.int .i64 1), (9, Ty.int .i64 0), (10, Ty.int .i64 3), (11, Ty.int .i64 0), (12, Ty.int .i64 2), (13, Ty.int .i64 0), (14, Ty.bool true), (15, Ty.int .i64 0)] []) ?_ ?_
  · (refine Ent.mk' ?_ ?_ <;> (repeat' (first | exact allSub_zero | exact allTags_nil | refine allSub_succ' ?_ (Ty.sub_any _) | refine allSub_succ' ?_ (Ty.sub_refl _))))
  refine t_region ?_
  refine mvI rfl ?_
  refine r_bin rfl rfl rfl ?_
  refine mvB rfl ?_
  apply r_guard (s := 67) rfl rfl rfl
  · intro hg; apply opT_of; (refine mvI rfl ?_); refine r_nil ?_; exact rfl
  · exact rfl
  · exact rfl
  apply r_guard (s := 67) rfl rfl rfl
  · intro hg; apply opT_strip (s := 68) rfl (by exact hg); apply opT_of; (refine r_bin rfl rfl rfl ?_); refine r_nil ?_; exact rfl
  · exact rfl
  · exact rfl
  refine r_and rfl rfl ?_
  refine mvB rfl ?_
  apply r_guard (s := 71) rfl rfl rfl
  · intro hg; apply opT_of; (refine mvI rfl ?_); refine r_nil ?_; exact rfl
  · exact rfl
  · exact rfl
  apply r_guard (s := 71) rfl rfl rfl
  · intro hg; apply opT_strip (s := 72) rfl (by exact hg); apply opT_of; (refine r_bin rfl rfl rfl ?_); refine r_nil ?_; exact rfl
  · exact rfl
  · exact rfl
  refine r_and rfl rfl ?_
  refine mvB rfl ?_
  apply r_guard (s := 75) rfl rfl rfl
  · intro hg; apply opT_of; (refine mvI rfl ?_); refine r_nil ?_; exact rfl
  · exact rfl
  · exact rfl
  apply r_guard (s := 75) rfl rfl rfl
  · intro hg; apply opT_strip (s := 76) rfl (by exact hg); apply opT_of; (refine r_bin rfl rfl rfl ?_); refine r_nil ?_; exact rfl
  · exact rfl
  · exact rfl
  refine r_and rfl rfl ?_
  refine mvB rfl ?_
  apply r_guard (s := 79) rfl rfl rfl
  · intro hg; apply opT_of; (refine mvI rfl ?_); refine r_nil ?_; exact rfl
  · exact rfl
  · exact rfl
  apply r_guard (s := 79) rfl rfl rfl
  · intro hg; apply opT_strip (s := 80) rfl (by exact hg); apply opT_of; (refine r_bin rfl rfl rfl ?_); refine r_nil ?_; exact rfl
  · exact rfl
  · exact rfl
  refine r_and rfl rfl ?_
  refine mvB rfl ?_
  apply r_guard (s := 83) rfl rfl rfl
  · intro hg; apply opT_of; (refine mvI rfl ?_); refine r_nil ?_; exact rfl
  · exact rfl
  · exact rfl
  apply r_guard (s := 83) rfl rfl rfl
  · intro hg; apply opT_strip (s := 84) rfl (by exact hg); apply opT_of; (refine r_bin rfl rfl rfl ?_); refine r_nil ?_; exact rfl
  · exact rfl
  · exact rfl
  refine r_and rfl rfl ?_
  refine mvB rfl ?_
  apply r_guard (s := 87) rfl rfl rfl
  · intro hg; apply opT_of; (refine mvI rfl ?_); refine r_nil ?_; exact rfl
  · exact rfl
  · exact rfl
  apply r_guard (s := 87) rfl rfl rfl
  · intro hg; apply opT_strip (s := 88) rfl (by exact hg); apply opT_of; (refine r_bin rfl rfl rfl ?_); refine r_nil ?_; exact rfl
  · exact rfl
  · exact rfl
  refine r_and rfl rfl ?_
  refine mvB rfl ?_
  apply r_guard (s := 91) rfl rfl rfl
  · intro hg; apply opT_of; (refine mvI rfl ?_); refine r_nil ?_; exact rfl
  · exact rfl
  · exact rfl
  apply r_guard (s := 91) rfl rfl rfl
  · intro hg; apply opT_strip (s := 92) rfl (by exact hg); apply opT_of; (refine r_bin rfl rfl rfl ?_); refine r_nil ?_; exact rfl
  · exact rfl
  · exact rfl
  refine r_and rfl rfl ?_
  refine mvB rfl ?_
  apply r_guard (s := 95) rfl rfl rfl
  · intro hg; apply opT_of; (refine mvI rfl ?_); refine r_nil ?_; exact rfl
  · exact rfl
  · exact rfl
  apply r_guard (s := 95) rfl rfl rfl
  · intro hg; apply opT_strip (s := 96) rfl (by exact hg); apply opT_of; (refine r_bin rfl rfl rfl ?_); refine r_nil ?_; exact rfl
  · exact rfl
  · exact rfl
  refine r_and rfl rfl ?_
  refine mvB rfl ?_
  apply r_guard (s := 99) rfl rfl rfl
  · intro hg; apply opT_of; (refine mvI rfl ?_); refine r_nil ?_; exact rfl
  · exact rfl
  · exact rfl
  apply r_guard (s := 99) rfl rfl rfl
  · intro hg; apply opT_strip (s := 100) rfl (by exact hg); apply opT_of; (refine r_bin rfl rfl rfl ?_); refine r_nil ?_; exact rfl
  · exact rfl
  · exact rfl
  refine r_and rfl rfl ?_
  refine mvB rfl ?_
  apply r_guard (s := 103) rfl rfl rfl
  · intro hg; apply opT_of; (refine mvI rfl ?_); refine r_nil ?_; exact rfl
  · exact rfl
  · exact rfl
  apply r_guard (s := 103) rfl rfl rfl
  · intro hg; apply opT_strip (s := 104) rfl (by exact hg); apply opT_of; (refine r_bin rfl rfl rfl ?_); refine r_nil ?_; exact rfl
  · exact rfl
  · exact rfl
  refine r_and rfl rfl ?_
  refine mvB rfl ?_
  apply r_guard (s := 107) rfl rfl rfl
  · intro hg; apply opT_of; (refine mvI rfl ?_); refine r_nil ?_; exact rfl
  · exact rfl
  · exact rfl
  apply r_guard (s := 107) rfl rfl rfl
  · intro hg; apply opT_strip (s := 108) rfl (by exact hg); apply opT_of; (refine r_bin rfl rfl rfl ?_); refine r_nil ?_; exact rfl
  · exact rfl
  · exact rfl
  refine r_and rfl rfl ?_
  refine mvB rfl ?_
  apply r_guard (s := 111) rfl rfl rfl
  · intro hg; apply opT_of; (refine mvB rfl ?_); refine r_nil ?_; exact rfl
  · exact rfl
  · exact rfl
  refine r_and rfl rfl ?_
  refine asB rfl ?_
  refine r_nil ?_
  refine i_then ?_
  refine t_ret ?_
  refine i_rp1 rfl rfl ?_
  all_goals exact ret_refl rfl rfl
  skip
end Go.Proofs.Ytpnndljmhpepgaa

namespace Go.Proofs.Ytpnndljmhpepgaa
open Go Go.T
structure Sk where
  grain : List Int
  taken : Int
  mixed : Int
def U8 : El Int := El.mk' 1 (fun n => [Ty.int .u8 n]) (fun _ => rfl) (fun _ => ⟨rfl, rfl, rfl⟩)
def skTys (s : Sk) : List Ty := [Ty.sl U8 s.grain, Ty.int .i64 s.taken, Ty.int .u32 s.mixed]
def mixB (s : Sk) : Int := IntKind.u32.wrap (bits .xor .u32 s.mixed (IntKind.u32.wrap (nth s.grain (s.taken.tmod s.grain.length).toNat)) * 16777619)
def skMix1 (s : Sk) : Sk := if (s.grain.length : Int) > 0 then { s with mixed := mixB s } else s
def skTake (s : Sk) : Sk := { s with taken := s.taken + 1 }
def mixC (s : Sk) : Int := IntKind.u32.wrap (IntKind.u32.wrap (s.mixed * 1664525) + 1013904223)
def skMix2 (s : Sk) : Sk := if s.taken > (s.grain.length : Int) then { s with mixed := mixC s } else s
def skNext (s : Sk) : Sk := skMix2 (skTake (skMix1 s))
def skVal (s : Sk) : Int := IntKind.i64.wrap (bits .and .u32 (bits .xor .u32 s.mixed (s.mixed / 2 ^ (15 : Int).toNat) / 2 ^ (8 : Int).toNat) 65535)
def Sk.Ok (s : Sk) (n : Int) : Prop := 0 ≤ s.taken ∧ s.taken + n ≤ 4611686018427387904
theorem skMix1_taken (s : Sk) : (skMix1 s).taken = s.taken := by unfold skMix1; split <;> rfl
theorem skMix2_taken (s : Sk) : (skMix2 s).taken = s.taken := by unfold skMix2; split <;> rfl
theorem skNext_taken (s : Sk) : (skNext s).taken = s.taken + 1 := by unfold skNext; rw [skMix2_taken, skTake, skMix1_taken]
theorem bits_and_ffff (a : Int) : 0 ≤ bits .and .u32 a 65535 ∧ bits .and .u32 a 65535 ≤ 65535 := by
  have e : bits .and .u32 a 65535 = IntKind.u32.wrap (((BitVec.ofInt 32 a &&& BitVec.ofInt 32 65535).toNat : Nat) : Int) := rfl
  have h1 : (BitVec.ofInt 32 a &&& BitVec.ofInt 32 65535).toNat ≤ 65535 := by
    rw [BitVec.toNat_and]
    exact Nat.and_le_right
  rw [e]
  generalize (BitVec.ofInt 32 a &&& BitVec.ofInt 32 65535).toNat = n at h1
  have : IntKind.u32.wrap (n : Int) = (n : Int) % 4294967296 := rfl
  rw [this]; omega
theorem skVal_bound (s : Sk) : 0 ≤ skVal s ∧ skVal s ≤ 65535 := by
  have h := bits_and_ffff (bits .xor .u32 s.mixed (s.mixed / 2 ^ (15 : Int).toNat) / 2 ^ (8 : Int).toNat)
  unfold skVal
  rw [IntWalk.i64_in _ (by omega)]; exact h
def skBelow (s : Sk) (n : Int) : Int := (skVal (skNext s)).tmod (max 1 n)
theorem skBelow_bound (s : Sk) (n : Int) : 0 ≤ skBelow s n ∧ skBelow s n < max 1 n ∧ skBelow s n ≤ 65535 := by
  have h := skVal_bound (skNext s)
  unfold skBelow
  have h1 : (skVal (skNext s)).tmod (max 1 n) = skVal (skNext s) % max 1 n := Int.tmod_eq_emod_of_nonneg h.1
  have h2 := Int.emod_lt_of_pos (skVal (skNext s)) (show 0 < max 1 n by omega)
  have h3 := Int.emod_nonneg (skVal (skNext s)) (show max 1 n ≠ 0 by omega)
  have h4 : skVal (skNext s) % max 1 n ≤ skVal (skNext s) := by
    have := Int.mul_ediv_add_emod (skVal (skNext s)) (max 1 n)
    have hq : 0 ≤ skVal (skNext s) / max 1 n := Int.ediv_nonneg h.1 (by omega)
    have : 0 ≤ max 1 n * (skVal (skNext s) / max 1 n) := Int.mul_nonneg (by omega) hq
    omega
  omega
def skAmong (s : Sk) (lo hi : Int) : Int := lo + skBelow s (hi - lo + 1)
def skRare (s : Sk) (n : Int) : Bool := decide (skBelow s n = 0)
def skFill (grain : List Int) : Sk := ⟨grain, 0, bits .xor .u32 2166136261 (IntKind.u32.wrap grain.length)⟩
def modM (v n : Int) : Int := if n < 1 then 0 else (v.tmod n + n).tmod n
def insL (xs : List Int) (i : Nat) (k : Int) : List Int := xs.take i ++ k :: xs.drop i
theorem insL_len {xs : List Int} {i : Nat} (h : i ≤ xs.length) (k : Int) : (insL xs i k).length = xs.length + 1 := by simp [insL]; omega
theorem insL_mem {xs : List Int} {i : Nat} {k x : Int} : x ∈ insL xs i k ↔ x = k ∨ x ∈ xs := by
  unfold insL
  rw [List.mem_append, List.mem_cons]
  constructor
  · rintro (h | rfl | h)
    · exact .inr (List.mem_of_mem_take h)
    · exact .inl rfl
    · exact .inr (List.mem_of_mem_drop h)
  · rintro (rfl | h)
    · exact .inr (.inl rfl)
    · rw [← List.take_append_drop i xs, List.mem_append] at h
      exact h.imp id .inr
theorem insL_nodup {xs : List Int} {i : Nat} {k : Int} (h : xs.Nodup) (hk : k ∉ xs) : (insL xs i k).Nodup := by
  unfold insL
  have h2 : (xs.take i ++ xs.drop i).Nodup := by rw [List.take_append_drop]; exact h
  rw [List.nodup_append] at h2 ⊢
  obtain ⟨a, b, c⟩ := h2
  refine ⟨a, List.nodup_cons.2 ⟨fun h => hk (List.mem_of_mem_drop h), b⟩, fun x hx y hy => ?_⟩
  rcases List.mem_cons.1 hy with rfl | hy
  · rintro rfl; exact hk (List.mem_of_mem_take hx)
  · exact c x hx y hy
def shufUp (s : Sk) : Nat → List Int × Sk
  | 0 => ([], s)
  | k + 1 => (insL (shufUp s k).1 (skBelow (shufUp s k).2 ((k : Int) + 1)).toNat k, skNext (shufUp s k).2)
theorem shuf_spec (s : Sk) : ∀ k, (shufUp s k).1.length = k ∧ (shufUp s k).1.Nodup ∧ (∀ x, x ∈ (shufUp s k).1 ↔ 0 ≤ x ∧ x < (k : Int)) ∧ (shufUp s k).2.taken = s.taken + k
  | 0 => ⟨rfl, List.nodup_nil, fun x => ⟨fun h => (by cases h), fun h => by omega⟩, by simp [shufUp]⟩
  | k + 1 => by
    obtain ⟨h1, h2, h3, h4⟩ := shuf_spec s k
    have hb := skBelow_bound (shufUp s k).2 ((k : Int) + 1)
    refine ⟨?_, insL_nodup h2 (fun h => by have := (h3 _).1 h; omega), fun x => ?_, ?_⟩
    · show (insL _ _ _).length = _
      rw [insL_len (by omega), h1]
    · show x ∈ insL _ _ _ ↔ _
      rw [insL_mem, h3]; omega
    · show (skNext _).taken = _
      rw [skNext_taken, h4]; omega
end Go.Proofs.Ytpnndljmhpepgaa

namespace Go.Proofs.Ytpnndljmhpepgaa
open Go Go.T
set_option maxHeartbeats 2000000
attribute [local irreducible] dInt dBool dSl dPp dPtr dAgg dTup dClo dAny dEx dStr dGd dCells dVec dVs dRow dOp nth Tri Into TOps Ctr bodyPost Exit.then Exit.inBlock Code.wp Code.wpIn dWhen dPa dPe dAo dArr dMp dPm dMap dCJ CtrG CtrI OpY keepPost iterPost bodyPostM roundQ
end Go.Proofs.Ytpnndljmhpepgaa

namespace Go.Proofs.Ytpnndljmhpepgaa
open Go Go.T Go.RowKit Go.Shelf
def rhoI : Ren := ⟨fun n => if n = 21 then 109 else if n = 27 then 133 else if n = 28 then 134 else if n = 35 then 149 else if n = 39 then 152 else n, fun n => n, fun n => n⟩
def putL (l : List Value) (o : Nat) (vs : List Value) : List Value := l.take o ++ vs ++ l.drop (o + vs.length)
def dPx (T : Nat) (cs : Array Value) (w : World) (M : Tags) (v : Value) : Prop := ∃ b, v = .slice (some ⟨b, 0, none⟩) cs.size cs.size ∧ M b = none ∧ w.heap[b]? = some (.cells cs T (0, 0))
def pxTy (T : Nat) (cs : Array Value) : Ty := { den := dPx T cs, mono := fun le _ _ ⟨b, e, h1, h2⟩ => let ⟨h3, h4⟩ := le.pub b (Array.getElem?_eq_some_iff.1 h2).1 h1; ⟨b, e, h3, h4.trans h2⟩ }
def ints (l : List Int) : List Value := l.map fun n => .int .i64 n
def InsDone (w w' : World) (v v' : Value) (l : List Value) : Prop :=
  w'.ownsRow 0 3 1 v' l.length l ∧ w.grownBy w' v.ownBlock ∧ (v'.ownBlock = v.ownBlock ∨ v'.ownBlock = some w.heap.size)
end Go.Proofs.Ytpnndljmhpepgaa

namespace Go.Proofs.Ytpnndljmhpepgaa
open Go Go.T Go.RowKit
section
variable {fr : Fr} {ops : Array Oper} {A : As} {rest : List Oper} {K : As → List (As × Fx) → Prop} {d : Nat} {t ty' : TypeId} {p : String} {e : Array Edge} {x y z : Operand}
end
end Go.Proofs.Ytpnndljmhpepgaa

namespace Go.Proofs.Ytpnndljmhpepgaa
open Go Go.T
set_option maxHeartbeats 2000000
attribute [local irreducible] dInt dBool dSl dPp dPtr dAgg dTup dClo dAny dEx dStr dGd dCells dVec dVs dRow dOp nth Tri Into TOps Ctr bodyPost Exit.then Exit.inBlock Code.wp Code.wpIn dWhen dPa dPe dAo dArr dMp dPm dMap dCJ CtrG CtrI OpY keepPost iterPost bodyPostM roundQ
end Go.Proofs.Ytpnndljmhpepgaa

namespace Go.Proofs.Ytpnndljmhpepgaa
open Go Go.T
theorem skAmong_in (s : Sk) {lo hi : Int} (h : lo ≤ hi) : lo ≤ skAmong s lo hi ∧ skAmong s lo hi ≤ hi := by
  have := skBelow_bound s (hi - lo + 1)
  unfold skAmong; omega
theorem right_check {b : Barn} (h : b.Right) : checkB b = 0 := by
  have hb := h.bins
  have h1 : manyB b = false := by
    unfold manyB
    rw [Bool.or_eq_false_iff, Bool.not_eq_false', inB_true, decide_eq_false_iff_not]
    have := h.lots; omega
  have h2 : rangeB b = false := by
    unfold rangeB
    rw [Bool.or_eq_false_iff, Bool.not_eq_false', Bool.not_eq_false', List.all_eq_true, List.all_eq_true]
    exact ⟨fun n hn => inB_true.2 (h.size n hn), fun l hl => inB_true.2 (h.sacks l hl)⟩
  have h3 : notB b = false := by
    unfold notB
    rw [Bool.not_eq_false', List.all_eq_true]
    intro l hl
    have e1 := h.inn l hl
    have e2 := h.aim l hl
    simp only [Bool.and_eq_true, Bool.or_eq_true, decide_eq_true_eq, Barn.bin, inB_true]
    omega
  have h4 : twiceB b = false := by
    unfold twiceB
    rw [any_range_false]
    intro i hi
    unfold twiceI
    rw [List.any_eq_false]
    intro x hx
    rw [List.mem_take_iff_getElem] at hx
    obtain ⟨k, hk, rfl⟩ := hx
    rw [← nth_lt]
    obtain ⟨e1, e2⟩ := h.apart i k (by omega) hi
    simp only [clashL, Bool.or_eq_true, Bool.and_eq_true, decide_eq_true_eq, Bool.not_eq_true', decide_eq_false_iff_not, not_or, not_and]
    exact ⟨e1, fun e => by have := e2 e; omega⟩
  have h5 : fullB b = false := by
    unfold fullB
    rw [any_range_false]
    intro i hi
    obtain ⟨e1, e2⟩ := h.holds i hi
    simp only [fullI, Barn.hold, Bool.or_eq_false_iff, Bool.not_eq_false', decide_eq_true_eq, Bool.and_eq_false_iff, Int.toNat_natCast]
    refine ⟨e1, ?_⟩
    by_cases e : (nth b.lots i).aim = -1
    · exact .inl e
    · exact .inr (e2 e)
  unfold checkB
  rw [if_neg (by rw [h1]; decide), if_neg (by rw [h2]; decide), if_neg (by rw [h3]; decide), if_neg (by rw [h4]; decide), if_neg (by rw [h5]; decide)]
def sizeUp (s : Sk) : Nat → List Int × Sk
  | 0 => ([], s)
  | k + 1 => ((sizeUp s k).1 ++ [skAmong (sizeUp s k).2 20 60], skNext (sizeUp s k).2)
theorem sizeUp_ok (s : Sk) : ∀ k, (sizeUp s k).1.length = k ∧ (∀ x ∈ (sizeUp s k).1, 20 ≤ x ∧ x ≤ 60) ∧ (sizeUp s k).2.taken = s.taken + k
  | 0 => ⟨rfl, fun x h => (by cases h), by simp [sizeUp]⟩
  | k + 1 => by
    obtain ⟨h1, h2, h3⟩ := sizeUp_ok s k
    refine ⟨by show ((sizeUp s k).1 ++ [_]).length = _; rw [List.length_append, h1]; rfl, fun x hx => ?_, by show (skNext _).taken = _; rw [skNext_taken, h3]; omega⟩
    rcases List.mem_append.1 (show x ∈ (sizeUp s k).1 ++ [skAmong (sizeUp s k).2 20 60] from hx) with hx | hx
    · exact h2 x hx
    · rw [List.mem_singleton.1 hx]; exact skAmong_in _ (by omega)
structure Md where
  s : Sk
  bins : Int
  lots : Int
def Md.n (d : Md) : Nat := (skAmong d.s 2 d.bins).toNat
def Md.up (d : Md) (k : Nat) : List Int × Sk := sizeUp (skNext d.s) k
def Md.sizes (d : Md) : List Int := (d.up d.n).1
def Md.many (d : Md) : Nat := (skBelow (d.up d.n).2 (min d.lots (d.n : Nat) + 1)).toNat
def Md.to (d : Md) : List Int × Sk := shufUp (skNext (d.up d.n).2) d.n
def Md.ks (d : Md) : List Int × Sk := shufUp d.to.2 d.n
def Md.aimV (d : Md) (s : Sk) (k : Nat) : Int := if skRare (skNext s) 4 = true then -1 else nth d.to.1 k
def Md.sackV (d : Md) (s : Sk) (k : Nat) : Int := skAmong s 1 (nth d.sizes (nth d.ks.1 k).toNat)
def Md.lotV (d : Md) (s : Sk) (k : Nat) : Lot := ⟨if d.aimV s k ≠ -1 ∧ nth d.sizes (d.aimV s k).toNat < d.sackV s k then nth d.sizes (d.aimV s k).toNat else d.sackV s k, nth d.ks.1 k, d.aimV s k⟩
def Md.lt (d : Md) : Nat → List Lot × Sk
  | 0 => ([], d.ks.2)
  | k + 1 => ((d.lt k).1 ++ [d.lotV (d.lt k).2 k], skNext (skNext (d.lt k).2))
def Md.barn (d : Md) : Barn := ⟨d.sizes, (d.lt d.many).1⟩
def Md.sk (d : Md) : Sk := (d.lt d.many).2
structure Md.Ok (d : Md) : Prop where
  bins : 2 ≤ d.bins ∧ d.bins ≤ 7
  lots : 0 ≤ d.lots ∧ d.lots ≤ 6
variable {d : Md}
theorem Md.n_in (h : d.Ok) : 2 ≤ d.n ∧ d.n ≤ 7 ∧ (d.n : Int) ≤ d.bins ∧ (d.n : Int) = skAmong d.s 2 d.bins := by
  have h1 := skAmong_in d.s h.bins.1
  have h2 := h.bins
  unfold Md.n; omega
theorem Md.sizes_ok (d : Md) : d.sizes.length = d.n ∧ (∀ x ∈ d.sizes, 20 ≤ x ∧ x ≤ 60) := ⟨(sizeUp_ok _ _).1, (sizeUp_ok _ _).2.1⟩
theorem Md.up_taken (d : Md) (k : Nat) : (d.up k).2.taken = d.s.taken + 1 + k := by
  have := (sizeUp_ok (skNext d.s) k).2.2
  rw [skNext_taken] at this; exact this
theorem Md.many_in (h : d.Ok) : d.many ≤ d.n ∧ (d.many : Int) ≤ d.lots ∧ (d.many : Int) = skBelow (d.up d.n).2 (min d.lots (d.n : Nat) + 1) := by
  have h1 := skBelow_bound (d.up d.n).2 (min d.lots (d.n : Nat) + 1)
  have h2 := h.lots
  unfold Md.many; omega
theorem Md.to_ok (d : Md) : d.to.1.length = d.n ∧ d.to.1.Nodup ∧ (∀ x ∈ d.to.1, 0 ≤ x ∧ x < (d.n : Int)) ∧ d.to.2.taken = d.s.taken + 2 + 2 * d.n := by
  obtain ⟨h1, h2, h3, h4⟩ := shuf_spec (skNext (d.up d.n).2) d.n
  refine ⟨h1, h2, fun x hx => (h3 x).1 hx, ?_⟩
  show (shufUp _ _).2.taken = _
  rw [h4, skNext_taken, d.up_taken]; omega
theorem Md.ks_ok (d : Md) : d.ks.1.length = d.n ∧ d.ks.1.Nodup ∧ (∀ x ∈ d.ks.1, 0 ≤ x ∧ x < (d.n : Int)) ∧ d.ks.2.taken = d.s.taken + 2 + 3 * d.n := by
  obtain ⟨h1, h2, h3, h4⟩ := shuf_spec d.to.2 d.n
  refine ⟨h1, h2, fun x hx => (h3 x).1 hx, ?_⟩
  show (shufUp _ _).2.taken = _
  rw [h4, d.to_ok.2.2.2]; omega
theorem Md.lt_len (d : Md) : ∀ k, (d.lt k).1.length = k ∧ (d.lt k).2.taken = d.s.taken + 2 + 3 * d.n + 2 * k
  | 0 => ⟨rfl, by show d.ks.2.taken = _; rw [d.ks_ok.2.2.2]; simp⟩
  | k + 1 => by
    obtain ⟨h1, h2⟩ := d.lt_len k
    refine ⟨by show ((d.lt k).1 ++ [_]).length = _; rw [List.length_append, h1]; rfl, ?_⟩
    show (skNext (skNext _)).taken = _
    rw [skNext_taken, skNext_taken, h2]; omega
theorem Md.lt_nth (d : Md) : ∀ k i, i < k → nth (d.lt k).1 i = d.lotV (d.lt i).2 i
  | 0, i, h => by omega
  | k + 1, i, h => by
    have hl := (d.lt_len k).1
    show nth ((d.lt k).1 ++ [d.lotV (d.lt k).2 k]) i = _
    unfold nth
    by_cases e : i < k
    · rw [List.getD_eq_getElem?_getD, List.getElem?_append_left (by omega), ← List.getD_eq_getElem?_getD]
      exact d.lt_nth k i e
    · have e : i = k := by omega
      subst e
      rw [List.getD_eq_getElem?_getD, List.getElem?_append_right (by omega), hl]; simp
theorem Md.size_at (d : Md) {x : Int} (h : 0 ≤ x ∧ x < (d.n : Int)) : 20 ≤ nth d.sizes x.toNat ∧ nth d.sizes x.toNat ≤ 60 := d.sizes_ok.2 _ (nth_mem (by rw [d.sizes_ok.1]; omega))
theorem nodup_nth {l : List Int} (h : l.Nodup) {i k : Nat} (hi : i < l.length) (hk : k < l.length) (e : nth l i = nth l k) : i = k := by
  rw [nth_lt hi, nth_lt hk] at e
  rw [List.nodup_iff_pairwise_ne, List.pairwise_iff_getElem] at h
  rcases Nat.lt_trichotomy i k with c | c | c
  · exact absurd e (h i k hi hk c)
  · exact c
  · exact absurd e.symm (h k i hk hi c)
theorem Md.lot_ok (d : Md) (s : Sk) {k : Nat} (hk : k < d.n) : (0 ≤ nth d.ks.1 k ∧ nth d.ks.1 k < (d.n : Int)) ∧ (d.aimV s k = -1 ∨ (d.aimV s k = nth d.to.1 k ∧ 0 ≤ nth d.to.1 k ∧ nth d.to.1 k < (d.n : Int))) ∧ 1 ≤ d.sackV s k ∧ d.sackV s k ≤ nth d.sizes (nth d.ks.1 k).toNat := by
  have h1 := d.ks_ok.2.2.1 _ (nth_mem (xs := d.ks.1) (k := k) (by rw [d.ks_ok.1]; exact hk))
  have h2 := d.to_ok.2.2.1 _ (nth_mem (xs := d.to.1) (k := k) (by rw [d.to_ok.1]; exact hk))
  have h3 := d.size_at h1
  refine ⟨h1, ?_, ?_⟩
  · unfold Md.aimV
    by_cases e : skRare (skNext s) 4 = true
    · exact .inl (if_pos e)
    · exact .inr ⟨if_neg e, h2⟩
  · exact skAmong_in s (by omega)
theorem Md.right (h : d.Ok) : d.barn.Right := by
  have hn := d.n_in h
  have hm := d.many_in h
  have hs := d.sizes_ok
  have hl := (d.lt_len d.many).1
  have hlots : d.barn.lots.length = d.many := hl
  have hsz : d.barn.sizes.length = d.n := hs.1
  have key : ∀ l ∈ d.barn.lots, ∃ i, i < d.many ∧ l = d.lotV (d.lt i).2 i := fun l hl' => by
    obtain ⟨i, hi, rfl⟩ := mem_nth hl'
    rw [hlots] at hi
    exact ⟨i, hi, d.lt_nth _ i hi⟩
  have hlo := h.lots
  have hsack : ∀ i, i < d.many → 1 ≤ (d.lotV (d.lt i).2 i).sacks ∧ (d.lotV (d.lt i).2 i).sacks ≤ nth d.sizes (nth d.ks.1 i).toNat ∧ ((d.lotV (d.lt i).2 i).aim ≠ -1 → (d.lotV (d.lt i).2 i).sacks ≤ nth d.sizes (d.lotV (d.lt i).2 i).aim.toNat) := fun i hi => by
    obtain ⟨e1, e2, e3, e4⟩ := d.lot_ok (d.lt i).2 (k := i) (by omega)
    unfold Md.lotV
    show 1 ≤ ite _ _ _ ∧ ite _ _ _ ≤ _ ∧ (d.aimV _ _ ≠ -1 → ite _ _ _ ≤ _)
    by_cases c : d.aimV (d.lt i).2 i ≠ -1 ∧ nth d.sizes (d.aimV (d.lt i).2 i).toNat < d.sackV (d.lt i).2 i
    · rw [if_pos c]
      rcases e2 with e2 | ⟨e2, e5⟩
      · exact absurd e2 c.1
      · have := d.size_at (x := d.aimV (d.lt i).2 i) (by omega)
        exact ⟨by omega, by omega, fun _ => Int.le_refl _⟩
    · rw [if_neg c]
      refine ⟨e3, e4, fun hne => ?_⟩
      show d.sackV (d.lt i).2 i ≤ nth d.sizes (d.aimV (d.lt i).2 i).toNat
      · by_cases c2 : nth d.sizes (d.aimV (d.lt i).2 i).toNat < d.sackV (d.lt i).2 i
        · exact absurd ⟨hne, c2⟩ c
        · omega
  refine ⟨by omega, by omega, fun x hx => by have := hs.2 x hx; omega, fun l hl' => ?_, fun l hl' => ?_, fun l hl' => ?_, fun i k hk hi => ?_, fun i hi => ?_⟩
  · obtain ⟨i, hi, rfl⟩ := key l hl'
    have h1 := hsack i hi
    have h2 := d.size_at (d.lot_ok (d.lt i).2 (k := i) (by omega)).1
    omega
  · obtain ⟨i, hi, rfl⟩ := key l hl'
    have h2 := (d.lot_ok (d.lt i).2 (k := i) (by omega)).1
    show 0 ≤ nth d.ks.1 i ∧ nth d.ks.1 i < _
    rw [hsz]; exact h2
  · obtain ⟨i, hi, rfl⟩ := key l hl'
    have h2 := (d.lot_ok (d.lt i).2 (k := i) (by omega)).2.1
    show -1 ≤ d.aimV _ _ ∧ d.aimV _ _ < _
    rw [hsz]; omega
  · rw [hlots] at hi
    have e1 : nth d.barn.lots i = d.lotV (d.lt i).2 i := d.lt_nth _ i hi
    have e2 : nth d.barn.lots k = d.lotV (d.lt k).2 k := d.lt_nth _ k (by omega)
    rw [e1, e2]
    refine ⟨fun e => ?_, fun e => ?_⟩
    · have := nodup_nth d.ks_ok.2.1 (i := i) (k := k) (by rw [d.ks_ok.1]; omega) (by rw [d.ks_ok.1]; omega) e
      omega
    · have e : d.aimV (d.lt i).2 i = d.aimV (d.lt k).2 k := e
      show d.aimV (d.lt i).2 i = -1
      rcases (d.lot_ok (d.lt i).2 (k := i) (by omega)).2.1 with h1 | ⟨h1, h1'⟩
      · exact h1
      · rcases (d.lot_ok (d.lt k).2 (k := k) (by omega)).2.1 with h2 | ⟨h2, h2'⟩
        · omega
        · have := nodup_nth d.to_ok.2.1 (i := i) (k := k) (by rw [d.to_ok.1]; omega) (by rw [d.to_ok.1]; omega) (by omega)
          omega
  · rw [hlots] at hi
    have e1 : nth d.barn.lots i = d.lotV (d.lt i).2 i := d.lt_nth _ i hi
    rw [e1]
    exact ⟨(hsack i hi).2.1, (hsack i hi).2.2⟩
end Go.Proofs.Ytpnndljmhpepgaa

namespace Go.Proofs.Ytpnndljmhpepgaa
open Go Go.T
set_option maxHeartbeats 4000000
attribute [local irreducible] dInt dBool dSl dPp dPtr dAgg dTup dClo dAny dEx dStr dGd dCells dVec dVs dRow dOp nth Tri Into TOps Ctr bodyPost Exit.then Exit.inBlock Code.wp Code.wpIn dWhen dPa dPe dAo dArr dMp dPm dMap dCJ CtrG CtrI OpY keepPost iterPost bodyPostM roundQ
attribute [local irreducible] Md.up Md.to Md.ks Md.lt Md.aimV Md.sackV shufUp Md.n Md.many Md.sizes
end Go.Proofs.Ytpnndljmhpepgaa

namespace Go.T
open Go Go.RowKit
section
variable {P : Program} {fr : Fr} {ops : Array Oper} {A : As} {rest : List Oper} {K : As → List (As × Fx) → Prop} {d : Nat} {t : TypeId} {p : String} {e : Array Edge}
end
end Go.T

namespace Go.Proofs.Ytpnndljmhpepgaa
open Go Go.T
def innL (b : Barn) : List Int := b.lots.map fun l => l.inn
def noT (b : Barn) (p : List Int) (t : Tur) : Bool := decide (t.lot < 0) || decide (t.lot ≥ p.length) || decide (t.aim < 0) || decide (t.aim ≥ b.sizes.length) || decide (t.aim ∈ p) || decide (nth b.sizes t.aim.toNat < (nth b.lots t.lot.toNat).sacks)
theorem noT_false {b : Barn} {p : List Int} {t : Tur} : noT b p t = false ↔ (0 ≤ t.lot ∧ t.lot < p.length) ∧ (0 ≤ t.aim ∧ t.aim < b.sizes.length) ∧ t.aim ∉ p ∧ (nth b.lots t.lot.toNat).sacks ≤ nth b.sizes t.aim.toNat := by
  unfold noT
  simp only [Bool.or_eq_false_iff, decide_eq_false_iff_not]
  constructor
  · rintro ⟨⟨⟨⟨⟨h1, h2⟩, h3⟩, h4⟩, h5⟩, h6⟩; exact ⟨by omega, by omega, h5, by omega⟩
  · rintro ⟨h1, h2, h3, h4⟩; exact ⟨⟨⟨⟨⟨by omega, by omega⟩, by omega⟩, by omega⟩, h3⟩, by omega⟩
def lawGo (b : Barn) : List Int → List Tur → Option (List Int)
  | p, [] => some p
  | p, t :: l => if noT b p t = true then none else lawGo b (p.set t.lot.toNat t.aim) l
def lawV (b : Barn) (plan : List Tur) : List Int × Bool := match lawGo b (innL b) plan with
  | some p => (p, true)
  | none => ([], false)
structure LIx (b : Barn) (plan : List Tur) (k : Nat) (p : List Int) : Prop where
  same : lawGo b (innL b) plan = lawGo b p (plan.drop k)
  len : p.length = b.lots.length
  le : k ≤ plan.length
section
variable {b : Barn} {plan : List Tur} {k : Nat} {p : List Int}
theorem LIx.end (h : LIx b plan k p) (hk : plan.length ≤ k) : lawV b plan = (p, true) := by
  unfold lawV
  rw [h.same, List.drop_of_length_le hk]; rfl
end
theorem takenP_not {b : Barn} {P : Pl} {x : Int} : takenP b P x = false ↔ x ∉ P.1.take b.lots.length := by
  unfold takenP; rw [List.any_eq_false]; simp only [decide_eq_true_eq]
  exact ⟨fun h hm => h _ hm rfl, fun h y hy e => h (e ▸ hy)⟩
theorem noT_turns {b : Barn} {P : Pl} (h6 : b.lots.length ≤ 6) {t : Tur} : noT b (P.1.take b.lots.length) t = false ↔ t ∈ turnsL b P := by
  rw [noT_false, mem_turnsL]
  have hl : (P.1.take b.lots.length).length = b.lots.length := by rw [List.length_take, P.2]; omega
  rw [hl, takenP_not]; unfold Barn.hold; rw [decide_eq_true_eq]
  constructor
  · rintro ⟨⟨h1, h2⟩, ⟨h3, h4⟩, h5, h6⟩; exact ⟨h1, h2, h3, h4, h5, h6⟩
  · rintro ⟨h1, h2, h3, h4, h5, h6⟩; exact ⟨⟨h1, h2⟩, ⟨h3, h4⟩, h5, h6⟩
theorem set_take {P : Pl} {t : Tur} {n : Nat} : (P.1.take n).set t.lot.toNat t.aim = (moved P t).1.take n := by
  unfold moved; rw [List.take_set]
theorem go_law {b : Barn} (h6 : b.lots.length ≤ 6) : ∀ (l : List Tur) (P : Pl), lawGo b (P.1.take b.lots.length) l = (goP b P l).map fun q => q.1.take b.lots.length
  | [], P => rfl
  | t :: l, P => by
    show (if noT b (P.1.take b.lots.length) t = true then none else lawGo b ((P.1.take b.lots.length).set t.lot.toNat t.aim) l) = Option.map _ (if t ∈ turnsL b P then goP b (moved P t) l else none)
    by_cases h : t ∈ turnsL b P
    · rw [if_pos h, if_neg (by rw [(noT_turns h6).2 h]; decide), set_take, go_law h6 l]
    · rw [if_neg h, if_pos (by
        cases e : noT b (P.1.take b.lots.length) t with
        | true => rfl
        | false => exact absurd ((noT_turns h6).1 e) h)]; rfl
theorem first_inn {b : Barn} (h6 : b.lots.length ≤ 6) : (firstP b).1.take b.lots.length = innL b := by
  unfold firstP innL
  show List.take _ (List.take 6 _) = _
  rw [List.take_take, Nat.min_eq_left h6, List.take_append_of_le_length (by simp)]
  exact List.take_of_length_le (by simp)
theorem law_go {b : Barn} (h6 : b.lots.length ≤ 6) (l : List Tur) : lawGo b (innL b) l = (goP b (firstP b) l).map fun q => q.1.take b.lots.length := by rw [← first_inn h6, go_law h6]
theorem lawV_some {b : Barn} (h6 : b.lots.length ≤ 6) {l : List Tur} {q : Pl} (h : goP b (firstP b) l = some q) : lawV b l = (q.1.take b.lots.length, true) := by
  unfold lawV; rw [law_go h6, h]; rfl
theorem lawV_none {b : Barn} (h6 : b.lots.length ≤ 6) {l : List Tur} (h : goP b (firstP b) l = none) : lawV b l = ([], false) := by
  unfold lawV; rw [law_go h6, h]; rfl
def okI (b : Barn) (p : List Int) (i : Nat) : Bool := decide ((nth b.lots i).aim = -1) || decide ((nth b.lots i).aim = nth p i)
def isUp (b : Barn) (plan : List Tur) (k : Nat) : Bool := (lawV b plan).2 && (List.range k).all (okI b (lawV b plan).1)
def rightV (b : Barn) (plan : List Tur) : Bool := isUp b plan (lawV b plan).1.length
theorem nth_take {l : List Int} {n i : Nat} (h : i < n) : nth (l.take n) i = nth l i := by
  unfold nth; rw [List.getD_eq_getElem?_getD, List.getD_eq_getElem?_getD, List.getElem?_take_of_lt h]
theorem right_iff {b : Barn} (h6 : b.lots.length ≤ 6) {l : List Tur} : rightV b l = true ↔ ∃ q, goP b (firstP b) l = some q ∧ madeP b q = true := by
  unfold rightV isUp
  cases h : goP b (firstP b) l with
  | none => rw [lawV_none h6 h]; exact ⟨(fun h => by cases h), fun ⟨_, h, _⟩ => by cases h⟩
  | some q =>
    rw [lawV_some h6 h]
    have hl : (q.1.take b.lots.length).length = b.lots.length := by rw [List.length_take, q.2]; omega
    have e : (true && (List.range (q.1.take b.lots.length).length).all (okI b (q.1.take b.lots.length))) = madeP b q := by
      rw [hl, Bool.true_and]
      unfold madeP
      rw [Bool.eq_iff_iff, List.all_eq_true, List.all_eq_true]
      have key : ∀ i, i ∈ List.range b.lots.length → okI b (q.1.take b.lots.length) i = (decide ((nth b.lots i).aim = -1) || decide ((nth b.lots i).aim = nth q.1 i)) := fun i hi => by
        unfold okI; rw [nth_take (List.mem_range.1 hi)]
      exact ⟨fun H i hi => by rw [← key i hi]; exact H i hi, fun H i hi => by rw [key i hi]; exact H i hi⟩
    show (true && _) = true ↔ _
    rw [e]
    exact ⟨fun h => ⟨q, rfl, h⟩, fun ⟨q', h1, h2⟩ => by injection h1 with h1; rw [h1]; exact h2⟩
def tryT (b : Barn) (s : Sk) : Tur := ⟨skBelow s b.lots.length, skBelow (skNext s) b.sizes.length⟩
def walkS (b : Barn) (s : Sk) : Nat → List Tur × Sk
  | 0 => ([], s)
  | k + 1 => (if (lawV b ((walkS b s k).1 ++ [tryT b (walkS b s k).2])).2 = true then (walkS b s k).1 ++ [tryT b (walkS b s k).2] else (walkS b s k).1, skNext (skNext (walkS b s k).2))
def walkN (s : Sk) (most : Int) : Nat := (skBelow s (most + 1)).toNat
def walkP (b : Barn) (s : Sk) (most : Int) : List Tur := (walkS b (skNext s) (walkN s most)).1
def walkE (b : Barn) (s : Sk) (most : Int) : Sk := (walkS b (skNext s) (walkN s most)).2
structure WalkOk (b : Barn) (s : Sk) (most : Int) (l : List Tur) (e : Sk) : Prop where
  len : (l.length : Int) ≤ most
  taken : s.taken ≤ e.taken ∧ e.taken ≤ s.taken + 1 + 2 * most
  ok : (lawV b l).2 = true
end Go.Proofs.Ytpnndljmhpepgaa

namespace Go.Proofs.Ytpnndljmhpepgaa
open Go Go.T
set_option maxHeartbeats 4000000
def innU (b : Barn) (k : Nat) : List Int := (b.lots.take k).map fun l => l.inn
attribute [local irreducible] dInt dBool dSl dPp dPtr dAgg dTup dClo dAny dEx dStr dGd dCells dVec dVs dRow dOp nth Tri Into TOps Ctr bodyPost Exit.then Exit.inBlock Code.wp Code.wpIn dWhen dPa dPe dAo dArr dMp dPm dMap dCJ CtrG CtrI OpY keepPost iterPost bodyPostM roundQ
end Go.Proofs.Ytpnndljmhpepgaa

namespace Go.Proofs.Ytpnndljmhpepgaa
open Go Go.T
def apartP (b : Barn) (p : Pl) : Prop := ∀ i k, i < b.lots.length → k < b.lots.length → nth p.1 i = nth p.1 k → i = k
theorem goP_cons {b : Barn} {p q : Pl} {t : Tur} {l : List Tur} (h : goP b p (t :: l) = some q) : t ∈ turnsL b p ∧ goP b (moved p t) l = some q := by
  have h : (if t ∈ turnsL b p then goP b (moved p t) l else none) = some q := h
  by_cases hu : t ∈ turnsL b p
  · rw [if_pos hu] at h; exact ⟨hu, h⟩
  · rw [if_neg hu] at h; cases h
theorem goP_cons' {b : Barn} {p : Pl} {t : Tur} {l : List Tur} (h : t ∈ turnsL b p) : goP b p (t :: l) = goP b (moved p t) l := if_pos h
theorem made_at {b : Barn} {q : Pl} (h : madeP b q = true) {i : Nat} (hi : i < b.lots.length) : (nth b.lots i).aim = -1 ∨ (nth b.lots i).aim = nth q.1 i := by
  unfold madeP at h
  have := List.all_eq_true.1 h i (List.mem_range.2 hi)
  simpa using this
theorem filtUp_nodup (p : Nat → Bool) (n : Nat) : (filtUp p n).Nodup := by
  unfold filtUp
  rw [List.nodup_iff_pairwise_ne, List.pairwise_map]
  have h : ((List.range n).filter p).Pairwise fun a c => a ≠ c := List.Pairwise.filter _ (List.nodup_iff_pairwise_ne.1 List.nodup_range)
  exact h.imp fun hne e => hne (by omega)
structure Cheap (b : Barn) (c : Tur → Int) (e : Int) (l : List Tur) (n : Int) : Prop where
  err : e = 0 ∨ e = 7
  yes : e = 0 → rightV b l = true ∧ costL c l = n ∧ ∀ x, rightV b x = true → n ≤ costL c x
  no : e = 7 → l = [] ∧ n = 0 ∧ ∀ x, rightV b x = false
theorem cheap {b : Barn} {c : Tur → Int} (hr : b.Right) (hc : CostOk b c) : Cheap b c (planE b c) (planR b c) (costR b c) := by
  have h0 := right_check hr
  have hp := plan_spec hr hc
  have h6 := hr.lots
  unfold planE planR costR
  rw [if_pos h0, if_pos h0, if_pos h0]
  cases hi : (searchM b c false).is with
  | true =>
    rw [if_pos rfl]
    refine ⟨.inl rfl, fun _ => ?_, fun e => by cases e⟩
    obtain ⟨q, h1, h2, h3, h4⟩ := hp.yes hi
    refine ⟨(right_iff h6).2 ⟨q, h1, h2⟩, h3, fun x hx => ?_⟩
    obtain ⟨q', g1, g2⟩ := (right_iff h6).1 hx
    exact h4 x q' g1 g2
  | false =>
    rw [if_neg (by decide)]
    refine ⟨.inr rfl, (fun e => by cases e), fun _ => ⟨if_neg (by rw [hi]; decide), if_neg (by rw [hi]; decide), fun x => ?_⟩⟩
    rw [Bool.eq_false_iff]; intro hx
    obtain ⟨q', g1, g2⟩ := (right_iff h6).1 hx
    have := hp.no hi x q' g1
    rw [g2] at this; cases this
theorem cost_one (l : List Tur) : costL oneC l = l.length := by
  unfold costL oneC
  induction l with
  | nil => rfl
  | cons t l ih => rw [List.map_cons, List.sum_cons, ih, List.length_cons]; omega
def leastUp (b : Barn) (l : List Int) (k : Nat) : Int := ((l.take k).map fun (i : Int) => (nth b.lots i.toNat).sacks).sum
end Go.Proofs.Ytpnndljmhpepgaa

namespace Go.Proofs.Ytpnndljmhpepgaa
open Go Go.T
set_option maxHeartbeats 4000000
def walksE (b : Barn) (s : Sk) (most : Int) : Nat → Sk
  | 0 => s
  | k + 1 => walkE b (walksE b s most k) most
attribute [local irreducible] planR planE costR walkP walkE sumUp leastUp rightV mustL checkB
attribute [local irreducible] dInt dBool dSl dPp dPtr dAgg dTup dClo dAny dEx dStr dGd dCells dVec dVs dRow dOp nth Tri Into TOps Ctr bodyPost Exit.then Exit.inBlock Code.wp Code.wpIn dWhen dPa dPe dAo dArr dMp dPm dMap dCJ CtrG CtrI OpY keepPost iterPost bodyPostM roundQ
end Go.Proofs.Ytpnndljmhpepgaa

namespace Go.Proofs.Ytpnndljmhpepgaa
open Go Go.T
variable {b : Barn} {g : Int}
theorem goR_cons {p q : Pl} {l : List Tur} {rs : List (List Tur)} (h : goR b g p (l :: rs) = some q) : l ∈ allR b p g ∧ goR b g (movedAll p l) rs = some q := by
  have h : (if l ∈ allR b p g then goR b g (movedAll p l) rs else none) = some q := h
  by_cases hu : l ∈ allR b p g
  · rw [if_pos hu] at h; exact ⟨hu, h⟩
  · rw [if_neg hu] at h; cases h
theorem goR_cons' {p : Pl} {l : List Tur} {rs : List (List Tur)} (h : l ∈ allR b p g) : goR b g p (l :: rs) = goR b g (movedAll p l) rs := if_pos h
theorem goR_flat (h6 : b.lots.length ≤ 6) (hg : 0 ≤ g) : ∀ (rs : List (List Tur)) {p q : Pl}, goR b g p rs = some q → goP b p rs.flatten = some q
  | [], p, q, h => h
  | l :: rs, p, q, h => by
    obtain ⟨h1, h2⟩ := goR_cons h
    rw [List.flatten_cons, goP_append, round_go h6 l ((mem_allR hg).1 h1)]
    exact goR_flat h6 hg rs h2
theorem one_round {p : Pl} {t : Tur} (hg : 1 ≤ g) (h : t ∈ turnsL b p) : [t] ∈ allR b p g := by
  rw [mem_allR (by omega)]
  have := mem_turnsL.1 h
  refine ⟨by simpa using hg, fun u hu => ?_, List.pairwise_singleton _ _⟩
  rw [List.mem_singleton.1 hu]
  exact ⟨⟨this.1, this.2.1⟩, ⟨this.2.2.1, this.2.2.2.1⟩, this.2.2.2.2.1, this.2.2.2.2.2⟩
theorem goR_singles (hg : 1 ≤ g) : ∀ (l : List Tur) {p q : Pl}, goP b p l = some q → goR b g p (l.map fun t => [t]) = some q
  | [], p, q, h => h
  | t :: l, p, q, h => by
    obtain ⟨h1, h2⟩ := goP_cons h
    rw [List.map_cons, goR_cons' (one_round hg h1)]
    exact goR_singles hg l h2
theorem goR_rows (hg : 0 ≤ g) : ∀ (rs : List (List Tur)) {p q : Pl}, goR b g p rs = some q → ∀ l ∈ rs, (l.length : Int) ≤ g
  | [], p, q, _, l, hl => by cases hl
  | r :: rs, p, q, h, l, hl => by
    obtain ⟨h1, h2⟩ := goR_cons h
    rcases List.mem_cons.1 hl with rfl | hl
    · exact ((mem_allR hg).1 h1).len
    · exact goR_rows hg rs h2 l hl
theorem flat_le (hg : 0 ≤ g) : ∀ (rs : List (List Tur)), (∀ l ∈ rs, (l.length : Int) ≤ g) → (rs.flatten.length : Int) ≤ rs.length * g
  | [], _ => by simp
  | l :: rs, h => by
    have h1 := h l List.mem_cons_self
    have h2 := flat_le hg rs fun r hr => h r (List.mem_cons_of_mem _ hr)
    rw [List.flatten_cons, List.length_append, List.length_cons]
    have e : (((rs.length + 1 : Nat) : Int)) * g = rs.length * g + g := by rw [Int.natCast_add, Int.add_mul]; simp
    rw [e]; omega
structure Rnds (b : Barn) (g e : Int) (rs : List (List Tur)) : Prop where
  err : e = 0 ∨ e = 7
  yes : e = 0 → ∃ q, goR b g (firstP b) rs = some q ∧ madeP b q = true ∧ ∀ rs' q', goR b g (firstP b) rs' = some q' → madeP b q' = true → rs.length ≤ rs'.length
  no : e = 7 → rs = [] ∧ ∀ rs' q, goR b g (firstP b) rs' = some q → madeP b q = false
section
variable {e e' n : Int} {l : List Tur} {rs rs' : List (List Tur)}
theorem Rnds.same (h : Rnds b g e' rs) (h6 : b.lots.length ≤ 6) (hg : 1 ≤ g) (hc : Cheap b oneC e l n) : e' = e := by
  rcases h.err with rfl | rfl
  · rcases hc.err with rfl | rfl
    · rfl
    · obtain ⟨q, h1, h2, _⟩ := h.yes rfl
      have := (hc.no rfl).2.2 rs.flatten
      rw [(right_iff h6).2 ⟨q, goR_flat h6 (by omega) rs h1, h2⟩] at this; cases this
  · rcases hc.err with rfl | rfl
    · obtain ⟨q, h1, h2⟩ := (right_iff h6).1 (hc.yes rfl).1
      have := (h.no rfl).2 _ q (goR_singles hg l h1)
      rw [h2] at this; cases this
    · rfl
theorem Rnds.right (h : Rnds b g 0 rs) (h6 : b.lots.length ≤ 6) (hg : 1 ≤ g) : rightV b rs.flatten = true := by
  obtain ⟨q, h1, h2, _⟩ := h.yes rfl
  exact (right_iff h6).2 ⟨q, goR_flat h6 (by omega) rs h1, h2⟩
theorem Rnds.few (h : Rnds b g 0 rs) (h6 : b.lots.length ≤ 6) (hg : 1 ≤ g) (hc : Cheap b oneC 0 l n) : n ≤ rs.length * g ∧ (rs.length : Int) ≤ n := by
  obtain ⟨q, h1, h2, h3⟩ := h.yes rfl
  obtain ⟨c1, c2, c3⟩ := hc.yes rfl
  rw [cost_one] at c2
  constructor
  · have h4 := c3 _ (h.right h6 hg)
    rw [cost_one] at h4
    have := flat_le (by omega) rs (goR_rows (by omega) rs h1)
    omega
  · obtain ⟨q', g1, g2⟩ := (right_iff h6).1 c1
    have := h3 _ q' (goR_singles hg l g1) g2
    rw [List.length_map] at this; omega
end
def listsM (m : Nat) : Nat → List (List Int)
  | 0 => [[]]
  | n + 1 => (List.range m).flatMap fun (k : Nat) => (listsM m n).map fun l => (k : Int) :: l
def ordB (l : List Tur) : Bool := (List.range (l.length - 1)).any fun i => decide ((nth l (i + 1)).lot ≤ (nth l i).lot)
def twI (b : Barn) (p : Pl) (l : List Tur) (i : Nat) : Bool := takenP b p (nth l i).aim || (l.take i).any fun u => decide (u.aim = (nth l i).aim)
def twB (b : Barn) (p : Pl) (l : List Tur) : Bool := (List.range l.length).any fun i => twI b p l i
def roundE (b : Barn) (p : Pl) (g : Int) (l : List Tur) : Int :=
  if (!l.all fun t => b.lot t.lot && b.bin t.aim) = true then 1 else if ordB l = true then 4 else if twB b p l = true then 5 else if (!l.all fun t => b.hold t.aim t.lot) = true then 9 else if (l.length : Int) > g then 2 else 0
def worksGo (b : Barn) (g : Int) : Pl → List (List Tur) → Bool × Int
  | p, [] => (madeP b p, 0)
  | p, l :: rs => if roundE b p g l = 0 then worksGo b g (movedAll p l) rs else (false, roundE b p g l)
def worksV (b : Barn) (g : Int) (rs : List (List Tur)) : Bool × Int := if askE b g = 0 then if (rs.length : Int) > 6000 then (false, 2) else worksGo b g (firstP b) rs else (false, askE b g)
structure WIx (b : Barn) (g : Int) (rs : List (List Tur)) (k : Nat) (p : Pl) : Prop where
  same : worksGo b g (firstP b) rs = worksGo b g p (rs.drop k)
  le : k ≤ rs.length
theorem WIx.end {rs : List (List Tur)} {k : Nat} {p : Pl} (h : WIx b g rs k p) (hk : rs.length ≤ k) : worksGo b g (firstP b) rs = (madeP b p, 0) := by
  rw [h.same, List.drop_of_length_le hk]; rfl
end Go.Proofs.Ytpnndljmhpepgaa

namespace Go.Proofs.Ytpnndljmhpepgaa
open Go Go.T
def putP (b : Barn) (p : Pl) : Barn := ⟨b.sizes, (List.range b.lots.length).map fun i => ⟨(nth b.lots i).sacks, nth p.1 i, (nth b.lots i).aim⟩⟩
variable {b : Barn} {p q : Pl} {t : Tur}
def backL : Pl → List Tur → List Tur
  | _, [] => []
  | p, t :: l => ⟨t.lot, nth p.1 t.lot.toNat⟩ :: backL (moved p t) l
structure VP (b : Barn) (p : Pl) : Prop where
  apart : apartP b p
  named : ∀ i, i < b.lots.length → 0 ≤ nth p.1 i ∧ nth p.1 i < b.sizes.length
  holds : ∀ i, i < b.lots.length → (nth b.lots i).sacks ≤ nth b.sizes (nth p.1 i).toNat
theorem places_of {c : Barn} (hr : c.Right) {L : List Pl} (hn : L.Nodup) (h : ∀ r, r ∈ L ↔ ∃ l, goP c (firstP c) l = some r) : placesV c = (L.length : Nat) := by
  unfold placesV
  rw [if_pos (right_check hr)]
  obtain ⟨hs, _⟩ := search_spec hr (one_ok c) true
  have hw := (hs.whole rfl).2
  have e1 := nodup_sub hs.keys (L := L) fun r hr' => by
    obtain ⟨w, hw'⟩ := mem_mget hr'
    obtain ⟨l, hl, _⟩ := hs.walk r w hw'
    exact (h r).2 ⟨l, hl⟩
  have e2 := nodup_sub hn (L := (searchM c oneC true).ways.map Prod.fst) fun r hr' => by
    obtain ⟨l, hl⟩ := (h r).1 hr'
    obtain ⟨w, hw'⟩ := hw l r hl
    exact mget_some_mem hw'
  rw [List.length_map] at e1 e2
  congr 1
  omega
theorem reached (hr : b.Right) : ∃ L : List Pl, L.Nodup ∧ (∀ r, r ∈ L ↔ ∃ l, goP b (firstP b) l = some r) ∧ placesV b = (L.length : Nat) := by
  obtain ⟨hs, _⟩ := search_spec hr (one_ok b) true
  have hw := (hs.whole rfl).2
  have h : ∀ r, r ∈ (searchM b oneC true).ways.map Prod.fst ↔ ∃ l, goP b (firstP b) l = some r := fun r => by
    constructor
    · intro hr'
      obtain ⟨w, hw'⟩ := mem_mget hr'
      obtain ⟨l, hl, _⟩ := hs.walk r w hw'
      exact ⟨l, hl⟩
    · rintro ⟨l, hl⟩
      obtain ⟨w, hw'⟩ := hw l r hl
      exact mget_some_mem hw'
  exact ⟨_, hs.keys, h, places_of hr hs.keys h⟩
structure Backs (b : Barn) (plan : List Tur) (a : Barn) (back : List Tur) (p : List Int) : Prop where
  done : doneV b plan = (a, back, 0)
  home : doneV a back = (b, plan, 0)
  right : a.Right
  cost : costL (sackC a) back = costL (sackC b) plan
  ok : (lawV a back).2 = true
  at_ : lawV b plan = (p, true)
  sizes : a.sizes = b.sizes
  len : a.lots.length = b.lots.length
  plen : p.length = b.lots.length
  lot : ∀ i, i < b.lots.length → nth a.lots i = ⟨(nth b.lots i).sacks, nth p i, (nth b.lots i).aim⟩
  places : placesV a = placesV b
  one : 1 ≤ placesV b
  makes : makesB b plan = rightV b plan
  few : ∀ e l n e' l' n', Cheap b oneC e l n → Cheap a oneC e' l' n' → e = e' ∧ (e = 0 → n ≤ n' + plan.length ∧ n' ≤ n + plan.length)
end Go.Proofs.Ytpnndljmhpepgaa

namespace Go.Proofs.Ytpnndljmhpepgaa
open Go Go.T
def widerB (b : Barn) (n : Int) : Barn := ⟨b.sizes ++ [n], b.lots⟩
def looserB (b : Barn) (i : Nat) : Barn := ⟨b.sizes, b.lots.set i ⟨(nth b.lots i).sacks, (nth b.lots i).inn, -1⟩⟩
variable {b : Barn} {n : Int} {i : Nat}
theorem nth_left {l : List Int} (h : i < l.length) : nth (l ++ [n]) i = nth l i := by
  unfold nth; rw [List.getD_eq_getElem?_getD, List.getD_eq_getElem?_getD, List.getElem?_append_left h]
theorem wider_len (b : Barn) (n : Int) : (widerB b n).sizes.length = b.sizes.length + 1 := by
  show (b.sizes ++ [n]).length = _; rw [List.length_append]; rfl
theorem wider_right (hr : b.Right) (hl : b.sizes.length ≤ 6) (hn : 0 ≤ n ∧ n ≤ 300) : (widerB b n).Right := by
  have hb := hr.bins
  have e := wider_len b n
  refine ⟨by omega, hr.lots, fun x hx => ?_, hr.sacks, fun l hl' => ?_, fun l hl' => ?_, hr.apart, fun i hi => ?_⟩
  · rcases List.mem_append.1 (show x ∈ b.sizes ++ [n] from hx) with h | h
    · exact hr.size x h
    · rw [List.mem_singleton.1 h]; exact hn
  · have := hr.inn l hl'; omega
  · have := hr.aim l hl'; omega
  · have h1 := hr.holds i hi
    have h2 := hr.inn _ (nth_mem hi)
    have h3 := hr.aim _ (nth_mem hi)
    refine ⟨?_, fun hne => ?_⟩
    · show (nth b.lots i).sacks ≤ nth (b.sizes ++ [n]) (nth b.lots i).inn.toNat
      rw [nth_left (by omega)]; exact h1.1
    · show (nth b.lots i).sacks ≤ nth (b.sizes ++ [n]) (nth b.lots i).aim.toNat
      have hne' : (nth b.lots i).aim ≠ -1 := hne
      rw [nth_left (by omega)]; exact h1.2 hne
theorem wider_turns {p : Pl} {t : Tur} (h : t ∈ turnsL b p) : t ∈ turnsL (widerB b n) p := by
  rw [mem_turnsL] at h ⊢
  obtain ⟨h1, h2, h3, h4, h5, h6⟩ := h
  refine ⟨h1, h2, h3, by rw [wider_len]; omega, h5, ?_⟩
  unfold Barn.hold at h6 ⊢
  show decide (nth (b.sizes ++ [n]) t.aim.toNat ≥ _) = true
  rw [nth_left (by omega)]; exact h6
theorem wider_go : ∀ (l : List Tur) {p q : Pl}, goP b p l = some q → goP (widerB b n) p l = some q
  | [], _, _, h => h
  | t :: l, p, q, h => by
    obtain ⟨h1, h2⟩ := goP_cons h
    rw [goP_cons' (wider_turns h1)]; exact wider_go l h2
theorem wider_rightV (h6 : b.lots.length ≤ 6) {l : List Tur} (h : rightV b l = true) : rightV (widerB b n) l = true := by
  obtain ⟨q, h1, h2⟩ := (right_iff h6).1 h
  exact (right_iff (b := widerB b n) h6).2 ⟨q, wider_go l h1, h2⟩
theorem wider_places (hr : b.Right) (hr' : (widerB b n).Right) : placesV b ≤ placesV (widerB b n) := by
  obtain ⟨L, h1, h2, h3⟩ := reached hr
  obtain ⟨L', g1, g2, g3⟩ := reached hr'
  have := nodup_sub h1 (L := L') fun r hr0 => by
    obtain ⟨l, hl⟩ := (h2 r).1 hr0
    exact (g2 r).2 ⟨l, wider_go l hl⟩
  rw [h3, g3]; omega
theorem looser_len (b : Barn) (i : Nat) : (looserB b i).lots.length = b.lots.length := by
  show (b.lots.set _ _).length = _; rw [List.length_set]
theorem looser_nth {k : Nat} (hk : k < b.lots.length) : nth (looserB b i).lots k = if i = k then ⟨(nth b.lots k).sacks, (nth b.lots k).inn, -1⟩ else nth b.lots k := by
  have hk' : k < (b.lots.set i ⟨(nth b.lots i).sacks, (nth b.lots i).inn, -1⟩).length := by rw [List.length_set]; exact hk
  show nth (b.lots.set i _) k = _
  rw [nth_lt hk', List.getElem_set]
  by_cases e : i = k
  · subst e; rw [if_pos rfl, if_pos rfl]
  · rw [if_neg e, if_neg e, nth_lt hk]
theorem looser_sacks {k : Nat} (hk : k < b.lots.length) : (nth (looserB b i).lots k).sacks = (nth b.lots k).sacks ∧ (nth (looserB b i).lots k).inn = (nth b.lots k).inn ∧ ((nth (looserB b i).lots k).aim = (nth b.lots k).aim ∨ (nth (looserB b i).lots k).aim = -1) := by
  rw [looser_nth hk]
  by_cases e : i = k
  · rw [if_pos e]; exact ⟨rfl, rfl, .inr rfl⟩
  · rw [if_neg e]; exact ⟨rfl, rfl, .inl rfl⟩
theorem looser_mem {l : Lot} (h : l ∈ (looserB b i).lots) : ∃ k, k < b.lots.length ∧ l.sacks = (nth b.lots k).sacks ∧ l.inn = (nth b.lots k).inn ∧ (l.aim = (nth b.lots k).aim ∨ l.aim = -1) := by
  obtain ⟨k, hk, rfl⟩ := mem_nth h
  rw [looser_len] at hk
  exact ⟨k, hk, looser_sacks hk⟩
theorem looser_right (hr : b.Right) (i : Nat) : (looserB b i).Right := by
  have e := looser_len b i
  have hb := hr.bins
  refine ⟨hr.bins, by rw [e]; exact hr.lots, hr.size, fun l hl => ?_, fun l hl => ?_, fun l hl => ?_, fun x k hk hx => ?_, fun k hk => ?_⟩
  · obtain ⟨k, hk, h1, _, _⟩ := looser_mem hl
    rw [h1]; exact hr.sacks _ (nth_mem hk)
  · obtain ⟨k, hk, _, h1, _⟩ := looser_mem hl
    rw [h1]; exact hr.inn _ (nth_mem hk)
  · obtain ⟨k, hk, _, _, h1⟩ := looser_mem hl
    have h2 := hr.aim _ (nth_mem hk)
    show -1 ≤ l.aim ∧ l.aim < (b.sizes.length : Int)
    omega
  · rw [e] at hx
    obtain ⟨_, h2, h3⟩ := looser_sacks (i := i) (k := x) hx
    obtain ⟨_, g2, g3⟩ := looser_sacks (b := b) (i := i) (k := k) (by omega)
    have h4 := hr.apart x k hk hx
    rw [h2, g2]
    refine ⟨h4.1, fun e' => ?_⟩
    rcases h3 with h3 | h3
    · rcases g3 with g3 | g3
      · rw [h3]; exact h4.2 (by rw [← h3, ← g3]; exact e')
      · rw [e']; exact g3
    · exact h3
  · rw [e] at hk
    obtain ⟨h1, h2, h3⟩ := looser_sacks (i := i) (k := k) hk
    have h4 := hr.holds k hk
    rw [h1, h2]
    refine ⟨h4.1, fun hne => ?_⟩
    rcases h3 with h3 | h3
    · rw [h3] at hne ⊢; exact h4.2 hne
    · exact absurd h3 hne
theorem looser_turns {p : Pl} {t : Tur} : t ∈ turnsL (looserB b i) p ↔ t ∈ turnsL b p := by
  rw [mem_turnsL, mem_turnsL, looser_len]
  have h1 : takenP (looserB b i) p t.aim = takenP b p t.aim := by unfold takenP; rw [looser_len]
  rw [h1]
  have h2 : 0 ≤ t.lot → t.lot < b.lots.length → Barn.hold (looserB b i) t.aim t.lot = b.hold t.aim t.lot := fun h0 h => by
    unfold Barn.hold
    rw [(looser_sacks (i := i) (k := t.lot.toNat) (by omega)).1]; rfl
  constructor
  · rintro ⟨a1, a2, a3, a4, a5, a6⟩; exact ⟨a1, a2, a3, a4, a5, (h2 a1 a2).symm.trans a6⟩
  · rintro ⟨a1, a2, a3, a4, a5, a6⟩; exact ⟨a1, a2, a3, a4, a5, (h2 a1 a2).trans a6⟩
theorem looser_go : ∀ (l : List Tur) {p q : Pl}, goP b p l = some q → goP (looserB b i) p l = some q
  | [], _, _, h => h
  | t :: l, p, q, h => by
    obtain ⟨h1, h2⟩ := goP_cons h
    rw [goP_cons' (looser_turns.2 h1)]; exact looser_go l h2
theorem looser_first (b : Barn) (i : Nat) : firstP (looserB b i) = firstP b := by
  apply Subtype.ext
  show List.take 6 (((looserB b i).lots.map fun (l : Lot) => l.inn) ++ _) = List.take 6 ((b.lots.map fun (l : Lot) => l.inn) ++ _)
  congr 2
  apply List.ext_getElem
  · rw [List.length_map, List.length_map, looser_len]
  · intro k h1 h2
    rw [List.length_map] at h2
    rw [List.length_map] at h1
    rw [List.getElem_map, List.getElem_map, ← nth_lt h1, ← nth_lt h2]
    exact (looser_sacks h2).2.1
theorem looser_rightV (h6 : b.lots.length ≤ 6) {l : List Tur} (h : rightV b l = true) : rightV (looserB b i) l = true := by
  obtain ⟨q, h1, h2⟩ := (right_iff h6).1 h
  refine (right_iff (b := looserB b i) (by rw [looser_len]; exact h6)).2 ⟨q, by rw [looser_first]; exact looser_go l h1, ?_⟩
  unfold madeP
  rw [List.all_eq_true, looser_len]
  intro k hk
  have hk := List.mem_range.1 hk
  rcases (looser_sacks (i := i) hk).2.2 with e | e
  · rw [e]
    rcases made_at h2 hk with e | e
    · rw [decide_eq_true e]; rfl
    · rw [decide_eq_true e, Bool.or_true]
  · rw [decide_eq_true e]; rfl
theorem cheap_more {b' : Barn} {c : Tur → Int} {e e' n n' : Int} {l l' : List Tur} (h : ∀ l, rightV b l = true → rightV b' l = true) (hc : Cheap b c e l n) (hc' : Cheap b' c e' l' n') (h0 : e = 0) : e' = 0 ∧ n' ≤ n := by
  obtain ⟨h1, h2, _⟩ := hc.yes h0
  have h3 := h l h1
  rcases hc'.err with e0 | e7
  · exact ⟨e0, by rw [← h2]; exact (hc'.yes e0).2.2 l h3⟩
  · rw [(hc'.no e7).2.2 l] at h3; cases h3
theorem inn_nodup (hr : b.Right) : (innL b).Nodup := by
  rw [List.nodup_iff_pairwise_ne, List.pairwise_iff_getElem]
  intro i k hi hk hik e
  unfold innL at hi hk e
  rw [List.length_map] at hi hk
  rw [List.getElem_map, List.getElem_map, ← nth_lt hi, ← nth_lt hk] at e
  exact (hr.apart k i hik hk).1 e.symm
theorem free_inn {k : Int} : b.free k = true ↔ k ∉ innL b := by
  unfold Barn.free innL
  rw [List.all_eq_true, List.mem_map]
  constructor
  · rintro h ⟨l, hl, e⟩
    have := h l hl
    rw [decide_eq_true e] at this; cases this
  · intro h l hl
    rw [decide_eq_false fun e => h ⟨l, hl, e⟩]; rfl
theorem filtUp_true (n : Nat) : (filtUp (fun _ => true) n).length = n := by
  unfold filtUp; rw [List.length_map, List.filter_eq_self.2 (fun _ _ => rfl), List.length_range]
theorem free_count (hr : b.Right) : (freeL b).length + b.lots.length = b.sizes.length := by
  have hn : (freeL b ++ innL b).Nodup := by
    rw [List.nodup_append]
    refine ⟨filtUp_nodup _ _, inn_nodup hr, fun x hx y hy e => ?_⟩
    obtain ⟨k, _, h1, e'⟩ := filtUp_mem.1 hx
    have h1 : b.free (k : Int) = true := h1
    rw [← e', e] at h1
    exact free_inn.1 h1 hy
  have hl : (innL b).length = b.lots.length := by unfold innL; rw [List.length_map]
  have h1 := nodup_sub hn (L := filtUp (fun _ => true) b.sizes.length) fun x hx => by
    rcases List.mem_append.1 hx with h | h
    · obtain ⟨k, h1, _, h2⟩ := filtUp_mem.1 h
      exact filtUp_mem.2 ⟨k, h1, rfl, h2⟩
    · obtain ⟨l, hl', rfl⟩ := List.mem_map.1 h
      have := hr.inn l hl'
      exact filtUp_mem.2 ⟨l.inn.toNat, by omega, rfl, by omega⟩
  have h2 := nodup_sub (filtUp_nodup (fun _ => true) b.sizes.length) (L := freeL b ++ innL b) fun x hx => by
    obtain ⟨k, h1, _, h2⟩ := filtUp_mem.1 hx
    by_cases e : b.free (k : Int) = true
    · exact List.mem_append.2 (.inl (filtUp_mem.2 ⟨k, h1, e, h2⟩))
    · rw [free_inn] at e
      rw [h2]
      exact List.mem_append.2 (.inr (Classical.not_not.1 e))
  rw [filtUp_true, List.length_append] at h1 h2
  omega
theorem no_free (h6 : b.lots.length ≤ 6) (h : (freeL b).length = 0) {l : List Tur} {q : Pl} (hg : goP b (firstP b) l = some q) : l = [] ∧ q = firstP b := by
  cases l with
  | nil => injection hg with hg; exact ⟨rfl, hg.symm⟩
  | cons t l =>
    obtain ⟨h1, _⟩ := goP_cons hg
    obtain ⟨_, _, h3, h4, h5, _⟩ := mem_turnsL.1 h1
    have hf : b.free t.aim = true := by
      rw [free_inn]
      rw [takenP_not, first_inn h6] at h5; exact h5
    have : t.aim ∈ freeL b := filtUp_mem.2 ⟨t.aim.toNat, by omega, by rw [show ((t.aim.toNat : Nat) : Int) = t.aim by omega]; exact hf, by omega⟩
    rw [List.length_eq_zero_iff.1 h] at this; cases this
theorem no_places (hr : b.Right) (h : (freeL b).length = 0) : placesV b = 1 := by
  refine places_of hr (L := [firstP b]) (by simp) fun r => ?_
  rw [List.mem_singleton]
  constructor
  · rintro rfl; exact ⟨[], rfl⟩
  · rintro ⟨l, hl⟩; exact (no_free hr.lots h hl).2
theorem no_cost (hr : b.Right) (h : (freeL b).length = 0) {c : Tur → Int} {e n : Int} {l : List Tur} (hc : Cheap b c e l n) (h0 : e = 0) : n = 0 := by
  obtain ⟨h1, h2, _⟩ := hc.yes h0
  obtain ⟨q, g1, _⟩ := (right_iff hr.lots).1 h1
  rw [(no_free hr.lots h g1).1] at h2
  rw [← h2]; rfl
theorem no_lots (h : b.lots.length = 0) {e n : Int} {l : List Tur} (hc : Cheap b oneC e l n) : e = 0 ∧ n = 0 := by
  have h1 : rightV b [] = true := by
    refine (right_iff (by omega)).2 ⟨firstP b, rfl, ?_⟩
    unfold madeP; rw [h]; rfl
  rcases hc.err with e0 | e7
  · obtain ⟨h2, h3, h4⟩ := hc.yes e0
    have h5 := h4 [] h1
    rw [cost_one] at h3 h5
    exact ⟨e0, by rw [List.length_nil] at h5; omega⟩
  · rw [(hc.no e7).2.2 []] at h1; cases h1
structure Roomy (b : Barn) (n : Int) : Prop where
  free : ((freeL b).length : Int) = b.sizes.length - b.lots.length
  places : (freeL b).length = 0 → placesV b = 1
  cost : (freeL b).length = 0 → planE b oneC = 0 → costR b oneC = 0
  right : (widerB b n).Right
  more : placesV b ≤ placesV (widerB b n)
  few : planE b oneC = 0 → planE (widerB b n) oneC = 0 ∧ costR (widerB b n) oneC ≤ costR b oneC
  none : b.lots.length = 0 → planE b oneC = 0 ∧ costR b oneC = 0
  loose : ∀ i, planE b oneC = 0 → planE (looserB b i) oneC = 0 ∧ costR (looserB b i) oneC ≤ costR b oneC
theorem roomy (hr : b.Right) (hl : b.sizes.length ≤ 6) (hn : 0 ≤ n ∧ n ≤ 300) : Roomy b n := by
  have hw := wider_right hr hl hn
  have h1 := cheap hr (one_ok b)
  have h2 := cheap hw (one_ok _)
  have hf := free_count hr
  exact ⟨by omega, no_places hr, fun h => no_cost hr h h1, hw, wider_places hr hw, cheap_more (fun _ => wider_rightV hr.lots) h1 h2, fun h => no_lots h h1, fun i => cheap_more (fun _ => looser_rightV hr.lots) h1 (cheap (looser_right hr i) (one_ok _))⟩
end Go.Proofs.Ytpnndljmhpepgaa

namespace Go.T
open Go Go.RowKit
theorem Ty.row_vs {α : Type} {E : El α} {T tg n : Nat} {xs : List α} (hn : xs.length = n) : (Ty.row E T tg xs).Sub (Ty.vs tg n) := fun w M v ⟨cs, h1, h2, h3⟩ => by
  subst hn
  rcases h1.2 with ⟨e, h0⟩ | ⟨g, cap, cur, ex, _, hh, hn1, hcap, _, htk⟩
  · exact .inl ⟨h0, e⟩
  · exact .inr ⟨g, cap, h3 g (by rw [ex]; rfl), ex, hn1, hcap⟩
theorem Cont.sub_cellsL {T : Nat} {l l' : List Ty} (h : SubL l l') : (Cont.cells T l).Sub (Cont.cells T l') := fun _ _ _ ⟨b, cs, h1, h2, h3⟩ => ⟨b, cs, h1, h2, subL_dens h h3⟩
end Go.T

namespace Go.Proofs.Ytpnndljmhpepgaa
open Go Go.T
set_option maxHeartbeats 4000000
def aimedB (b : Barn) (i k : Int) : Barn := ⟨b.sizes, b.lots.set i.toNat ⟨(nth b.lots i.toNat).sacks, (nth b.lots i.toNat).inn, k⟩⟩
def aimV (b : Barn) (i k : Int) : Barn × Int := if knownE b i = 0 then if checkB (aimedB b i k) = 0 then (aimedB b i k, 0) else (noB, checkB (aimedB b i k)) else (noB, knownE b i)
theorem aim_1 {b : Barn} {i k : Int} (h : ¬ knownE b i = 0) : aimV b i k = (noB, knownE b i) := if_neg h
theorem aim_2 {b : Barn} {i k : Int} (h : knownE b i = 0) (h2 : ¬ checkB (aimedB b i k) = 0) : aimV b i k = (noB, checkB (aimedB b i k)) := (if_pos h).trans (if_neg h2)
theorem aim_3 {b : Barn} {i k : Int} (h : knownE b i = 0) (h2 : checkB (aimedB b i k) = 0) : aimV b i k = (aimedB b i k, 0) := (if_pos h).trans (if_pos h2)
theorem aimed_small {b : Barn} (hs : b.Small) (i k : Int) : (aimedB b i k).Small := ⟨hs.sizes, by show (b.lots.set _ _).length ≤ 10; rw [List.length_set]; exact hs.lots⟩
attribute [local irreducible] planE costR placesV checkB freeL
attribute [local irreducible] dInt dBool dSl dPp dPtr dAgg dTup dClo dAny dEx dStr dGd dCells dVec dVs dRow dOp nth Tri Into TOps Ctr bodyPost Exit.then Exit.inBlock Code.wp Code.wpIn dWhen dPa dPe dAo dArr dMp dPm dMap dCJ CtrG CtrI OpY keepPost iterPost bodyPostM roundQ
set_option maxRecDepth 100000 in
theorem k_Clone_lot (l : List Lot) (h : l.length ≤ 1000) : CtrG Try.prog 103 [] [] [Ty.sl LotE l] [] (Ty.row LotE 57 6 l) := by
  refine fnG_intro Try.func103 rfl (by decide) Try.ntmps103 (by exact Nat.le_of_ble_eq_true rfl) fun w0 M0 => ?_
  refine t_seq ?_
  refine t_region ?_
  refine asX rfl ?_
  refine r_nil ?_
  refine i_then ?_
  refine t_seq ?_
  refine t_seq ?_
  refine t_region ?_
  refine mvS rfl ?_
  refine r_eqnil und23 rfl ?_
  refine r_nil ?_
  refine i_then ?_
  refine t_cond_nb rfl (fun hc1 => ?_) (fun hc1 => ?_)
  ·
    refine t_seq ?_
    refine t_region ?_
    refine asX rfl ?_
    refine r_nil ?_
    refine i_then ?_
    refine t_ret ?_
    refine i_then_ret ?_
    refine g_ret1 [6] rfl rfl (by decide) (by repeat (exact rc_nil)) ?_
    all_goals skip
    all_goals (obtain rfl : l = [] := hc1; exact rg_cv cv_nilrow)
  ·
    refine t_skip ?_
    refine i_then ?_
    refine t_seq ?_
    refine t_region ?_
    refine r_buildRow (E := LotE) rfl rfl rfl rfl ?_
    refine mvS rfl ?_
    refine r_append rfl rfl (by decide) rfl rfl rfl rfl rfl rfl (by decide) (by (simp <;> omega)) (by (simp <;> omega)) ?_
    refine asR rfl ?_
    refine r_nil ?_
    refine i_then ?_
    refine t_ret ?_
    refine g_ret1 [6] rfl rfl (by decide) (by repeat (exact rc_nil)) ?_
    all_goals skip
    all_goals exact rg_cv (cv_row (by decide))
end Go.Proofs.Ytpnndljmhpepgaa

namespace Go.Proofs.Ytpnndljmhpepgaa
open Go Go.T
set_option maxHeartbeats 4000000
def sackV (b : Barn) (plan : List Tur) : Int × Int := if (doneV b plan).2.2 = 0 then (costL (sackC b) plan, 0) else (0, (doneV b plan).2.2)
def sameV (a b : Barn) : Bool := decide (a.sizes = b.sizes) && decide (a.lots = b.lots)
theorem sameV_self (b : Barn) : sameV b b = true := by unfold sameV; simp
section
variable {b a : Barn} {P back : List Tur} {p : List Int}
end
attribute [local irreducible] planE costR placesV checkB doneV costL sackC walkP walkE rightV makesB lawV sumUp sameV
attribute [local irreducible] dInt dBool dSl dPp dPtr dAgg dTup dClo dAny dEx dStr dGd dCells dVec dVs dRow dOp nth Tri Into TOps Ctr bodyPost Exit.then Exit.inBlock Code.wp Code.wpIn dWhen dPa dPe dAo dArr dMp dPm dMap dCJ CtrG CtrI OpY keepPost iterPost bodyPostM roundQ
set_option maxRecDepth 100000 in
theorem c_same (a b : Barn) : Ctr Try.prog 24 [barnT a, barnT b] (Ty.bool (sameV a b)) := by
  refine fn_intro Try.func24 rfl (by decide) Try.ntmps24 (by exact Nat.le_of_ble_eq_true rfl) fun w0 M0 => ?_
  refine t_seq ?_
  refine t_region ?_
  refine r_box_agg rfl ?_
  refine r_box_agg rfl ?_
  refine asB rfl ?_
  refine r_nil ?_
  refine i_then ?_
  refine t_seq ?_
  refine t_region ?_
  refine r_field_pp rfl rfl rfl rfl rfl (by decide) ?_
  refine r_load_pp rfl rfl rfl rfl ?_
  refine r_field_pp rfl rfl rfl rfl rfl (by decide) ?_
  refine r_load_pp rfl rfl rfl rfl ?_
  refine r_call (c_Eq_int a.sizes b.sizes) rfl rfl rfl rfl rfl ?_
  refine mvB rfl ?_
  apply r_guard (s := 10) rfl rfl rfl
  · intro hg; apply opT_of; (refine r_field_pp rfl rfl rfl rfl rfl (by decide) ?_); refine r_nil ?_; exact rfl
  · exact rfl
  · exact rfl
  apply r_guard (s := 10) rfl rfl rfl
  · intro hg; apply opT_strip (s := 11) rfl (by (rw [hg]; rfl)); apply opT_of; (refine r_load_pp rfl rfl rfl rfl ?_); refine r_nil ?_; exact rfl
  · exact rfl
  · exact rfl
  apply r_guard (s := 10) rfl rfl rfl
  · intro hg; apply opT_of; (refine r_field_pp rfl rfl rfl rfl rfl (by decide) ?_); refine r_nil ?_; exact rfl
  · exact rfl
  · exact rfl
  apply r_guard (s := 10) rfl rfl rfl
  · intro hg; apply opT_strip (s := 13) rfl (by (rw [hg]; rfl)); apply opT_of; (refine r_load_pp rfl rfl rfl rfl ?_); refine r_nil ?_; exact rfl
  · exact rfl
  · exact rfl
  apply r_guard (s := 10) rfl rfl rfl
  · intro hg; apply opT_strip (s := 12) rfl (by (rw [hg]; rfl)); apply opT_strip (s := 14) rfl (by (rw [hg]; rfl)); apply opT_of; (refine r_call (c_Eq_lot a.lots b.lots) rfl rfl rfl rfl rfl ?_); refine r_nil ?_; exact rfl
  · exact rfl
  · exact rfl
  refine r_and rfl rfl ?_
  refine asB rfl ?_
  refine r_nil ?_
  refine i_then ?_
  refine t_ret ?_
  refine i_rp1 rfl rfl ?_
  all_goals skip
  all_goals exact ret_eq rfl rfl (congrArg Ty.bool (by unfold sameV; rfl))
section
variable {b a : Barn} {P back : List Tur}
end
end Go.Proofs.Ytpnndljmhpepgaa

namespace Go.Proofs.Ytpnndljmhpepgaa
open Go Go.T
set_option maxHeartbeats 4000000
def rowO (x : Option (List Int)) : List Ty := match x with | none => [Ty.ex (.slice none 0 0)] | some l => [Ty.sl I64 l]
def RowOE : El (Option (List Int)) := El.mk' 1 rowO (fun x => by cases x <;> rfl) (fun x => by cases x <;> exact ⟨rfl, rfl, rfl⟩)
instance : Inhabited (Option (List Int)) := ⟨none⟩
theorem rows_some (l : List (List Int)) : (l.map some).flatMap RowOE.tys = l.flatMap RowE.tys := by
  induction l with
  | nil => rfl
  | cons x l ih => rw [List.map_cons, List.flatMap_cons, List.flatMap_cons, ih]; rfl
theorem sl_rows (l : List (List Int)) : (Ty.sl RowOE (l.map some)).Sub (Ty.sl RowE l) := fun w M v ⟨a, c, e, h1, h2, h3⟩ => by
  rw [List.length_map] at e h1 h3
  exact ⟨a, c, e, h1, h2, fun h0 => by
    obtain ⟨b, off, e1, h4⟩ := h3 h0
    rw [rows_some] at h4
    exact ⟨b, off, e1, h4⟩⟩
def rowU (l : List (List Int)) (k : Nat) : List (Option (List Int)) := (l.take k).map some ++ List.replicate (l.length - k) none
theorem row_set (x : Option (List Int)) (l : List Int) : (RowOE.tys x).set 0 (Ty.sl I64 l) = RowOE.tys (some l) := by cases x <;> rfl
theorem rowU_len {l : List (List Int)} {k : Nat} (h : k ≤ l.length) : (rowU l k).length = l.length := by unfold rowU; simp; omega
theorem rowU_succ {l : List (List Int)} {k : Nat} (h : k < l.length) : (rowU l k).set k (some (nth l k)) = rowU l (k + 1) := by
  unfold rowU
  have e : ((l.take k).map some).length = k := by rw [List.length_map, List.length_take]; omega
  rw [List.set_append_right _ _ (by omega), e, Nat.sub_self, take_nth h, List.map_append, List.append_assoc, show l.length - k = (l.length - (k + 1)) + 1 by omega, List.replicate_succ]; rfl
theorem rowU_all {l : List (List Int)} {k : Nat} (h : l.length = k) : rowU l k = l.map some := by
  unfold rowU; rw [List.take_of_length_le (by omega), show l.length - k = 0 by omega]; simp
def greatV (b : Barn) : Bool := decide ((b.sizes.length : Int) > 12) || decide ((b.lots.length : Int) > 10)
theorem small_great {b : Barn} (h : greatV b = false) : b.Small := by
  unfold greatV at h
  simp only [Bool.or_eq_false_iff, decide_eq_false_iff_not] at h
  exact ⟨by omega, by omega⟩
def aimTys (s t : Nat) (b : Barn) : List Ty := [Ty.row I64 3 s b.sizes, Ty.vs t b.lots.length]
theorem aim_nob {L : List Nat} {x : Barn} (h : x = noB) : RetG L (Ty.agg [Ty.ex (.slice none 0 0), Ty.ex (.slice none 0 0)]) (Ty.agg (aimTys 21 24 x)) := by
  subst h; exact rg_cv (cv_agg (cv_cons (cv_cons cv_nil cv_nilvs) cv_nilrow))
theorem aim_okL {b : Barn} {i k : Int} (h : aimV b i k = (aimedB b i k, 0)) : RetG [21, 24] (Ty.agg [Ty.row I64 3 21 b.sizes, Ty.vs 24 b.lots.length]) (Ty.agg (aimTys 21 24 (aimV b i k).1)) := by
  rw [h]
  have e : (aimedB b i k).lots.length = b.lots.length := List.length_set
  show RetG [21, 24] _ (Ty.agg [Ty.row I64 3 21 b.sizes, Ty.vs 24 (aimedB b i k).lots.length])
  rw [e]
  exact rg_cv (cv_agg (cv_cons (cv_cons cv_nil (cv_vs (by decide))) (cv_row (by decide))))
attribute [local irreducible] dInt dBool dSl dPp dPtr dAgg dTup dClo dAny dEx dStr dGd dCells dVec dVs dRow dOp nth Tri Into TOps Ctr bodyPost Exit.then Exit.inBlock Code.wp Code.wpIn dWhen dPa dPe dAo dArr dMp dPm dMap dCJ CtrG CtrI OpY keepPost iterPost bodyPostM roundQ
attribute [local irreducible] dRowJ dMs dFit
set_option maxRecDepth 100000 in
theorem c_great (b : Barn) : Ctr Try.prog 28 [barnT b] (Ty.bool (greatV b)) := by
  refine fn_intro Try.func28 rfl (by decide) Try.ntmps28 (by exact Nat.le_of_ble_eq_true rfl) fun w0 M0 => ?_
  refine t_seq ?_
  refine t_region ?_
  refine r_box_agg rfl ?_
  refine asB rfl ?_
  refine r_nil ?_
  refine i_then ?_
  refine t_seq ?_
  refine t_region ?_
  refine r_field_pp rfl rfl rfl rfl rfl (by decide) ?_
  refine r_load_pp rfl rfl rfl rfl ?_
  refine r_len rfl rfl rfl ?_
  refine r_bin rfl rfl rfl ?_
  refine mvB rfl ?_
  apply r_guard (s := 7) rfl rfl rfl
  · intro hg; apply opT_of; (refine r_field_pp rfl rfl rfl rfl rfl (by decide) ?_); refine r_nil ?_; exact rfl
  · exact rfl
  · exact rfl
  apply r_guard (s := 7) rfl rfl rfl
  · intro hg; apply opT_strip (s := 8) rfl (by (rw [hg]; rfl)); apply opT_of; (refine r_load_pp rfl rfl rfl rfl ?_); refine r_nil ?_; exact rfl
  · exact rfl
  · exact rfl
  apply r_guard (s := 7) rfl rfl rfl
  · intro hg; apply opT_strip (s := 9) rfl (by (rw [hg]; rfl)); apply opT_of; (refine r_len rfl rfl rfl ?_); refine r_nil ?_; exact rfl
  · exact rfl
  · exact rfl
  apply r_guard (s := 7) rfl rfl rfl
  · intro hg; apply opT_strip (s := 10) rfl (by (rw [hg]; rfl)); apply opT_of; (refine r_bin rfl rfl rfl ?_); refine r_nil ?_; exact rfl
  · exact rfl
  · exact rfl
  refine r_or rfl rfl ?_
  refine asB rfl ?_
  refine r_nil ?_
  refine i_then ?_
  refine t_ret ?_
  refine i_rp1 rfl rfl ?_
  all_goals exact ret_refl rfl rfl
  all_goals trace_state
set_option maxRecDepth 100000 in
theorem c_theirs (b : Barn) (hs : b.Small) : Ctr Try.prog 16 [barnT b] (barnT b) := by
  refine fn_intro Try.func16 rfl (by decide) Try.ntmps16 (by exact Nat.le_of_ble_eq_true rfl) fun w0 M0 => ?_
  have hs1 := hs.lots
  refine t_seq ?_
  refine t_region ?_
  refine r_box_agg rfl ?_
  refine r_alloc rfl (by exact List.cons_ne_nil _ _) rfl ?_
  refine r_nil ?_
  refine i_then ?_
  refine t_seq ?_
  refine t_region ?_
  refine r_field_pp rfl rfl rfl rfl rfl (by decide) ?_
  refine r_load_pp rfl rfl rfl rfl ?_
  refine r_build rfl rfl (by exact List.cons_ne_nil _ _) rfl (by repeat (first | exact (Parts.nil : Parts _ _ [] _) | (show Parts _ _ ((_, _) :: _) _; apply Parts.one; (· exact (rfl : _ = Ty.sl _ _)); (· exact rfl)))) (by exact (rfl : _ = some [_, _])) ?_
  refine r_alloc rfl (by exact List.cons_ne_nil _ _) rfl ?_
  refine r_storeN rfl rfl (by decide) rfl rfl rfl rfl rfl rfl ?_
  refine r_nil ?_
  refine i_then ?_
  refine t_seq ?_
  refine t_seq ?_
  refine t_region ?_
  refine r_field_pp rfl rfl rfl rfl rfl (by decide) ?_
  refine r_load_pp rfl rfl rfl rfl ?_
  refine r_len rfl rfl rfl ?_
  refine mvI rfl ?_
  refine r_nil ?_
  refine i_then ?_
  refine t_block ?_
  refine t_loop (fun (k : {k : Nat // k ≤ b.lots.length}) => live [(2, Ty.ptr 3 0), (3, Ty.ptr 4 0), (10, Ty.sl LotE b.lots), (11, Ty.int .i64 b.lots.length), (12, Ty.int .i64 (k.1 : Nat))] [(3, Cont.cells 31 [Ty.ex (.slice none 0 0), Ty.ex (.slice none 0 0)]), (4, Cont.cells 31 [Ty.sl I64 b.sizes, Ty.row LotE 110 21 (b.lots.take k.1)])]) (fun k => b.lots.length - k.1) (⟨0, by omega⟩) ?_ fun k => ?_
  · (refine Ent.mk' ?_ ?_ <;> (repeat' (first | exact allSub_zero | exact allTags_nil | exact subs_nil | refine allSub_succ' ?_ (Ty.sub_any _) | refine allSub_succ' ?_ (Ty.sub_refl _) | refine allTags_cons rfl (Cont.sub_refl _) ?_ | refine allTags_cons rfl (Cont.sub_subs ?_) ?_ | refine subs_cons ?_ (Ty.sub_refl _) | refine subs_cons ?_ Ty.nil_row)))
    all_goals trace_state
  ·
    have hk := k.2
    refine t_seq ?_
    refine t_region ?_
    refine r_bin rfl rfl rfl ?_
    refine r_nil ?_
    refine i_then ?_
    refine t_seq ?_
    refine t_cond_dec rfl (fun hc1 => ?_) (fun hc1 => ?_)
    ·
      refine t_skip ?_
      refine i_then ?_
      refine t_seq ?_
      refine t_block ?_
      refine t_seq ?_
      refine t_region ?_
      refine r_index_slN rfl rfl rfl rfl rfl rfl (by omega) ?_
      refine r_load_ppN rfl rfl rfl (by exact Nat.le_of_ble_eq_true rfl) ?_
      refine r_alloc rfl (by exact List.cons_ne_nil _ _) rfl ?_
      refine r_storeN rfl rfl (by decide) rfl rfl rfl rfl rfl rfl ?_
      refine r_nil ?_
      refine i_then ?_
      refine t_region ?_
      refine r_field_ptr rfl rfl rfl rfl rfl (by decide) ?_
      refine r_load_ptr rfl rfl (by decide) rfl rfl rfl ?_
      refine r_load_ptrN rfl rfl (by decide) rfl rfl (by exact Nat.le_of_ble_eq_true rfl) ?_
      refine r_buildSlice (E := LotE) (xs := [nth b.lots k.1]) rfl rfl rfl rfl rfl (by decide) (by decide) (by repeat (first | exact (Parts.nil : Parts _ _ [] _) | (show Parts _ _ ((_, _) :: _) _; apply Parts.agg; (· exact (rfl : _ = Ty.agg _))))) (by exact rfl) rfl ?_
      refine r_append rfl rfl (by decide) rfl rfl rfl rfl rfl rfl (by decide) (by (simp <;> omega)) (by (simp <;> omega)) ?_
      refine r_field_ptr rfl rfl rfl rfl rfl (by decide) ?_
      refine r_store1 rfl rfl (by decide) rfl rfl (by exact (rfl : _ = Ty.row _ _ _ _)) rfl (by exact Nat.le_of_ble_eq_true rfl) rfl rfl (by exact rfl) ?_
      refine r_nil ?_
      refine i_block ?_
      refine i_then ?_
      refine t_region ?_
      refine r_add rfl rfl (by omega) (by omega) ?_
      refine mvI rfl ?_
      refine r_nil ?_
      refine i_round (⟨k.1 + 1, by omega⟩) ?_ (by show b.lots.length - (k.1 + 1) < b.lots.length - k.1; omega)
      (refine Ent.mk' ?_ ?_ <;> (repeat' (first | exact allSub_zero | exact allTags_nil | exact subs_nil | refine allSub_succ' ?_ (Ty.sub_any _) | refine allSub_succ' ?_ (Ty.sub_refl _) | refine allTags_cons rfl (Cont.sub_refl _) ?_ | refine allTags_cons rfl (Cont.sub_subs ?_) ?_ | refine subs_cons ?_ (Ty.sub_refl _) | refine subs_cons ?_ ?_)))
      all_goals exact Ty.sub_row (take_nth (by omega)).symm
      all_goals trace_state
    ·
      refine t_exit ?_
      refine i_then_exit ?_
      refine i_then_exit ?_
      refine i_block_exit rfl ?_
      refine i_then ?_
      refine t_seq ?_
      refine t_pubC (tg := 21) [] [(4, Cont.cells 31 [Ty.sl I64 b.sizes, Ty.sl LotE (b.lots.take k.1)])] (by decide) rfl trivial ⟨pubC_cells rfl rfl ⟨pubTy_same rfl, pubTy_row, trivial⟩, trivial⟩ ?_
      refine t_region ?_
      refine r_load_ptrN rfl rfl (by decide) rfl rfl (by exact Nat.le_of_ble_eq_true rfl) ?_
      refine r_storeN rfl rfl (by decide) rfl rfl rfl rfl rfl rfl ?_
      refine r_nil ?_
      refine i_then ?_
      refine t_ret ?_
      refine i_rcell rfl rfl rfl rfl (by decide) rfl rfl rfl ?_
      all_goals exact ret_eq rfl rfl (congrArg (fun l => barnT ⟨b.sizes, l⟩) (show b.lots.take k.1 = b.lots from List.take_of_length_le (by have := k.2; omega)))
set_option maxRecDepth 100000 in
theorem c_DupRows (l : List (List Int)) (hn : l.length ≤ 1000) (hl : ∀ x ∈ l, x.length ≤ 1000) : Ctr Try.prog 36 [Ty.sl RowE l] (Ty.sl RowE l) := by
  refine fn_intro Try.func36 rfl (by decide) Try.ntmps36 (by exact Nat.le_of_ble_eq_true rfl) fun w0 M0 => ?_
  refine t_seq ?_
  refine t_region ?_
  refine asX rfl ?_
  refine r_nil ?_
  refine i_then ?_
  refine t_seq ?_
  refine t_region ?_
  refine mvS rfl ?_
  refine r_len rfl rfl rfl ?_
  refine r_makeV (E := RowOE) (x0 := none) rfl rfl rfl rfl rfl rfl rfl (by decide) rfl (by omega) (by (dsimp only; omega)) (by omega) ?_
  refine asV rfl ?_
  refine r_nil ?_
  refine i_then ?_
  refine t_seq ?_
  refine t_seq ?_
  refine t_region ?_
  refine mvS rfl ?_
  refine r_len rfl rfl rfl ?_
  refine mvI rfl ?_
  refine r_nil ?_
  refine i_then ?_
  refine t_block ?_
  refine t_loop (fun (k : {k : Nat // k ≤ l.length}) => live [(3, Ty.vs 9 l.length), (9, Ty.sl RowE l), (10, Ty.int .i64 l.length), (11, Ty.int .i64 (k.1 : Nat))] [(9, Cont.vec RowOE 22 (rowU l k.1))]) (fun k => l.length - k.1) (⟨0, by omega⟩) ?_ fun k => ?_
  · (refine Ent.mk' ?_ ?_ <;> (repeat' (first | exact allSub_zero | exact allTags_nil | refine allSub_succ' ?_ (Ty.sub_any _) | refine allSub_succ' ?_ (Ty.sub_refl _) | refine allTags_cons rfl (Cont.sub_refl _) ?_)))
    all_goals trace_state
  ·
    have hk := k.2
    have hul := rowU_len hk
    refine t_seq ?_
    refine t_region ?_
    refine r_bin rfl rfl rfl ?_
    refine r_nil ?_
    refine i_then ?_
    refine t_seq ?_
    refine t_cond_dec rfl (fun hc1 => ?_) (fun hc1 => ?_)
    ·
      refine t_skip ?_
      refine i_then ?_
      refine t_seq ?_
      refine t_block ?_
      refine t_seq ?_
      refine t_region ?_
      refine mvI rfl ?_
      refine r_index_slN rfl rfl rfl rfl rfl rfl (by omega) ?_
      refine r_load_pp rfl rfl rfl rfl ?_
      refine asI rfl ?_
      refine asS rfl ?_
      refine r_nil ?_
      refine i_then ?_
      refine t_region ?_
      refine mvV rfl ?_
      refine mvI rfl ?_
      refine mvS rfl ?_
      refine r_call (c_Dup_int (nth l k.1) (hl _ (nth_mem (by omega)))) rfl rfl rfl rfl rfl ?_
      refine r_index_vs rfl rfl rfl rfl rfl (by omega) ?_
      refine r_store_vecB (E := RowOE) (z := some (nth l k.1)) rfl rfl rfl (by decide) rfl rfl (by exact (rfl : _ = Ty.sl _ _)) rfl (by omega) (by decide) rfl (row_set _ _) ?_
      refine r_nil ?_
      refine i_block ?_
      refine i_then ?_
      refine t_region ?_
      refine r_add rfl rfl (by omega) (by omega) ?_
      refine mvI rfl ?_
      refine r_nil ?_
      refine i_round (⟨k.1 + 1, by omega⟩) ?_ (by show l.length - (k.1 + 1) < l.length - k.1; omega)
      (refine Ent.mk' ?_ ?_ <;> (repeat' (first | exact allSub_zero | exact allTags_nil | refine allSub_succ' ?_ (Ty.sub_any _) | refine allSub_succ' ?_ (Ty.sub_refl _) | refine allTags_cons rfl ?_ ?_)))
      all_goals skip
      all_goals exact Cont.sub_vec (rowU_succ (by omega))
    ·
      refine t_exit ?_
      refine i_then_exit ?_
      refine i_then_exit ?_
      refine i_block_exit rfl ?_
      refine i_then ?_
      refine t_seq ?_
      obtain ⟨k, hk⟩ := k
      obtain rfl : k = l.length := by have h1 : ¬ (k : Int) < (l.length : Int) := hc1; have h2 : k ≤ l.length := hk; omega
      refine t_pub (tg := 9) [(3, Ty.sl RowOE (rowU l l.length))] (by decide) rfl ⟨pub_vs rfl rfl (rowU_len (Nat.le_refl _)) (by decide), trivial⟩ ?_
      refine t_region ?_
      refine mvS rfl ?_
      refine asS rfl ?_
      refine r_nil ?_
      refine i_then ?_
      refine t_ret ?_
      refine i_rp1 rfl rfl ?_
      all_goals skip
      all_goals exact ret_sub rfl rfl (by rw [rowU_all rfl]; exact sl_rows l)
set_option maxRecDepth 100000 in
theorem c_EqRows (a b : List (List Int)) : Ctr Try.prog 49 [Ty.sl RowE a, Ty.sl RowE b] (Ty.bool (decide (a = b))) := by
  refine fn_intro Try.func49 rfl (by decide) Try.ntmps49 (by exact Nat.le_of_ble_eq_true rfl) fun w0 M0 => ?_
  refine t_fact (s := 0) rfl rfl sl_len fun ha => ?_
  refine t_fact (s := 1) rfl rfl sl_len fun hb => ?_
  refine t_seq ?_
  refine t_region ?_
  refine asB rfl ?_
  refine r_nil ?_
  refine i_then ?_
  refine t_seq ?_
  refine t_seq ?_
  refine t_region ?_
  refine mvS rfl ?_
  refine r_len rfl rfl rfl ?_
  refine mvS rfl ?_
  refine r_len rfl rfl rfl ?_
  refine r_bin rfl rfl rfl ?_
  refine r_nil ?_
  refine i_then ?_
  refine t_cond_ndec rfl (fun hc1 => ?_) (fun hc1 => ?_)
  ·
    refine t_seq ?_
    refine t_region ?_
    refine asB rfl ?_
    refine r_nil ?_
    refine i_then ?_
    refine t_ret ?_
    refine i_then_ret ?_
    refine i_rp1 rfl rfl ?_
    all_goals skip
    exact ret_eq rfl rfl (congrArg Ty.bool (by rw [eq_comm, decide_eq_false_iff_not]; intro e; subst e; exact hc1 rfl))
  ·
    refine t_skip ?_
    refine i_then ?_
    refine t_seq ?_
    refine t_seq ?_
    refine t_region ?_
    refine mvS rfl ?_
    refine r_len rfl rfl rfl ?_
    refine mvI rfl ?_
    refine r_nil ?_
    refine i_then ?_
    refine t_block ?_
    refine t_loop (fun (k : {k : Nat // a.take k = b.take k}) => live [(0, Ty.sl RowE a), (1, Ty.sl RowE b), (12, Ty.sl RowE a), (13, Ty.int .i64 a.length), (14, Ty.int .i64 (k.1 : Nat))] []) (fun k => a.length - k.1) (⟨0, by simp⟩) ?_ fun k => ?_
    · (refine Ent.mk' ?_ ?_ <;> (repeat' (first | exact allSub_zero | exact allTags_nil | refine allSub_succ' ?_ (Ty.sub_any _) | refine allSub_succ' ?_ (Ty.sub_refl _))))
    ·
      have hlen : a.length = b.length := by omega
      refine t_seq ?_
      refine t_region ?_
      refine r_bin rfl rfl rfl ?_
      refine r_nil ?_
      refine i_then ?_
      refine t_seq ?_
      refine t_cond_dec rfl (fun hc2 => ?_) (fun hc2 => ?_)
      ·
        refine t_skip ?_
        refine i_then ?_
        refine t_seq ?_
        refine t_block ?_
        refine t_seq ?_
        refine t_region ?_
        refine mvI rfl ?_
        refine r_index_slN rfl rfl rfl rfl rfl rfl (by omega) ?_
        refine r_load_pp rfl rfl rfl rfl ?_
        refine asI rfl ?_
        refine asS rfl ?_
        refine r_nil ?_
        refine i_then ?_
        refine t_seq ?_
        refine t_region ?_
        refine mvS rfl ?_
        refine mvS rfl ?_
        refine mvI rfl ?_
        refine r_index_slN rfl rfl rfl rfl rfl rfl (by omega) ?_
        refine r_load_pp rfl rfl rfl rfl ?_
        refine r_call (c_Equal_int _ _) rfl rfl rfl rfl rfl ?_
        refine r_not rfl ?_
        refine r_nil ?_
        refine i_then ?_
        refine t_cond_ndec rfl (fun hc3 => ?_) (fun hc3 => ?_)
        ·
          refine t_seq ?_
          refine t_region ?_
          refine asB rfl ?_
          refine r_nil ?_
          refine i_then ?_
          refine t_ret ?_
          refine i_block_ret ?_
          refine i_then_ret ?_
          refine i_then_ret ?_
          refine i_block_ret ?_
          refine i_then_ret ?_
          refine i_rp1 rfl rfl ?_
          all_goals skip
          exact ret_eq rfl rfl (congrArg Ty.bool (by rw [eq_comm, decide_eq_false_iff_not]; exact ne_of_nth (k := k.1) hc3))
        ·
          refine t_skip ?_
          refine i_block ?_
          refine i_then ?_
          refine t_region ?_
          refine r_add rfl rfl (by omega) (by omega) ?_
          refine mvI rfl ?_
          refine r_nil ?_
          refine i_round (⟨k.1 + 1, by have e : nth a k.1 = nth b k.1 := hc3; rw [take_nth (by omega), take_nth (by omega), k.2, e]⟩) ?_ (by show a.length - (k.1 + 1) < a.length - k.1; omega)
          (refine Ent.mk' ?_ ?_ <;> (repeat' (first | exact allSub_zero | exact allTags_nil | refine allSub_succ' ?_ (Ty.sub_any _) | refine allSub_succ' ?_ (Ty.sub_refl _))))
          all_goals skip
      ·
        refine t_exit ?_
        refine i_then_exit ?_
        refine i_then_exit ?_
        refine i_block_exit rfl ?_
        refine i_then ?_
        refine t_seq ?_
        refine t_region ?_
        refine asB rfl ?_
        refine r_nil ?_
        refine i_then ?_
        refine t_ret ?_
        refine i_rp1 rfl rfl ?_
        all_goals skip
        exact ret_eq rfl rfl (congrArg Ty.bool (by rw [eq_comm, decide_eq_true_eq]; have := k.2; rwa [List.take_of_length_le (by omega), List.take_of_length_le (by omega)] at this))
set_option maxRecDepth 100000 in
theorem k_Clone_int (l : List Int) (h : l.length ≤ 1000) : CtrG Try.prog 102 [] [] [Ty.sl I64 l] [] (Ty.row I64 3 6 l) := by
  refine fnG_intro Try.func102 rfl (by decide) Try.ntmps102 (by exact Nat.le_of_ble_eq_true rfl) fun w0 M0 => ?_
  refine t_seq ?_
  refine t_region ?_
  refine asX rfl ?_
  refine r_nil ?_
  refine i_then ?_
  refine t_seq ?_
  refine t_seq ?_
  refine t_region ?_
  refine mvS rfl ?_
  refine r_eqnil und22 rfl ?_
  refine r_nil ?_
  refine i_then ?_
  refine t_cond_nb rfl (fun hc1 => ?_) (fun hc1 => ?_)
  ·
    refine t_seq ?_
    refine t_region ?_
    refine asX rfl ?_
    refine r_nil ?_
    refine i_then ?_
    refine t_ret ?_
    refine i_then_ret ?_
    refine g_ret1 [6] rfl rfl (by decide) (by repeat (exact rc_nil)) ?_
    all_goals skip
    all_goals (obtain rfl : l = [] := hc1; exact rg_cv cv_nilrow)
  ·
    refine t_skip ?_
    refine i_then ?_
    refine t_seq ?_
    refine t_region ?_
    refine r_buildRow (E := I64) rfl rfl rfl rfl ?_
    refine mvS rfl ?_
    refine r_append rfl rfl (by decide) rfl rfl rfl rfl rfl rfl (by decide) (by (simp <;> omega)) (by (simp <;> omega)) ?_
    refine asR rfl ?_
    refine r_nil ?_
    refine i_then ?_
    refine t_ret ?_
    refine g_ret1 [6] rfl rfl (by decide) (by repeat (exact rc_nil)) ?_
    all_goals skip
    all_goals exact rg_cv (cv_row (by decide))
set_option maxRecDepth 100000 in
theorem k_Dup_lot (l : List Lot) (h : l.length ≤ 1000) : CtrG Try.prog 69 [] [] [Ty.sl LotE l] [] (Ty.row LotE 57 6 l) := by
  refine fnG_intro Try.func69 rfl (by decide) Try.ntmps69 (by exact Nat.le_of_ble_eq_true rfl) fun w0 M0 => ?_
  refine t_seq ?_
  refine t_region ?_
  refine asX rfl ?_
  refine r_nil ?_
  refine i_then ?_
  refine t_seq ?_
  refine t_region ?_
  refine mvS rfl ?_
  refine r_len rfl rfl rfl ?_
  refine r_make0 (E := LotE) rfl rfl rfl rfl rfl rfl rfl (by decide) rfl (by omega) (by (dsimp only; omega)) (by omega) ?_
  refine mvS rfl ?_
  refine r_append rfl rfl (by decide) rfl rfl rfl rfl rfl rfl (by decide) (by (simp <;> omega)) (by (simp <;> omega)) ?_
  refine asR rfl ?_
  refine r_nil ?_
  refine i_then ?_
  refine t_ret ?_
  refine g_ret1 [6] rfl rfl (by decide) (by repeat (exact rc_nil)) ?_
  all_goals skip
  all_goals exact rg_cv (cv_row (by decide))
set_option maxRecDepth 100000 in
theorem c_Own (b : Barn) (hs : b.Small) : Ctr Try.prog 15 [barnT b] (barnT b) := by
  refine fn_intro Try.func15 rfl (by decide) Try.ntmps15 (by exact Nat.le_of_ble_eq_true rfl) fun w0 M0 => ?_
  refine t_seq ?_
  refine t_region ?_
  refine r_box_agg rfl ?_
  refine r_alloc rfl (by exact List.cons_ne_nil _ _) rfl ?_
  refine r_nil ?_
  refine i_then ?_
  refine t_seq ?_
  refine t_draw mixed rfl ?_
  refine r_field_pp rfl rfl rfl rfl rfl (by decide) ?_
  refine r_load_pp rfl rfl rfl rfl ?_
  refine r_call (c_Dup_int b.sizes (by have := hs.sizes; omega)) rfl rfl rfl rfl rfl ?_
  refine r_field_pp rfl rfl rfl rfl rfl (by decide) ?_
  refine r_load_pp rfl rfl rfl rfl ?_
  refine r_call (c_Dup_lot b.lots (by have := hs.lots; omega)) rfl rfl rfl rfl rfl ?_
  refine r_build rfl rfl (by exact List.cons_ne_nil _ _) rfl (by repeat (first | exact (Parts.nil : Parts _ _ [] _) | (show Parts _ _ ((_, _) :: _) _; apply Parts.one; (· exact (rfl : _ = Ty.sl _ _)); (· exact rfl)))) (by exact (rfl : _ = some [_, _])) ?_
  refine r_storeN rfl rfl (by decide) rfl rfl rfl rfl rfl rfl ?_
  refine r_nil ?_
  refine ⟨by kernel_rfl, ?_⟩
  refine i_then ?_
  refine t_ret ?_
  refine i_rcell rfl rfl rfl rfl (by decide) rfl rfl rfl ?_
  all_goals exact ret_eq rfl rfl rfl
set_option maxRecDepth 100000 in
theorem k_OwnL (b : Barn) (hs : b.Small) : CtrG Try.prog 15 [] [] [barnT b] [] (Ty.agg [Ty.sl I64 b.sizes, Ty.row LotE 57 9 b.lots]) := by
  refine fnG_intro Try.func15 rfl (by decide) Try.ntmps15 (by exact Nat.le_of_ble_eq_true rfl) fun w0 M0 => ?_
  refine t_seq ?_
  refine t_region ?_
  refine r_box_agg rfl ?_
  refine r_alloc rfl (by exact List.cons_ne_nil _ _) rfl ?_
  refine r_nil ?_
  refine i_then ?_
  refine t_seq ?_
  refine t_draw mixed rfl ?_
  refine r_field_pp rfl rfl rfl rfl rfl (by decide) ?_
  refine r_load_pp rfl rfl rfl rfl ?_
  refine r_call (c_Dup_int b.sizes (by have := hs.sizes; omega)) rfl rfl rfl rfl rfl ?_
  refine r_field_pp rfl rfl rfl rfl rfl (by decide) ?_
  refine r_load_pp rfl rfl rfl rfl ?_
  refine r_callG [(9, 6)] [9] [] (k_Dup_lot b.lots (by have := hs.lots; omega)) rfl rfl (by repeat (first | exact cv_nil | refine cv_cons ?_ ?_ | exact cv_pub rfl rfl)) pre_nil post_nil (cv_row (by exact List.mem_cons_self)) ?_
  refine r_build rfl rfl (by exact List.cons_ne_nil _ _) rfl (by repeat (first | exact (Parts.nil : Parts _ _ [] _) | (show Parts _ _ ((_, _) :: _) _; apply Parts.one; (· first | exact (rfl : _ = Ty.sl _ _) | exact (rfl : _ = Ty.row _ _ _ _)); (· exact rfl)))) (by exact (rfl : _ = some [_, _])) ?_
  refine r_storeN rfl rfl (by decide) rfl rfl rfl rfl rfl rfl ?_
  refine r_nil ?_
  refine ⟨by kernel_rfl, ?_⟩
  refine i_then ?_
  refine t_ret ?_
  refine g_rcell [9] rfl rfl rfl rfl (by decide) rfl rfl rfl (by decide) (by repeat (exact rc_nil)) ?_
  all_goals skip
  all_goals exact rg_cv (cv_agg (cv_cons (cv_cons cv_nil (cv_row (by decide))) (cv_pub rfl rfl)))
set_option maxRecDepth 100000 in
theorem k_Aim (b : Barn) (hs : b.Small) (i k : Int) : CtrG Try.prog 47 [] [] [barnT b, Ty.int .i64 i, Ty.int .i64 k] [(24, Cont.vec LotE 57 (aimV b i k).1.lots)] (Ty.tup [Ty.agg (aimTys 21 24 (aimV b i k).1), Ty.int .i64 (aimV b i k).2]) := by
  refine fnG_intro Try.func47 rfl (by decide) Try.ntmps47 (by exact Nat.le_of_ble_eq_true rfl) fun w0 M0 => ?_
  have hs1 := hs.lots
  have hs2 := hs.sizes
  refine t_seq ?_
  refine t_region ?_
  refine r_box_agg rfl ?_
  refine r_alloc rfl (by exact List.cons_ne_nil _ _) rfl ?_
  refine asI rfl ?_
  refine r_nil ?_
  refine i_then ?_
  refine t_seq ?_
  refine t_seq ?_
  refine t_region ?_
  refine r_load_ppN rfl rfl rfl (by exact Nat.le_of_ble_eq_true rfl) ?_
  refine mvI rfl ?_
  refine r_call (c_known b hs i) rfl rfl rfl rfl rfl ?_
  refine asI rfl ?_
  refine r_nil ?_
  refine i_then ?_
  refine t_seq ?_
  refine t_region ?_
  refine mvI rfl ?_
  refine r_bin rfl rfl rfl ?_
  refine r_nil ?_
  refine i_then ?_
  refine t_cond_ndec rfl (fun hc1 => ?_) (fun hc1 => ?_)
  ·
    refine t_seq ?_
    refine t_vec0 (E := LotE) 57 24 ?_
    refine t_region ?_
    refine r_build rfl rfl (by exact List.cons_ne_nil _ _) rfl (by repeat (exact (Parts.nil : Parts _ _ [] _))) (by exact (rfl : _ = some [_, _])) ?_
    refine mvI rfl ?_
    refine r_storeN rfl rfl (by decide) rfl rfl rfl rfl rfl rfl ?_
    refine asI rfl ?_
    refine r_nil ?_
    refine i_then ?_
    refine t_ret ?_
    refine i_then_ret ?_
    refine g_rcell2 [21, 24] rfl rfl rfl rfl rfl (by decide) rfl rfl rfl (by decide) ?_ ?_ ?_
    · exact rc_cons rfl (cc_vec (by decide) (congrArg (fun x => x.1.lots) (aim_1 (k := k) hc1)).symm) rc_nil
    all_goals skip
    all_goals first | exact aim_nob (congrArg Prod.fst (aim_1 hc1)) | exact rg_cv (cv_eq rfl rfl (congrArg (Ty.int .i64) (congrArg Prod.snd (aim_1 hc1)).symm))
  ·
    refine t_skip ?_
    refine i_then ?_
    refine t_seq ?_
    have hkn := known_zero hc1
    refine t_draw mixed rfl ?_
    refine r_field_pp rfl rfl rfl rfl rfl (by decide) ?_
    refine r_load_pp rfl rfl rfl rfl ?_
    refine r_callG [(21, 6)] [21] [] (k_Clone_int b.sizes (by omega)) rfl rfl (by repeat (first | exact cv_nil | refine cv_cons ?_ ?_ | exact cv_pub rfl rfl)) pre_nil post_nil (cv_row (by exact List.mem_cons_self)) ?_
    refine r_field_pp rfl rfl rfl rfl rfl (by decide) ?_
    refine r_load_pp rfl rfl rfl rfl ?_
    refine r_callG [(24, 6)] [24] [] (k_Clone_lot b.lots (by omega)) rfl rfl (by repeat (first | exact cv_nil | refine cv_cons ?_ ?_ | exact cv_pub rfl rfl)) pre_nil post_nil (cv_row (by exact List.mem_cons_self)) ?_
    refine r_build rfl rfl (by exact List.cons_ne_nil _ _) rfl (by repeat (first | exact (Parts.nil : Parts _ _ [] _) | (show Parts _ _ ((_, _) :: _) _; apply Parts.one; (· exact (rfl : _ = Ty.row _ _ _ _)); (· exact rfl)))) (by exact (rfl : _ = some [_, _])) ?_
    refine r_alloc rfl (by exact List.cons_ne_nil _ _) rfl ?_
    refine r_storeN rfl rfl (by decide) rfl rfl rfl rfl rfl rfl ?_
    refine r_nil ?_
    refine ⟨by kernel_rfl, ?_⟩
    refine i_then ?_
    refine t_seq ?_
    refine t_own (s := 23) rfl rfl ?_
    refine t_asC (tg := 10) rfl (Cont.sub_cellsL (l' := [Ty.row I64 3 21 b.sizes, Ty.vs 24 b.lots.length]) ⟨Ty.sub_refl _, Ty.row_vs rfl, trivial⟩) ?_
    refine t_region ?_
    refine r_field_ptr rfl rfl rfl rfl rfl (by decide) ?_
    refine r_load_ptr rfl rfl (by decide) rfl rfl rfl ?_
    refine mvI rfl ?_
    refine mvI rfl ?_
    refine r_index_vsI rfl rfl rfl rfl rfl hkn.2.1 (by omega) ?_
    refine r_field_ptr rfl rfl rfl rfl rfl (by decide) ?_
    refine r_store_vecC (E := LotE) (z := ⟨(nth b.lots i.toNat).sacks, (nth b.lots i.toNat).inn, k⟩) rfl rfl rfl (by decide) rfl rfl (by exact (rfl : _ = Ty.int _ _)) rfl (by omega) (by decide) rfl rfl ?_
    refine r_nil ?_
    refine i_then ?_
    refine t_seq ?_
    refine t_seq ?_
    refine t_forget (B := live [(6, Ty.ptr 7 0), (9, Ty.ptr 10 0)] [(7, Cont.cells 25 [Ty.ex (.slice none 0 0), Ty.ex (.slice none 0 0)]), (10, Cont.cells 25 [Ty.row I64 3 21 b.sizes, Ty.vs 24 b.lots.length]), (24, Cont.vec LotE 57 (aimedB b i k).lots)]) ?_ ?_
    · (refine Ent.mk' ?_ ?_ <;> (repeat' (first | exact allSub_zero | exact allTags_nil | refine allSub_succ' ?_ (Ty.sub_any _) | refine allSub_succ' ?_ (Ty.sub_refl _) | refine allTags_cons rfl (Cont.sub_refl _) ?_)))
    refine t_region ?_
    refine r_load_ptrN rfl rfl (by decide) rfl rfl (by exact Nat.le_of_ble_eq_true rfl) ?_
    refine r_callLC [21, 24] (c_Check (aimedB b i k) (aimed_small hs i k)) rfl (lendcs_cons (lendc_agg (lendcs_cons (lendc_of (lend_row rfl)) (lendcs_cons (lendc_vs rfl List.length_set (by decide) rfl) lendcs_nil))) lendcs_nil) (by exact plain_int _ _) ?_
    refine asI rfl ?_
    refine r_nil ?_
    refine i_then ?_
    refine t_seq ?_
    refine t_region ?_
    refine mvI rfl ?_
    refine r_bin rfl rfl rfl ?_
    refine r_nil ?_
    refine i_then ?_
    refine t_cond_ndec rfl (fun hc2 => ?_) (fun hc2 => ?_)
    ·
      refine t_seq ?_
      refine t_vec0 (E := LotE) 57 24 ?_
      refine t_region ?_
      refine r_build rfl rfl (by exact List.cons_ne_nil _ _) rfl (by repeat (exact (Parts.nil : Parts _ _ [] _))) (by exact (rfl : _ = some [_, _])) ?_
      refine mvI rfl ?_
      refine r_storeN rfl rfl (by decide) rfl rfl rfl rfl rfl rfl ?_
      refine asI rfl ?_
      refine r_nil ?_
      refine i_then ?_
      refine t_ret ?_
      refine i_then_ret ?_
      refine g_rcell2 [21, 24] rfl rfl rfl rfl rfl (by decide) rfl rfl rfl (by decide) ?_ ?_ ?_
      · exact rc_cons rfl (cc_vec (by decide) (congrArg (fun x => x.1.lots) (aim_2 hc1 hc2)).symm) rc_nil
      all_goals skip
      all_goals first | exact aim_nob (congrArg Prod.fst (aim_2 hc1 hc2)) | exact rg_cv (cv_eq rfl rfl (congrArg (Ty.int .i64) (congrArg Prod.snd (aim_2 hc1 hc2)).symm))
    ·
      refine t_skip ?_
      refine i_then ?_
      refine t_seq ?_
      refine t_region ?_
      refine r_load_ptrN rfl rfl (by decide) rfl rfl (by exact Nat.le_of_ble_eq_true rfl) ?_
      refine r_storeN rfl rfl (by decide) rfl rfl rfl rfl rfl rfl ?_
      refine asI rfl ?_
      refine r_nil ?_
      refine i_then ?_
      refine t_ret ?_
      refine g_rcell2 [21, 24] rfl rfl rfl rfl rfl (by decide) rfl rfl rfl (by decide) ?_ ?_ ?_
      · exact rc_cons rfl (cc_vec (by decide) (congrArg (fun x => x.1.lots) (aim_3 hc1 hc2)).symm) rc_nil
      all_goals skip
      all_goals first | exact aim_okL (aim_3 hc1 hc2) | exact rg_cv (cv_eq rfl rfl (congrArg (Ty.int .i64) (congrArg Prod.snd (aim_3 hc1 hc2)).symm))
end Go.Proofs.Ytpnndljmhpepgaa

namespace Go.T
open Go Go.RowKit
end Go.T

namespace Go.T
open Go Go.RowKit
section
variable {P : Program} {fr : Fr} {A : As} {c : Code} {Q : Exit → Act → World → Prop}
theorem t_ownCell {α : Type} {E : El α} {T Tc tg c0 : Nat} {l : List Ty} {xs : List α} (i : Nat) (hc : A.tag c0 = some (.cells Tc l)) (hi : l[i]? = some (.row E T tg xs))
    (h : Tri P fr c ⟨A.slots, (tg, .vec E T xs) :: A.tags⟩ Q) : Tri P fr c A Q := fun a w ⟨M, ok, hsl, ht⟩ => by
  refine h a w ⟨M, ok, hsl, fun x hx => ?_⟩
  rcases List.mem_cons.1 hx with rfl | hx
  · obtain ⟨b, cs, hb, hh, hd⟩ := ht _ (tag_mem hc)
    obtain ⟨v, _, ⟨ds, h1, h2, h3⟩⟩ := dens_get hd i _ hi
    rcases h1.2 with ⟨e, h0⟩ | ⟨g, cap, cur, ex, _, hh, hn1, hcap, _, htk⟩
    · exact .inl (List.length_eq_zero_iff.1 h0)
    · have hg : M g = some tg := h3 g (by rw [ex]; rfl)
      exact .inr ⟨g, cur, hg, hh, by rw [flat_len, htk]; exact h2⟩
  · exact ht x hx
end
end Go.T

namespace Go.Proofs.Ytpnndljmhpepgaa
open Go Go.T
set_option maxHeartbeats 6000000
def takenU (b : Barn) (k : Int) (j : Nat) : Bool := ((b.lots.map (·.inn)).take j).any fun n => decide (n = k)
theorem takenU_zero (b : Barn) (k : Int) : takenU b k 0 = false := rfl
theorem takenU_succ {b : Barn} {k : Int} {j : Nat} (hj : j < (b.lots.map (·.inn)).length) : (takenU b k j || decide (nth (b.lots.map (·.inn)) j = k)) = takenU b k (j + 1) := by
  unfold takenU; rw [take_nth hj, List.any_append]; simp
theorem takenU_all {b : Barn} {k : Int} {j : Nat} (hj : (b.lots.map (·.inn)).length ≤ j) : (!takenU b k j) = b.free k := by
  unfold takenU Barn.free
  rw [List.take_of_length_le hj, List.any_map, Bool.eq_iff_iff, Bool.not_eq_true', List.any_eq_false, List.all_eq_true]
  simp
theorem free_in {b : Barn} {k j : Nat} {v : Bool} (hj : (b.lots.map (·.inn)).length ≤ j) (h : (!takenU b k j) = v) : b.free (k : Int) = v := (takenU_all hj).symm.trans h
theorem known_in {b : Barn} {i : Int} (h0 : checkB b = 0) (h : (decide (i ≥ 0) && decide (i < (b.lots.length : Int))) = true) : 0 = knownE b i ∧ 0 ≤ i ∧ i < b.lots.length := by
  simp only [Bool.and_eq_true, decide_eq_true_eq] at h
  have hl : b.lot i = true := by unfold Barn.lot; rw [inB_true]; omega
  unfold knownE
  rw [h0, hl, if_neg (by simp)]
  omega
theorem known_out {b : Barn} {i : Int} (h0 : checkB b = 0) (h : (decide (i ≥ 0) && decide (i < (b.lots.length : Int))) = false) : 1 = knownE b i := by
  have hl : b.lot i = false := by
    rw [Bool.eq_false_iff]; intro hl
    unfold Barn.lot at hl; rw [inB_true] at hl
    rw [Bool.and_eq_false_iff, decide_eq_false_iff_not, decide_eq_false_iff_not] at h
    omega
  unfold knownE
  rw [if_pos ⟨h0, hl⟩]
theorem known_bad {b : Barn} {i : Int} (h0 : ¬ checkB b = 0) : checkB b = knownE b i := by unfold knownE; rw [if_neg fun h => h0 h.1]
def freeR (b : Barn) : List Int := if checkB b = 0 then freeL b else []
def holdR (b : Barn) (i : Int) : List Int := if knownE b i = 0 then holdL b i else []
def mustR (b : Barn) : List Int := if checkB b = 0 then mustL b else []
def ringR (b : Barn) : List (List Int) := if checkB b = 0 then ringsL b else []
theorem lots_bnd {b : Barn} (hr : b.Right) : ∀ l ∈ b.lots, 0 ≤ l.inn ∧ -1 ≤ l.aim := fun l hl => ⟨(hr.inn l hl).1, (hr.aim l hl).1⟩
theorem ring_flat {l : List (List Int)} (h1 : l.length ≤ 10) (h2 : ∀ x ∈ l, x.length ≤ 10) : l.flatten.length ≤ 1000000 := by
  have key : ∀ (l : List (List Int)), (∀ x ∈ l, x.length ≤ 10) → l.flatten.length ≤ 10 * l.length := by
    intro l
    induction l with
    | nil => intro _; simp
    | cons x l ih =>
      intro h
      have a := h x List.mem_cons_self
      have c := ih fun y hy => h y (List.mem_cons_of_mem _ hy)
      rw [List.flatten_cons, List.length_append, List.length_cons]; omega
  have := key l h2
  omega
theorem great_no {b : Barn} {n : Int} (h : (greatV b || decide (n > 10)) = false) : b.Small ∧ n ≤ 10 := by
  rw [Bool.or_eq_false_iff, decide_eq_false_iff_not] at h
  exact ⟨small_great h.1, by omega⟩
theorem lchk {b : Barn} {i k : Int} {rings : List (List Int)} : ((((((((((((!decide (checkB b = checkB b) || !decide (knownE b i = knownE b i)) || !decide (checkB b = checkB b)) || !decide (checkB b = checkB b)) || !decide ((showV b rings).2 = (showV b rings).2)) || !decide ((aimV b i k).2 = (aimV b i k).2)) || !decide (freeR b = freeR b)) || !decide (holdR b i = holdR b i)) || !decide (mustR b = mustR b)) || !decide (ringR b = ringR b)) || !decide ((showV b rings).1 = (showV b rings).1)) || !sameV (aimV b i k).1 (aimV b i k).1)) = false := by
  rw [sameV_self]; simp
section
variable {b : Barn} {i k : Int} {rings : List (List Int)}
theorem av_bad (h : ¬ checkB b = 0) : aimV b i k = (noB, checkB b) := by
  have e := known_bad (i := i) h
  rw [e]; exact aim_1 (by rw [← e]; exact h)
theorem av_out (h0 : checkB b = 0) (h : (decide (i ≥ 0) && decide (i < (b.lots.length : Int))) = false) : aimV b i k = (noB, 1) := by
  have e := known_out h0 h
  have := aim_1 (b := b) (i := i) (k := k) (by rw [← e]; decide)
  rw [← e] at this; exact this
theorem av_no (h0 : checkB b = 0) (h : (decide (i ≥ 0) && decide (i < (b.lots.length : Int))) = true) (h2 : ¬ checkB (aimedB b i k) = 0) : aimV b i k = (noB, checkB (aimedB b i k)) := aim_2 (known_in h0 h).1.symm h2
theorem av_ok (h0 : checkB b = 0) (h : (decide (i ≥ 0) && decide (i < (b.lots.length : Int))) = true) (h2 : checkB (aimedB b i k) = 0) : aimV b i k = (aimedB b i k, checkB (aimedB b i k)) := by rw [h2]; exact aim_3 (known_in h0 h).1.symm h2
theorem free_bad (h : ¬ checkB b = 0) : [] = freeR b := (if_neg h).symm
theorem free_ok (h : checkB b = 0) {q : Nat} (hq : q = b.sizes.length) : filtUp (fun k => b.free k) q = freeR b := by subst hq; exact (if_pos h).symm
theorem hold_bad (h : ¬ checkB b = 0) : [] = holdR b i := (if_neg (by rw [← known_bad h]; exact h)).symm
theorem hold_out (h0 : checkB b = 0) (h : (decide (i ≥ 0) && decide (i < (b.lots.length : Int))) = false) : [] = holdR b i := (if_neg (by rw [← known_out h0 h]; decide)).symm
theorem hold_ok (h0 : checkB b = 0) (h : (decide (i ≥ 0) && decide (i < (b.lots.length : Int))) = true) {z : Nat} (hz : z = b.sizes.length) : filtUp (fun k => b.hold k i) z = holdR b i := by subst hz; exact (if_pos (known_in h0 h).1.symm).symm
theorem must_bad (h : ¬ checkB b = 0) : mustR b = [] := if_neg h
theorem must_okR (h : checkB b = 0) : mustL b = mustR b := (if_pos h).symm
theorem ring_bad (h : ¬ checkB b = 0) : ringR b = [] := if_neg h
theorem ring_okR (h : checkB b = 0) : ringsL b = ringR b := (if_pos h).symm
theorem sz_no {x : Barn × Int} {e : Int} (h : x = (noB, e)) : x.1.sizes = [] ∧ x.1.lots = [] := by subst h; exact ⟨rfl, rfl⟩
end
theorem nil_of_sl {α : Type} {E : El α} {xs : List α} (e : xs = []) : (Ty.ex (.slice none 0 0)).Sub (Ty.sl E xs) := by subst e; exact Ty.nil_sl
attribute [local irreducible] aimV knownE showV showsR freeL holdL mustL ringsL checkB checkR sameV takenU Barn.free Barn.hold
attribute [local irreducible] dInt dBool dSl dPp dPtr dAgg dTup dClo dAny dEx dStr dGd dCells dVec dVs dRow dOp nth Tri Into TOps Ctr bodyPost Exit.then Exit.inBlock Code.wp Code.wpIn dWhen dPa dPe dAo dArr dMp dPm dMap dCJ CtrG CtrI OpY keepPost iterPost bodyPostM roundQ
attribute [local irreducible] dRowJ dMs dFit
set_option maxRecDepth 100000 in
theorem c_TurnChecks (b : Barn) (i k : Int) (rings : List (List Int)) : Ctr Try.prog 5 [barnT b, Ty.int .i64 i, Ty.int .i64 k, Ty.sl RowE rings] (Ty.bool true) := by
  refine fn_intro Try.func5 rfl (by decide) Try.ntmps5 (by exact Nat.le_of_ble_eq_true rfl) fun w0 M0 => ?_
  refine t_fact (s := 3) rfl rfl sl_len fun hl => ?_
  refine t_seq ?_
  refine t_region ?_
  refine r_box_agg rfl ?_
  refine asB rfl ?_
  refine r_nil ?_
  refine i_then ?_
  refine t_seq ?_
  refine t_seq ?_
  refine t_region ?_
  refine r_load_ppN rfl rfl rfl (by exact Nat.le_of_ble_eq_true rfl) ?_
  refine r_call (c_great b) rfl rfl rfl rfl rfl ?_
  refine mvB rfl ?_
  apply r_guard (s := 45) rfl rfl rfl
  · intro hg; apply opT_of; (refine mvS rfl ?_); refine r_nil ?_; exact rfl
  · exact rfl
  · exact rfl
  apply r_guard (s := 45) rfl rfl rfl
  · intro hg; apply opT_strip (s := 46) rfl (by (rw [hg]; rfl)); apply opT_of; (refine r_len rfl rfl rfl ?_); refine r_nil ?_; exact rfl
  · exact rfl
  · exact rfl
  apply r_guard (s := 45) rfl rfl rfl
  · intro hg; apply opT_strip (s := 47) rfl (by (rw [hg]; rfl)); apply opT_of; (refine r_bin rfl rfl rfl ?_); refine r_nil ?_; exact rfl
  · exact rfl
  · exact rfl
  refine r_or rfl rfl ?_
  refine r_nil ?_
  refine i_then ?_
  refine t_cond rfl (fun hc1 => ?_) (fun hc1 => ?_)
  ·
    refine t_seq ?_
    refine t_region ?_
    refine r_call (c_awake) rfl rfl rfl rfl rfl ?_
    refine asB rfl ?_
    refine r_nil ?_
    refine i_then ?_
    refine t_ret ?_
    refine i_then_ret ?_
    refine i_rp1 rfl rfl ?_
    all_goals exact ret_refl rfl rfl
    all_goals trace_state
  ·
    refine t_skip ?_
    refine i_then ?_
    refine t_seq ?_
    refine t_seq ?_
    obtain ⟨hs, hn10⟩ := great_no hc1
    have hs1 := hs.sizes
    have hs2 := hs.lots
    refine t_region ?_
    refine mvS rfl ?_
    refine r_len rfl rfl rfl ?_
    refine mvI rfl ?_
    refine r_nil ?_
    refine i_then ?_
    refine t_block ?_
    refine t_loop (fun (m : {m : Nat // ∀ l ∈ rings.take m, decide ((l.length : Int) > 10) = false}) => live [(1, Ty.int .i64 i), (2, Ty.int .i64 k), (3, Ty.sl RowE rings), (4, Ty.pp (barnTys b)), (51, Ty.sl RowE rings), (52, Ty.int .i64 rings.length), (53, Ty.int .i64 (m.1 : Nat))] []) (fun m => rings.length - m.1) (⟨0, by simp⟩) ?_ fun m => ?_
    · (refine Ent.mk' ?_ ?_ <;> (repeat' (first | exact allSub_zero | exact allTags_nil | refine allSub_succ' ?_ (Ty.sub_any _) | refine allSub_succ' ?_ (Ty.sub_refl _))))
    ·
      refine t_seq ?_
      refine t_region ?_
      refine r_bin rfl rfl rfl ?_
      refine r_nil ?_
      refine i_then ?_
      refine t_seq ?_
      refine t_cond_dec rfl (fun hc2 => ?_) (fun hc2 => ?_)
      ·
        refine t_skip ?_
        refine i_then ?_
        refine t_seq ?_
        refine t_block ?_
        refine t_seq ?_
        refine t_region ?_
        refine r_index_slN rfl rfl rfl rfl rfl rfl (by omega) ?_
        refine r_load_pp rfl rfl rfl rfl ?_
        refine asS rfl ?_
        refine r_nil ?_
        refine i_then ?_
        refine t_seq ?_
        refine t_region ?_
        refine mvS rfl ?_
        refine r_len rfl rfl rfl ?_
        refine r_bin rfl rfl rfl ?_
        refine r_nil ?_
        refine i_then ?_
        refine t_cond_dec rfl (fun hc3 => ?_) (fun hc3 => ?_)
        ·
          refine t_seq ?_
          refine t_region ?_
          refine r_call (c_awake) rfl rfl rfl rfl rfl ?_
          refine asB rfl ?_
          refine r_nil ?_
          refine i_then ?_
          refine t_ret ?_
          refine i_block_ret ?_
          refine i_then_ret ?_
          refine i_then_ret ?_
          refine i_block_ret ?_
          refine i_then_ret ?_
          refine i_rp1 rfl rfl ?_
          all_goals exact ret_refl rfl rfl
          all_goals trace_state
        ·
          refine t_skip ?_
          refine i_block ?_
          refine i_then ?_
          refine t_region ?_
          refine r_add rfl rfl (by omega) (by omega) ?_
          refine mvI rfl ?_
          refine r_nil ?_
          refine i_round (⟨m.1 + 1, ext_false m.2 (by omega) (decide_eq_false hc3)⟩) ?_ (by show rings.length - (m.1 + 1) < rings.length - m.1; omega)
          (refine Ent.mk' ?_ ?_ <;> (repeat' (first | exact allSub_zero | exact allTags_nil | refine allSub_succ' ?_ (Ty.sub_any _) | refine allSub_succ' ?_ (Ty.sub_refl _))))
          all_goals skip
      ·
        refine t_exit ?_
        refine i_then_exit ?_
        refine i_then_exit ?_
        refine i_block_exit rfl ?_
        refine i_then ?_
        refine t_seq ?_
        have hr10 : ∀ l ∈ rings, l.length ≤ 10 := fun l hl => by have h := m.2 l (by rw [List.take_of_length_le (by omega)]; exact hl); rw [decide_eq_false_iff_not] at h; omega
        have hfl := ring_flat (by omega) hr10
        refine t_draw mixed rfl ?_
        refine r_load_ppN rfl rfl rfl (by exact Nat.le_of_ble_eq_true rfl) ?_
        refine r_call (c_Own b hs) rfl rfl rfl rfl rfl ?_
        refine r_load_ppN rfl rfl rfl (by exact Nat.le_of_ble_eq_true rfl) ?_
        refine r_call (c_theirs b hs) rfl rfl rfl rfl rfl ?_
        refine mvS rfl ?_
        refine r_call (c_DupRows rings (by omega) (fun x hx => by have := hr10 x hx; omega)) rfl rfl rfl rfl rfl ?_
        refine r_alloc rfl (by exact List.cons_ne_nil _ _) rfl ?_
        refine r_alloc rfl (by exact List.cons_ne_nil _ _) rfl ?_
        refine r_storeN rfl rfl (by decide) rfl rfl rfl rfl rfl rfl ?_
        refine r_storeN rfl rfl (by decide) rfl rfl rfl rfl rfl rfl ?_
        refine asS rfl ?_
        refine r_nil ?_
        refine ⟨by kernel_rfl, ?_⟩
        refine i_then ?_
        refine t_seq ?_
        refine t_region ?_
        refine r_load_ptrN rfl rfl (by decide) rfl rfl (by exact Nat.le_of_ble_eq_true rfl) ?_
        refine r_call (c_rCheck b hs) rfl rfl rfl rfl rfl ?_
        refine asI rfl ?_
        refine r_nil ?_
        refine i_then ?_
        refine t_seq ?_
        refine t_seq ?_
        refine t_as (s := 14) rfl (Ty.sub_int (check_eq b)) ?_
        refine t_region ?_
        refine r_load_ptrN rfl rfl (by decide) rfl rfl (by exact Nat.le_of_ble_eq_true rfl) ?_
        refine r_call (c_Check b hs) rfl rfl rfl rfl rfl ?_
        refine mvI rfl ?_
        refine r_bin rfl rfl rfl ?_
        refine r_nil ?_
        refine i_then ?_
        refine t_cond_ff rfl (by simp) ?_
        refine t_skip ?_
        refine i_then ?_
        refine t_seq ?_
        refine t_region ?_
        refine mvI rfl ?_
        refine mvI rfl ?_
        refine mvI rfl ?_
        refine asI rfl ?_
        refine asI rfl ?_
        refine asI rfl ?_
        refine r_nil ?_
        refine i_then ?_
        refine t_seq ?_
        refine t_region ?_
        refine asX rfl ?_
        refine asX rfl ?_
        refine asX rfl ?_
        refine r_nil ?_
        refine i_then ?_
        refine t_seq ?_
        refine t_region ?_
        refine asX rfl ?_
        refine r_nil ?_
        refine i_then ?_
        refine t_seq ?_
        refine t_region ?_
        refine asI rfl ?_
        refine r_nil ?_
        refine i_then ?_
        refine t_seq ?_
        refine t_region ?_
        refine r_alloc rfl (by exact List.cons_ne_nil _ _) rfl ?_
        refine r_nil ?_
        refine i_then ?_
        refine t_join (J := live [(1, Ty.int .i64 i), (2, Ty.int .i64 k), (3, Ty.sl RowE rings), (4, Ty.pp (barnTys b)), (11, Ty.ptr 12 0), (13, Ty.sl RowE rings), (14, Ty.int .i64 (checkB b)), (15, Ty.int .i64 (knownE b i)), (16, Ty.int .i64 (aimV b i k).2), (17, Ty.int .i64 (showV b rings).2), (18, Ty.row I64 3 106 (freeR b)), (19, Ty.row I64 3 146 (holdR b i)), (20, Ty.sl I64 (mustR b)), (21, Ty.sl RowE (ringR b)), (22, Ty.int .i64 (showV b rings).1), (23, Ty.ptr 24 0)] [(12, Cont.cells 25 (barnTys b)), (24, Cont.cells 25 (barnTys (aimV b i k).1))]) ?_ ?_
        ·
          refine t_seq ?_
          refine t_region ?_
          refine mvI rfl ?_
          refine r_bin rfl rfl rfl ?_
          refine r_nil ?_
          refine i_then ?_
          refine t_cond_dec rfl (fun hc5 => ?_) (fun hc5 => ?_)
          ·
            refine t_seq ?_
            have hr := check_right hc5
            refine t_region ?_
            refine r_load_ptrN rfl rfl (by decide) rfl rfl (by exact Nat.le_of_ble_eq_true rfl) ?_
            refine r_call (c_rFirst b hs) rfl rfl rfl rfl rfl ?_
            refine asS rfl ?_
            refine r_nil ?_
            refine i_then ?_
            refine t_seq ?_
            refine t_seq ?_
            refine t_region ?_
            refine r_field_pp rfl rfl rfl rfl rfl (by decide) ?_
            refine r_load_pp rfl rfl rfl rfl ?_
            refine r_len rfl rfl rfl ?_
            refine mvI rfl ?_
            refine r_nil ?_
            refine i_then ?_
            refine t_block ?_
            refine t_loop (fun (q : {q : Nat // q ≤ b.sizes.length}) => live [(1, Ty.int .i64 i), (2, Ty.int .i64 k), (3, Ty.sl RowE rings), (4, Ty.pp (barnTys b)), (11, Ty.ptr 12 0), (12, Ty.ptr 13 0), (13, Ty.sl RowE rings), (14, Ty.int .i64 (checkB b)), (18, Ty.row I64 3 106 (filtUp (fun k => b.free k) q.1)), (19, Ty.ex (.slice none 0 0)), (23, Ty.ptr 24 0), (24, Ty.sl I64 (b.lots.map (·.inn))), (82, Ty.sl I64 b.sizes), (83, Ty.int .i64 b.sizes.length), (84, Ty.int .i64 (q.1 : Nat))] [(12, Cont.cells 25 (barnTys b)), (13, Cont.cells 31 (barnTys b)), (24, Cont.cells 25 [Ty.ex (.slice none 0 0), Ty.ex (.slice none 0 0)])]) (fun q => b.sizes.length - q.1) (⟨0, by omega⟩) ?_ fun q => ?_
            · (refine Ent.mk' ?_ ?_ <;> (repeat' (first | exact allSub_zero | exact allTags_nil | refine allSub_succ' ?_ (Ty.sub_any _) | refine allSub_succ' ?_ (Ty.sub_refl _) | refine allSub_succ' ?_ Ty.nil_row | refine allTags_cons rfl (Cont.sub_refl _) ?_)))
              all_goals trace_state
            ·
              have hq := q.2
              have hfu := filtUp_len (fun k => b.free k) q.1
              refine t_seq ?_
              refine t_region ?_
              refine r_bin rfl rfl rfl ?_
              refine r_nil ?_
              refine i_then ?_
              refine t_seq ?_
              refine t_cond_dec rfl (fun hc6 => ?_) (fun hc6 => ?_)
              ·
                refine t_skip ?_
                refine i_then ?_
                refine t_seq ?_
                refine t_block ?_
                refine t_seq ?_
                refine t_region ?_
                refine mvI rfl ?_
                refine asI rfl ?_
                refine r_nil ?_
                refine i_then ?_
                refine t_seq ?_
                refine t_region ?_
                refine asB rfl ?_
                refine r_nil ?_
                refine i_then ?_
                refine t_seq ?_
                refine t_seq ?_
                refine t_region ?_
                refine mvS rfl ?_
                refine r_len rfl rfl rfl ?_
                refine mvI rfl ?_
                refine r_nil ?_
                refine i_then ?_
                refine t_block ?_
                refine t_loop (fun (j : {j : Nat // j ≤ (b.lots.map (·.inn)).length}) => live [(1, Ty.int .i64 i), (2, Ty.int .i64 k), (3, Ty.sl RowE rings), (4, Ty.pp (barnTys b)), (11, Ty.ptr 12 0), (12, Ty.ptr 13 0), (13, Ty.sl RowE rings), (14, Ty.int .i64 (checkB b)), (18, Ty.row I64 3 106 (filtUp (fun k => b.free k) q.1)), (19, Ty.ex (.slice none 0 0)), (23, Ty.ptr 24 0), (24, Ty.sl I64 (b.lots.map (·.inn))), (25, Ty.int .i64 (q.1 : Nat)), (26, Ty.bool (takenU b q.1 j.1)), (82, Ty.sl I64 b.sizes), (83, Ty.int .i64 b.sizes.length), (84, Ty.int .i64 (q.1 : Nat)), (87, Ty.sl I64 (b.lots.map (·.inn))), (88, Ty.int .i64 (b.lots.map (·.inn)).length), (89, Ty.int .i64 (j.1 : Nat))] [(12, Cont.cells 25 (barnTys b)), (13, Cont.cells 31 (barnTys b)), (24, Cont.cells 25 [Ty.ex (.slice none 0 0), Ty.ex (.slice none 0 0)])]) (fun j => (b.lots.map (·.inn)).length - j.1) (⟨0, by omega⟩) ?_ fun j => ?_
                · (refine Ent.mk' ?_ ?_ <;> (repeat' (first | exact allSub_zero | exact allTags_nil | refine allSub_succ' ?_ (Ty.sub_any _) | refine allSub_succ' ?_ (Ty.sub_refl _) | refine allTags_cons rfl (Cont.sub_refl _) ?_ | refine allSub_succ' ?_ ?_)))
                  all_goals exact Ty.sub_bool (takenU_zero b _).symm
                ·
                  have hj := j.2
                  have hml : (b.lots.map (·.inn)).length ≤ 10 := by rw [List.length_map]; exact hs2
                  refine t_seq ?_
                  refine t_region ?_
                  refine r_bin rfl rfl rfl ?_
                  refine r_nil ?_
                  refine i_then ?_
                  refine t_seq ?_
                  refine t_cond_dec rfl (fun hc7 => ?_) (fun hc7 => ?_)
                  ·
                    refine t_skip ?_
                    refine i_then ?_
                    refine t_seq ?_
                    refine t_block ?_
                    refine t_seq ?_
                    refine t_region ?_
                    refine r_index_slN rfl rfl rfl rfl rfl rfl (by omega) ?_
                    refine r_load_pp rfl rfl rfl rfl ?_
                    refine asI rfl ?_
                    refine r_nil ?_
                    refine i_then ?_
                    refine t_region ?_
                    refine mvB rfl ?_
                    refine mvB rfl ?_
                    apply r_guard (s := 94) rfl rfl rfl
                    · intro hg; apply opT_of; (refine mvI rfl ?_); refine r_nil ?_; exact rfl
                    · exact rfl
                    · exact rfl
                    apply r_guard (s := 94) rfl rfl rfl
                    · intro hg; apply opT_of; (refine mvI rfl ?_); refine r_nil ?_; exact rfl
                    · exact rfl
                    · exact rfl
                    apply r_guard (s := 94) rfl rfl rfl
                    · intro hg; apply opT_strip (s := 95) rfl (by (rw [hg]; rfl)); apply opT_strip (s := 96) rfl (by (rw [hg]; rfl)); apply opT_of; (refine r_bin rfl rfl rfl ?_); refine r_nil ?_; exact rfl
                    · exact rfl
                    · exact rfl
                    refine r_or rfl rfl ?_
                    refine asB rfl ?_
                    refine r_nil ?_
                    refine i_block ?_
                    refine i_then ?_
                    refine t_region ?_
                    refine r_add rfl rfl (by omega) (by omega) ?_
                    refine mvI rfl ?_
                    refine r_nil ?_
                    refine i_round (⟨j.1 + 1, by omega⟩) ?_ (by show (b.lots.map (·.inn)).length - (j.1 + 1) < (b.lots.map (·.inn)).length - j.1; omega)
                    (refine Ent.mk' ?_ ?_ <;> (repeat' (first | exact allSub_zero | exact allTags_nil | refine allSub_succ' ?_ (Ty.sub_any _) | refine allSub_succ' ?_ (Ty.sub_refl _) | refine allTags_cons rfl (Cont.sub_refl _) ?_ | refine allSub_succ' ?_ ?_)))
                    all_goals skip
                    all_goals exact Ty.sub_bool (takenU_succ (by omega))
                  ·
                    refine t_exit ?_
                    refine i_then_exit ?_
                    refine i_then_exit ?_
                    refine i_block_exit rfl ?_
                    refine i_then ?_
                    refine t_seq ?_
                    refine t_region ?_
                    refine mvB rfl ?_
                    refine r_not rfl ?_
                    refine r_nil ?_
                    refine i_then ?_
                    refine t_cond rfl (fun hc8 => ?_) (fun hc8 => ?_)
                    ·
                      refine t_region ?_
                      refine mvR rfl ?_
                      refine mvI rfl ?_
                      refine r_buildSlice (E := I64) (xs := [(q.1 : Int)]) rfl rfl rfl rfl rfl (by decide) (by decide) (by repeat (first | exact (Parts.nil : Parts _ _ [] _) | (show Parts _ _ ((_, _) :: _) _; apply Parts.one; (· exact (rfl : _ = Ty.int _ _)); (· exact rfl)))) (by exact rfl) rfl ?_
                      refine r_append rfl rfl (by decide) rfl rfl rfl rfl rfl rfl (by decide) (by (simp <;> omega)) (by (simp <;> omega)) ?_
                      refine asR rfl ?_
                      refine r_nil ?_
                      refine i_block ?_
                      refine i_then ?_
                      refine t_region ?_
                      refine r_add rfl rfl (by omega) (by omega) ?_
                      refine mvI rfl ?_
                      refine r_nil ?_
                      refine i_round (⟨q.1 + 1, by omega⟩) ?_ (by show b.sizes.length - (q.1 + 1) < b.sizes.length - q.1; omega)
                      (refine Ent.mk' ?_ ?_ <;> (repeat' (first | exact allSub_zero | exact allTags_nil | refine allSub_succ' ?_ (Ty.sub_any _) | refine allSub_succ' ?_ (Ty.sub_refl _) | refine allTags_cons rfl (Cont.sub_refl _) ?_ | refine allSub_succ' ?_ ?_)))
                      all_goals skip
                      all_goals exact Ty.sub_row (filtUp_yes (p := fun k => b.free k) (n := q.1) (free_in (by omega) hc8))
                    ·
                      refine t_skip ?_
                      refine i_block ?_
                      refine i_then ?_
                      refine t_region ?_
                      refine r_add rfl rfl (by omega) (by omega) ?_
                      refine mvI rfl ?_
                      refine r_nil ?_
                      refine i_round (⟨q.1 + 1, by omega⟩) ?_ (by show b.sizes.length - (q.1 + 1) < b.sizes.length - q.1; omega)
                      (refine Ent.mk' ?_ ?_ <;> (repeat' (first | exact allSub_zero | exact allTags_nil | refine allSub_succ' ?_ (Ty.sub_any _) | refine allSub_succ' ?_ (Ty.sub_refl _) | refine allTags_cons rfl (Cont.sub_refl _) ?_ | refine allSub_succ' ?_ ?_)))
                      all_goals skip
                      all_goals exact Ty.sub_row (filtUp_no (p := fun k => b.free k) (n := q.1) (free_in (by omega) hc8))
              ·
                refine t_exit ?_
                refine i_then_exit ?_
                refine i_then_exit ?_
                refine i_block_exit rfl ?_
                refine i_then ?_
                refine t_seq ?_
                refine t_draw mixed rfl ?_
                refine r_load_ptrN rfl rfl (by decide) rfl rfl (by exact Nat.le_of_ble_eq_true rfl) ?_
                refine r_call (c_rMust b hs (lots_bnd hr)) rfl rfl rfl rfl rfl ?_
                refine r_load_ptrN rfl rfl (by decide) rfl rfl (by exact Nat.le_of_ble_eq_true rfl) ?_
                refine r_call (c_rRings b hs) rfl rfl rfl rfl rfl ?_
                refine asS rfl ?_
                refine asS rfl ?_
                refine r_nil ?_
                refine ⟨by kernel_rfl, ?_⟩
                refine i_then ?_
                refine t_seq ?_
                refine t_region ?_
                refine r_load_ptrN rfl rfl (by decide) rfl rfl (by exact Nat.le_of_ble_eq_true rfl) ?_
                refine mvS rfl ?_
                refine r_call (c_rShows b hs (lots_bnd hr) rings (by omega) hfl) rfl rfl rfl rfl rfl ?_
                refine mvT rfl ?_
                refine r_extract rfl rfl ?_
                refine r_extract rfl rfl ?_
                refine asI rfl ?_
                refine asI rfl ?_
                refine r_nil ?_
                refine i_then ?_
                refine t_seq ?_
                refine t_region ?_
                refine asI rfl ?_
                refine asI rfl ?_
                refine r_nil ?_
                refine i_then ?_
                refine t_seq ?_
                refine t_region ?_
                refine mvI rfl ?_
                refine r_bin rfl rfl rfl ?_
                refine mvB rfl ?_
                apply r_guard (s := 119) rfl rfl rfl
                · intro hg; apply opT_of; (refine mvI rfl ?_); refine r_nil ?_; exact rfl
                · exact rfl
                · exact rfl
                apply r_guard (s := 119) rfl rfl rfl
                · intro hg; apply opT_of; (refine r_field_pp rfl rfl rfl rfl rfl (by decide) ?_); refine r_nil ?_; exact rfl
                · exact rfl
                · exact rfl
                apply r_guard (s := 119) rfl rfl rfl
                · intro hg; apply opT_strip (s := 121) rfl (by (rw [hg]; rfl)); apply opT_of; (refine r_load_pp rfl rfl rfl rfl ?_); refine r_nil ?_; exact rfl
                · exact rfl
                · exact rfl
                apply r_guard (s := 119) rfl rfl rfl
                · intro hg; apply opT_strip (s := 122) rfl (by (rw [hg]; rfl)); apply opT_of; (refine r_len rfl rfl rfl ?_); refine r_nil ?_; exact rfl
                · exact rfl
                · exact rfl
                apply r_guard (s := 119) rfl rfl rfl
                · intro hg; apply opT_strip (s := 120) rfl (by (rw [hg]; rfl)); apply opT_strip (s := 123) rfl (by (rw [hg]; rfl)); apply opT_of; (refine r_bin rfl rfl rfl ?_); refine r_nil ?_; exact rfl
                · exact rfl
                · exact rfl
                refine r_and rfl rfl ?_
                refine r_nil ?_
                refine i_then ?_
                refine t_cond rfl (fun hc9 => ?_) (fun hc9 => ?_)
                ·
                  refine t_seq ?_
                  obtain ⟨hk0, hki⟩ := known_in hc5 hc9
                  refine t_region ?_
                  refine asI rfl ?_
                  refine r_nil ?_
                  refine i_then ?_
                  refine t_seq ?_
                  refine t_seq ?_
                  refine t_region ?_
                  refine r_field_pp rfl rfl rfl rfl rfl (by decide) ?_
                  refine r_load_pp rfl rfl rfl rfl ?_
                  refine r_len rfl rfl rfl ?_
                  refine mvI rfl ?_
                  refine r_nil ?_
                  refine i_then ?_
                  refine t_block ?_
                  refine t_loop (fun (z : {z : Nat // z ≤ b.sizes.length}) => live [(1, Ty.int .i64 i), (2, Ty.int .i64 k), (3, Ty.sl RowE rings), (4, Ty.pp (barnTys b)), (11, Ty.ptr 12 0), (13, Ty.sl RowE rings), (14, Ty.int .i64 (checkB b)), (15, Ty.int .i64 0), (17, Ty.int .i64 (showsR b rings).2), (18, Ty.row I64 3 106 (filtUp (fun k => b.free k) q.1)), (19, Ty.row I64 3 146 (filtUp (fun k => b.hold k i) z.1)), (20, Ty.sl I64 (mustL b)), (21, Ty.sl RowE (ringsL b)), (22, Ty.int .i64 (showsR b rings).1), (23, Ty.ptr 24 0), (127, Ty.sl I64 b.sizes), (128, Ty.int .i64 b.sizes.length), (129, Ty.int .i64 (z.1 : Nat))] [(12, Cont.cells 25 (barnTys b)), (24, Cont.cells 25 [Ty.ex (.slice none 0 0), Ty.ex (.slice none 0 0)])]) (fun z => b.sizes.length - z.1) (⟨0, by omega⟩) ?_ fun z => ?_
                  · (refine Ent.mk' ?_ ?_ <;> (repeat' (first | exact allSub_zero | exact allTags_nil | refine allSub_succ' ?_ (Ty.sub_any _) | refine allSub_succ' ?_ (Ty.sub_refl _) | refine allSub_succ' ?_ Ty.nil_row | refine allTags_cons rfl (Cont.sub_refl _) ?_)))
                    all_goals trace_state
                  ·
                    have hz := z.2
                    have hfz := filtUp_len (fun k => b.hold k i) z.1
                    refine t_seq ?_
                    refine t_region ?_
                    refine r_bin rfl rfl rfl ?_
                    refine r_nil ?_
                    refine i_then ?_
                    refine t_seq ?_
                    refine t_cond_dec rfl (fun hc10 => ?_) (fun hc10 => ?_)
                    ·
                      refine t_skip ?_
                      refine i_then ?_
                      refine t_seq ?_
                      refine t_block ?_
                      refine t_seq ?_
                      refine t_region ?_
                      refine mvI rfl ?_
                      refine r_index_slN rfl rfl rfl rfl rfl rfl (by omega) ?_
                      refine r_load_pp rfl rfl rfl rfl ?_
                      refine asI rfl ?_
                      refine asI rfl ?_
                      refine r_nil ?_
                      refine i_then ?_
                      refine t_seq ?_
                      refine t_region ?_
                      refine mvI rfl ?_
                      refine r_field_pp rfl rfl rfl rfl rfl (by decide) ?_
                      refine r_load_pp rfl rfl rfl rfl ?_
                      refine mvI rfl ?_
                      refine r_index_sl rfl rfl rfl rfl rfl rfl hki.1 (by omega) ?_
                      refine r_field_pp rfl rfl rfl rfl rfl (by decide) ?_
                      refine r_load_pp rfl rfl rfl rfl ?_
                      refine r_bin rfl rfl rfl ?_
                      refine r_nil ?_
                      refine i_then ?_
                      refine t_cond_dec rfl (fun hc11 => ?_) (fun hc11 => ?_)
                      ·
                        refine t_region ?_
                        refine mvR rfl ?_
                        refine mvI rfl ?_
                        refine r_buildSlice (E := I64) (xs := [(z.1 : Int)]) rfl rfl rfl rfl rfl (by decide) (by decide) (by repeat (first | exact (Parts.nil : Parts _ _ [] _) | (show Parts _ _ ((_, _) :: _) _; apply Parts.one; (· exact (rfl : _ = Ty.int _ _)); (· exact rfl)))) (by exact rfl) rfl ?_
                        refine r_append rfl rfl (by decide) rfl rfl rfl rfl rfl rfl (by decide) (by (simp <;> omega)) (by (simp <;> omega)) ?_
                        refine asR rfl ?_
                        refine r_nil ?_
                        refine i_block ?_
                        refine i_then ?_
                        refine t_region ?_
                        refine r_add rfl rfl (by omega) (by omega) ?_
                        refine mvI rfl ?_
                        refine r_nil ?_
                        refine i_round (⟨z.1 + 1, by omega⟩) ?_ (by show b.sizes.length - (z.1 + 1) < b.sizes.length - z.1; omega)
                        (refine Ent.mk' ?_ ?_ <;> (repeat' (first | exact allSub_zero | exact allTags_nil | refine allSub_succ' ?_ (Ty.sub_any _) | refine allSub_succ' ?_ (Ty.sub_refl _) | refine allTags_cons rfl (Cont.sub_refl _) ?_ | refine allSub_succ' ?_ ?_)))
                        all_goals skip
                        all_goals exact Ty.sub_row (hold_yes (b := b) (i := i) (n := z.1) (by unfold Barn.hold; exact decide_eq_true hc11))
                      ·
                        refine t_skip ?_
                        refine i_block ?_
                        refine i_then ?_
                        refine t_region ?_
                        refine r_add rfl rfl (by omega) (by omega) ?_
                        refine mvI rfl ?_
                        refine r_nil ?_
                        refine i_round (⟨z.1 + 1, by omega⟩) ?_ (by show b.sizes.length - (z.1 + 1) < b.sizes.length - z.1; omega)
                        (refine Ent.mk' ?_ ?_ <;> (repeat' (first | exact allSub_zero | exact allTags_nil | refine allSub_succ' ?_ (Ty.sub_any _) | refine allSub_succ' ?_ (Ty.sub_refl _) | refine allTags_cons rfl (Cont.sub_refl _) ?_ | refine allSub_succ' ?_ ?_)))
                        all_goals skip
                        all_goals exact Ty.sub_row (hold_no (b := b) (i := i) (n := z.1) (by unfold Barn.hold; exact decide_eq_false hc11))
                    ·
                      refine t_exit ?_
                      refine i_then_exit ?_
                      refine i_then_exit ?_
                      refine i_block_exit rfl ?_
                      refine i_then ?_
                      refine t_seq ?_
                      refine t_region ?_
                      refine r_load_ppN rfl rfl rfl (by exact Nat.le_of_ble_eq_true rfl) ?_
                      refine r_callG (res' := Ty.agg [Ty.sl I64 b.sizes, Ty.row LotE 57 149 b.lots]) [(149, 9)] [149] [] (k_OwnL b hs) rfl rfl (by repeat (first | exact cv_nil | refine cv_cons ?_ ?_ | exact cv_pub rfl rfl)) pre_nil post_nil (cv_agg (cv_cons (cv_cons cv_nil (cv_row (by decide))) (cv_pub rfl rfl))) ?_
                      refine r_storeN rfl rfl (by decide) rfl rfl rfl rfl rfl rfl ?_
                      refine r_nil ?_
                      refine i_then ?_
                      refine t_seq ?_
                      refine t_ownCell (c0 := 24) 1 rfl rfl ?_
                      refine t_asC (tg := 24) rfl (Cont.sub_cellsL (l' := [Ty.sl I64 b.sizes, Ty.vs 149 b.lots.length]) ⟨Ty.sub_refl _, Ty.row_vs rfl, trivial⟩) ?_
                      refine t_region ?_
                      refine r_field_ptr rfl rfl rfl rfl rfl (by decide) ?_
                      refine r_load_ptr rfl rfl (by decide) rfl rfl rfl ?_
                      refine mvI rfl ?_
                      refine mvI rfl ?_
                      refine r_index_vsI rfl rfl rfl rfl rfl hki.1 (by omega) ?_
                      refine r_field_ptr rfl rfl rfl rfl rfl (by decide) ?_
                      refine r_store_vecC (E := LotE) (z := ⟨(nth b.lots i.toNat).sacks, (nth b.lots i.toNat).inn, k⟩) rfl rfl rfl (by decide) rfl rfl (by exact (rfl : _ = Ty.int _ _)) rfl (by omega) (by decide) rfl rfl ?_
                      refine r_nil ?_
                      refine i_then ?_
                      refine t_seq ?_
                      refine t_pubC (tg := 149) [] [(24, Cont.cells 25 (barnTys (aimedB b i k)))] (by decide) rfl trivial ⟨pubC_cells rfl rfl ⟨pubTy_same rfl, pubTy_vs rfl List.length_set (by decide), trivial⟩, trivial⟩ ?_
                      refine t_forget (B := live [(1, Ty.int .i64 i), (2, Ty.int .i64 k), (3, Ty.sl RowE rings), (4, Ty.pp (barnTys b)), (11, Ty.ptr 12 0), (13, Ty.sl RowE rings), (14, Ty.int .i64 (checkB b)), (15, Ty.int .i64 0), (17, Ty.int .i64 (showsR b rings).2), (18, Ty.row I64 3 106 (filtUp (fun k => b.free k) q.1)), (19, Ty.row I64 3 146 (filtUp (fun k => b.hold k i) z.1)), (20, Ty.sl I64 (mustL b)), (21, Ty.sl RowE (ringsL b)), (22, Ty.int .i64 (showsR b rings).1), (23, Ty.ptr 24 0)] [(12, Cont.cells 25 (barnTys b)), (24, Cont.cells 25 (barnTys (aimedB b i k)))]) ?_ ?_
                      · (refine Ent.mk' ?_ ?_ <;> (repeat' (first | exact allSub_zero | exact allTags_nil | refine allSub_succ' ?_ (Ty.sub_any _) | refine allSub_succ' ?_ (Ty.sub_refl _) | refine allTags_cons rfl (Cont.sub_refl _) ?_)))
                      refine t_region ?_
                      refine r_load_ptrN rfl rfl (by decide) rfl rfl (by exact Nat.le_of_ble_eq_true rfl) ?_
                      refine r_call (c_theirs (aimedB b i k) (aimed_small hs i k)) rfl rfl rfl rfl rfl ?_
                      refine r_call (c_rCheck (aimedB b i k) (aimed_small hs i k)) rfl rfl rfl rfl rfl ?_
                      refine asI rfl ?_
                      refine r_nil ?_
                      refine i_then ?_
                      refine t_seq ?_
                      refine t_as (s := 16) rfl (Ty.sub_int (check_eq (aimedB b i k))) ?_
                      refine t_region ?_
                      refine mvI rfl ?_
                      refine r_bin rfl rfl rfl ?_
                      refine r_nil ?_
                      refine i_then ?_
                      refine t_cond_ndec rfl (fun hc12 => ?_) (fun hc12 => ?_)
                      ·
                        refine t_region ?_
                        refine r_build rfl rfl (by exact List.cons_ne_nil _ _) rfl (by repeat (exact (Parts.nil : Parts _ _ [] _))) (by exact (rfl : _ = some [_, _])) ?_
                        refine r_storeN rfl rfl (by decide) rfl rfl rfl rfl rfl rfl ?_
                        refine r_nil ?_
                        refine i_join ?_
                        (refine Ent.mk' ?_ ?_ <;> (repeat' (first | exact allSub_zero | exact allTags_nil | exact subs_nil | refine allSub_succ' ?_ (Ty.sub_any _) | refine allSub_succ' ?_ (Ty.sub_refl _) | refine allTags_cons rfl (Cont.sub_refl _) ?_ | refine allTags_cons rfl (Cont.sub_subs ?_) ?_ | refine subs_cons ?_ ?_ | refine allSub_succ' ?_ ?_)))
                        all_goals first | exact Ty.sub_int ((known_in hc5 hc9).1) | exact Ty.sub_int (congrArg Prod.snd (av_no hc5 hc9 hc12)).symm | exact Ty.sub_int (congrArg Prod.snd (showV_good hc5 rfl)).symm | exact Ty.sub_int (congrArg Prod.fst (showV_good hc5 rfl)).symm | exact Ty.sub_row (free_ok hc5 (by have := q.2; omega)) | exact Ty.sub_row (hold_ok hc5 hc9 (by have := z.2; omega)) | exact Ty.sub_sl (must_okR hc5) | exact Ty.sub_sl (ring_okR hc5) | exact nil_of_sl (sz_no (av_no hc5 hc9 hc12)).1 | exact nil_of_sl (sz_no (av_no hc5 hc9 hc12)).2
                      ·
                        refine t_skip ?_
                        refine i_join ?_
                        (refine Ent.mk' ?_ ?_ <;> (repeat' (first | exact allSub_zero | exact allTags_nil | exact subs_nil | refine allSub_succ' ?_ (Ty.sub_any _) | refine allSub_succ' ?_ (Ty.sub_refl _) | refine allTags_cons rfl (Cont.sub_refl _) ?_ | refine allTags_cons rfl (Cont.sub_subs ?_) ?_ | refine subs_cons ?_ ?_ | refine allSub_succ' ?_ ?_)))
                        all_goals first | exact Ty.sub_int ((known_in hc5 hc9).1) | exact Ty.sub_int (congrArg Prod.snd (av_ok hc5 hc9 hc12)).symm | exact Ty.sub_int (congrArg Prod.snd (showV_good hc5 rfl)).symm | exact Ty.sub_int (congrArg Prod.fst (showV_good hc5 rfl)).symm | exact Ty.sub_row (free_ok hc5 (by have := q.2; omega)) | exact Ty.sub_row (hold_ok hc5 hc9 (by have := z.2; omega)) | exact Ty.sub_sl (must_okR hc5) | exact Ty.sub_sl (ring_okR hc5) | exact Ty.sub_sl (congrArg (fun x : Barn × Int => x.1.sizes) (av_ok hc5 hc9 hc12)).symm | exact Ty.sub_sl (congrArg (fun x : Barn × Int => x.1.lots) (av_ok hc5 hc9 hc12)).symm
                ·
                  refine t_skip ?_
                  refine i_join ?_
                  (refine Ent.mk' ?_ ?_ <;> (repeat' (first | exact allSub_zero | exact allTags_nil | exact subs_nil | refine allSub_succ' ?_ (Ty.sub_any _) | refine allSub_succ' ?_ (Ty.sub_refl _) | refine allTags_cons rfl (Cont.sub_refl _) ?_ | refine allTags_cons rfl (Cont.sub_subs ?_) ?_ | refine subs_cons ?_ ?_ | refine allSub_succ' ?_ ?_)))
                  all_goals first | exact Ty.sub_int (known_out hc5 hc9) | exact Ty.sub_int (congrArg Prod.snd (av_out hc5 hc9)).symm | exact Ty.sub_int (congrArg Prod.snd (showV_good hc5 rfl)).symm | exact Ty.sub_int (congrArg Prod.fst (showV_good hc5 rfl)).symm | exact nil_row_eq (hold_out hc5 hc9) | exact Ty.sub_row (free_ok hc5 (by have := q.2; omega)) | exact Ty.sub_sl (must_okR hc5) | exact Ty.sub_sl (ring_okR hc5) | exact nil_of_sl (sz_no (av_out hc5 hc9)).1 | exact nil_of_sl (sz_no (av_out hc5 hc9)).2
          ·
            refine t_skip ?_
            refine i_join ?_
            (refine Ent.mk' ?_ ?_ <;> (repeat' (first | exact allSub_zero | exact allTags_nil | exact subs_nil | refine allSub_succ' ?_ (Ty.sub_any _) | refine allSub_succ' ?_ (Ty.sub_refl _) | refine allTags_cons rfl (Cont.sub_refl _) ?_ | refine allTags_cons rfl (Cont.sub_subs ?_) ?_ | refine subs_cons ?_ ?_ | refine allSub_succ' ?_ ?_)))
            all_goals first | exact Ty.sub_int (known_bad hc5) | exact Ty.sub_int (congrArg Prod.snd (av_bad hc5)).symm | exact Ty.sub_int (congrArg Prod.snd (showV_bad hc5)).symm | exact Ty.sub_int (congrArg Prod.fst (showV_bad hc5)).symm | exact nil_row_eq (free_bad hc5) | exact nil_row_eq (hold_bad hc5) | exact nil_of_sl (must_bad hc5) | exact nil_of_sl (ring_bad hc5) | exact nil_of_sl (sz_no (av_bad hc5)).1 | exact nil_of_sl (sz_no (av_bad hc5)).2
        ·
          refine t_seq ?_
          refine t_region ?_
          refine r_load_ptrN rfl rfl (by decide) rfl rfl (by exact Nat.le_of_ble_eq_true rfl) ?_
          refine r_call (c_Free b hs) rfl rfl rfl rfl rfl ?_
          refine mvT rfl ?_
          refine r_extract rfl rfl ?_
          refine r_extract rfl rfl ?_
          refine asS rfl ?_
          refine asI rfl ?_
          refine r_nil ?_
          refine i_then ?_
          refine t_seq ?_
          refine t_region ?_
          refine r_load_ptrN rfl rfl (by decide) rfl rfl (by exact Nat.le_of_ble_eq_true rfl) ?_
          refine mvI rfl ?_
          refine r_call (c_Holds b hs i) rfl rfl rfl rfl rfl ?_
          refine mvT rfl ?_
          refine r_extract rfl rfl ?_
          refine r_extract rfl rfl ?_
          refine asS rfl ?_
          refine asI rfl ?_
          refine r_nil ?_
          refine i_then ?_
          refine t_seq ?_
          refine t_region ?_
          refine r_load_ptrN rfl rfl (by decide) rfl rfl (by exact Nat.le_of_ble_eq_true rfl) ?_
          refine r_call (c_Must b hs) rfl rfl rfl rfl rfl ?_
          refine mvT rfl ?_
          refine r_extract rfl rfl ?_
          refine r_extract rfl rfl ?_
          refine asS rfl ?_
          refine asI rfl ?_
          refine r_nil ?_
          refine i_then ?_
          refine t_seq ?_
          refine t_region ?_
          refine r_load_ptrN rfl rfl (by decide) rfl rfl (by exact Nat.le_of_ble_eq_true rfl) ?_
          refine r_call (c_Rings b hs) rfl rfl rfl rfl rfl ?_
          refine mvT rfl ?_
          refine r_extract rfl rfl ?_
          refine r_extract rfl rfl ?_
          refine asS rfl ?_
          refine asI rfl ?_
          refine r_nil ?_
          refine i_then ?_
          refine t_seq ?_
          refine t_region ?_
          refine r_load_ptrN rfl rfl (by decide) rfl rfl (by exact Nat.le_of_ble_eq_true rfl) ?_
          refine mvS rfl ?_
          refine r_call (c_Shows b hs rings (by omega) hfl) rfl rfl rfl rfl rfl ?_
          refine mvT rfl ?_
          refine r_extract rfl rfl ?_
          refine r_extract rfl rfl ?_
          refine asI rfl ?_
          refine asI rfl ?_
          refine r_nil ?_
          refine i_then ?_
          refine t_seq ?_
          refine t_region ?_
          refine r_load_ptrN rfl rfl (by decide) rfl rfl (by exact Nat.le_of_ble_eq_true rfl) ?_
          refine mvI rfl ?_
          refine mvI rfl ?_
          refine r_callG (res' := Ty.tup [Ty.agg (aimTys 921 924 (aimV b i k).1), Ty.int .i64 (aimV b i k).2]) [(921, 21), (924, 24)] [921, 924] [(924, Cont.vec LotE 57 (aimV b i k).1.lots)] (k_Aim b hs i k) rfl rfl (by repeat (first | exact cv_nil | refine cv_cons ?_ ?_ | refine cv_agg ?_ | exact cv_pub rfl rfl)) pre_nil (post_cons (a := 924) (b := 24) (by decide) rfl (cc_vec (by decide) rfl) post_nil) (by repeat (first | exact cv_nil | refine cv_cons ?_ ?_ | refine cv_tup ?_ | refine cv_agg ?_ | exact cv_row (by decide) | exact cv_vs (by decide) | exact cv_pub rfl rfl)) ?_
          refine mvT rfl ?_
          refine r_extract rfl rfl ?_
          refine r_extract rfl rfl ?_
          refine r_alloc rfl (by exact List.cons_ne_nil _ _) rfl ?_
          refine r_storeN rfl rfl (by decide) rfl rfl rfl rfl rfl rfl ?_
          refine asI rfl ?_
          refine r_nil ?_
          refine i_then ?_
          refine t_seq ?_
          refine t_seq ?_
          refine t_forget (B := live [(3, Ty.sl RowE rings), (4, Ty.pp (barnTys b)), (11, Ty.ptr 12 0), (13, Ty.sl RowE rings), (14, Ty.int .i64 (checkB b)), (15, Ty.int .i64 (knownE b i)), (16, Ty.int .i64 (aimV b i k).2), (17, Ty.int .i64 (showV b rings).2), (18, Ty.row I64 3 106 (freeR b)), (19, Ty.row I64 3 146 (holdR b i)), (20, Ty.sl I64 (mustR b)), (21, Ty.sl RowE (ringR b)), (22, Ty.int .i64 (showV b rings).1), (23, Ty.ptr 24 0), (31, Ty.sl I64 (freeR b)), (32, Ty.int .i64 (checkB b)), (33, Ty.sl I64 (holdR b i)), (34, Ty.int .i64 (knownE b i)), (35, Ty.sl I64 (mustR b)), (36, Ty.int .i64 (checkB b)), (37, Ty.sl RowE (ringR b)), (38, Ty.int .i64 (checkB b)), (39, Ty.int .i64 (showV b rings).1), (40, Ty.int .i64 (showV b rings).2), (41, Ty.ptr 42 0), (42, Ty.int .i64 (aimV b i k).2)] [(12, Cont.cells 25 (barnTys b)), (24, Cont.cells 25 (barnTys (aimV b i k).1)), (42, Cont.cells 25 (aimTys 921 924 (aimV b i k).1)), (924, Cont.vec LotE 57 (aimV b i k).1.lots)]) ?_ ?_
          · (refine Ent.mk' ?_ ?_ <;> (repeat' (first | exact allSub_zero | exact allTags_nil | refine allSub_succ' ?_ (Ty.sub_any _) | refine allSub_succ' ?_ (Ty.sub_refl _) | refine allTags_cons rfl (Cont.sub_refl _) ?_)))
            all_goals trace_state
          refine t_region ?_
          refine mvI rfl ?_
          refine mvI rfl ?_
          refine r_bin rfl rfl rfl ?_
          refine mvB rfl ?_
          apply r_guard (s := 198) rfl rfl rfl
          · intro hg; apply opT_of; (refine mvI rfl ?_); refine r_nil ?_; exact rfl
          · exact rfl
          · exact rfl
          apply r_guard (s := 198) rfl rfl rfl
          · intro hg; apply opT_of; (refine mvI rfl ?_); refine r_nil ?_; exact rfl
          · exact rfl
          · exact rfl
          apply r_guard (s := 198) rfl rfl rfl
          · intro hg; apply opT_strip (s := 199) rfl (by (rw [hg]; rfl)); apply opT_strip (s := 200) rfl (by (rw [hg]; rfl)); apply opT_of; (refine r_bin rfl rfl rfl ?_); refine r_nil ?_; exact rfl
          · exact rfl
          · exact rfl
          refine r_or rfl rfl ?_
          refine mvB rfl ?_
          apply r_guard (s := 203) rfl rfl rfl
          · intro hg; apply opT_of; (refine mvI rfl ?_); refine r_nil ?_; exact rfl
          · exact rfl
          · exact rfl
          apply r_guard (s := 203) rfl rfl rfl
          · intro hg; apply opT_of; (refine mvI rfl ?_); refine r_nil ?_; exact rfl
          · exact rfl
          · exact rfl
          apply r_guard (s := 203) rfl rfl rfl
          · intro hg; apply opT_strip (s := 204) rfl (by (rw [hg]; rfl)); apply opT_strip (s := 205) rfl (by (rw [hg]; rfl)); apply opT_of; (refine r_bin rfl rfl rfl ?_); refine r_nil ?_; exact rfl
          · exact rfl
          · exact rfl
          refine r_or rfl rfl ?_
          refine mvB rfl ?_
          apply r_guard (s := 208) rfl rfl rfl
          · intro hg; apply opT_of; (refine mvI rfl ?_); refine r_nil ?_; exact rfl
          · exact rfl
          · exact rfl
          apply r_guard (s := 208) rfl rfl rfl
          · intro hg; apply opT_of; (refine mvI rfl ?_); refine r_nil ?_; exact rfl
          · exact rfl
          · exact rfl
          apply r_guard (s := 208) rfl rfl rfl
          · intro hg; apply opT_strip (s := 209) rfl (by (rw [hg]; rfl)); apply opT_strip (s := 210) rfl (by (rw [hg]; rfl)); apply opT_of; (refine r_bin rfl rfl rfl ?_); refine r_nil ?_; exact rfl
          · exact rfl
          · exact rfl
          refine r_or rfl rfl ?_
          refine mvB rfl ?_
          apply r_guard (s := 213) rfl rfl rfl
          · intro hg; apply opT_of; (refine mvI rfl ?_); refine r_nil ?_; exact rfl
          · exact rfl
          · exact rfl
          apply r_guard (s := 213) rfl rfl rfl
          · intro hg; apply opT_of; (refine mvI rfl ?_); refine r_nil ?_; exact rfl
          · exact rfl
          · exact rfl
          apply r_guard (s := 213) rfl rfl rfl
          · intro hg; apply opT_strip (s := 214) rfl (by (rw [hg]; rfl)); apply opT_strip (s := 215) rfl (by (rw [hg]; rfl)); apply opT_of; (refine r_bin rfl rfl rfl ?_); refine r_nil ?_; exact rfl
          · exact rfl
          · exact rfl
          refine r_or rfl rfl ?_
          refine mvB rfl ?_
          apply r_guard (s := 218) rfl rfl rfl
          · intro hg; apply opT_of; (refine mvI rfl ?_); refine r_nil ?_; exact rfl
          · exact rfl
          · exact rfl
          apply r_guard (s := 218) rfl rfl rfl
          · intro hg; apply opT_of; (refine mvI rfl ?_); refine r_nil ?_; exact rfl
          · exact rfl
          · exact rfl
          apply r_guard (s := 218) rfl rfl rfl
          · intro hg; apply opT_strip (s := 219) rfl (by (rw [hg]; rfl)); apply opT_strip (s := 220) rfl (by (rw [hg]; rfl)); apply opT_of; (refine r_bin rfl rfl rfl ?_); refine r_nil ?_; exact rfl
          · exact rfl
          · exact rfl
          refine r_or rfl rfl ?_
          refine mvB rfl ?_
          apply r_guard (s := 223) rfl rfl rfl
          · intro hg; apply opT_of; (refine mvS rfl ?_); refine r_nil ?_; exact rfl
          · exact rfl
          · exact rfl
          apply r_guard (s := 223) rfl rfl rfl
          · intro hg; apply opT_of; (refine mvR rfl ?_); refine r_nil ?_; exact rfl
          · exact rfl
          · exact rfl
          apply r_guard (s := 223) rfl rfl rfl
          · intro hg; apply opT_strip (s := 224) rfl (by (rw [hg]; rfl)); apply opT_strip (s := 225) rfl (by (rw [hg]; rfl)); apply opT_of; (refine r_callL [106] (c_Eq_int (freeR b) (freeR b)) rfl (by repeat (first | exact lends_nil | refine lends_cons (lend_pub rfl rfl) ?_ | refine lends_cons (lend_row rfl) ?_)) (by exact plain_bool _) ?_); refine r_nil ?_; exact rfl
          · exact rfl
          · exact rfl
          apply r_guard (s := 223) rfl rfl rfl
          · intro hg; apply opT_strip (s := 226) rfl (by (rw [hg]; rfl)); apply opT_of; (refine r_not rfl ?_); refine r_nil ?_; exact rfl
          · exact rfl
          · exact rfl
          refine r_or rfl rfl ?_
          refine mvB rfl ?_
          apply r_guard (s := 229) rfl rfl rfl
          · intro hg; apply opT_of; (refine mvS rfl ?_); refine r_nil ?_; exact rfl
          · exact rfl
          · exact rfl
          apply r_guard (s := 229) rfl rfl rfl
          · intro hg; apply opT_of; (refine mvR rfl ?_); refine r_nil ?_; exact rfl
          · exact rfl
          · exact rfl
          apply r_guard (s := 229) rfl rfl rfl
          · intro hg; apply opT_strip (s := 230) rfl (by (rw [hg]; rfl)); apply opT_strip (s := 231) rfl (by (rw [hg]; rfl)); apply opT_of; (refine r_callL [146] (c_Eq_int (holdR b i) (holdR b i)) rfl (by repeat (first | exact lends_nil | refine lends_cons (lend_pub rfl rfl) ?_ | refine lends_cons (lend_row rfl) ?_)) (by exact plain_bool _) ?_); refine r_nil ?_; exact rfl
          · exact rfl
          · exact rfl
          apply r_guard (s := 229) rfl rfl rfl
          · intro hg; apply opT_strip (s := 232) rfl (by (rw [hg]; rfl)); apply opT_of; (refine r_not rfl ?_); refine r_nil ?_; exact rfl
          · exact rfl
          · exact rfl
          refine r_or rfl rfl ?_
          refine mvB rfl ?_
          apply r_guard (s := 235) rfl rfl rfl
          · intro hg; apply opT_of; (refine mvS rfl ?_); refine r_nil ?_; exact rfl
          · exact rfl
          · exact rfl
          apply r_guard (s := 235) rfl rfl rfl
          · intro hg; apply opT_of; (refine mvS rfl ?_); refine r_nil ?_; exact rfl
          · exact rfl
          · exact rfl
          apply r_guard (s := 235) rfl rfl rfl
          · intro hg; apply opT_strip (s := 236) rfl (by (rw [hg]; rfl)); apply opT_strip (s := 237) rfl (by (rw [hg]; rfl)); apply opT_of; (refine r_call (c_Eq_int (mustR b) (mustR b)) rfl rfl rfl rfl rfl ?_); refine r_nil ?_; exact rfl
          · exact rfl
          · exact rfl
          apply r_guard (s := 235) rfl rfl rfl
          · intro hg; apply opT_strip (s := 238) rfl (by (rw [hg]; rfl)); apply opT_of; (refine r_not rfl ?_); refine r_nil ?_; exact rfl
          · exact rfl
          · exact rfl
          refine r_or rfl rfl ?_
          refine mvB rfl ?_
          apply r_guard (s := 241) rfl rfl rfl
          · intro hg; apply opT_of; (refine mvS rfl ?_); refine r_nil ?_; exact rfl
          · exact rfl
          · exact rfl
          apply r_guard (s := 241) rfl rfl rfl
          · intro hg; apply opT_of; (refine mvS rfl ?_); refine r_nil ?_; exact rfl
          · exact rfl
          · exact rfl
          apply r_guard (s := 241) rfl rfl rfl
          · intro hg; apply opT_strip (s := 242) rfl (by (rw [hg]; rfl)); apply opT_strip (s := 243) rfl (by (rw [hg]; rfl)); apply opT_of; (refine r_call (c_EqRows (ringR b) (ringR b)) rfl rfl rfl rfl rfl ?_); refine r_nil ?_; exact rfl
          · exact rfl
          · exact rfl
          apply r_guard (s := 241) rfl rfl rfl
          · intro hg; apply opT_strip (s := 244) rfl (by (rw [hg]; rfl)); apply opT_of; (refine r_not rfl ?_); refine r_nil ?_; exact rfl
          · exact rfl
          · exact rfl
          refine r_or rfl rfl ?_
          refine mvB rfl ?_
          apply r_guard (s := 247) rfl rfl rfl
          · intro hg; apply opT_of; (refine mvI rfl ?_); refine r_nil ?_; exact rfl
          · exact rfl
          · exact rfl
          apply r_guard (s := 247) rfl rfl rfl
          · intro hg; apply opT_of; (refine mvI rfl ?_); refine r_nil ?_; exact rfl
          · exact rfl
          · exact rfl
          apply r_guard (s := 247) rfl rfl rfl
          · intro hg; apply opT_strip (s := 248) rfl (by (rw [hg]; rfl)); apply opT_strip (s := 249) rfl (by (rw [hg]; rfl)); apply opT_of; (refine r_bin rfl rfl rfl ?_); refine r_nil ?_; exact rfl
          · exact rfl
          · exact rfl
          refine r_or rfl rfl ?_
          refine mvB rfl ?_
          apply r_guard (s := 252) rfl rfl rfl
          · intro hg; apply opT_of; (refine r_load_ptrN rfl rfl (by decide) rfl rfl (by exact Nat.le_of_ble_eq_true rfl) ?_); refine r_nil ?_; exact rfl
          · exact rfl
          · exact rfl
          apply r_guard (s := 252) rfl rfl rfl
          · intro hg; apply opT_of; (refine r_load_ptrN rfl rfl (by decide) rfl rfl (by exact Nat.le_of_ble_eq_true rfl) ?_); refine r_nil ?_; exact rfl
          · exact rfl
          · exact rfl
          apply r_guard (s := 252) rfl rfl rfl
          · intro hg; apply opT_strip (s := 253) rfl (by (rw [hg]; rfl)); apply opT_strip (s := 254) rfl (by (rw [hg]; rfl)); apply opT_of; (refine r_callLC [921, 924] (c_same (aimV b i k).1 (aimV b i k).1) rfl (lendcs_cons (lendc_agg (lendcs_cons (lendc_of (lend_row rfl)) (lendcs_cons (lendc_vs rfl rfl (by decide) rfl) lendcs_nil))) (lendcs_cons (lendc_of (lend_pub rfl rfl)) lendcs_nil)) (by exact plain_bool _) ?_); refine r_nil ?_; exact rfl
          · exact rfl
          · exact rfl
          apply r_guard (s := 252) rfl rfl rfl
          · intro hg; apply opT_strip (s := 255) rfl (by (rw [hg]; rfl)); apply opT_of; (refine r_not rfl ?_); refine r_nil ?_; exact rfl
          · exact rfl
          · exact rfl
          refine r_or rfl rfl ?_
          refine r_nil ?_
          refine i_then ?_
          refine t_cond_ff rfl (lchk) ?_
          refine t_skip ?_
          refine i_then ?_
          refine t_seq ?_
          refine t_region ?_
          refine r_field_ptr rfl rfl rfl rfl rfl (by decide) ?_
          refine r_load_ptr rfl rfl (by decide) rfl rfl rfl ?_
          refine r_clearRow rfl (by decide) rfl rfl rfl rfl rfl (by decide) rfl ?_
          refine r_nil ?_
          refine i_then ?_
          refine t_seq ?_
          refine t_region ?_
          refine r_field_ptr rfl rfl rfl rfl rfl (by decide) ?_
          refine r_load_ptr rfl rfl (by decide) rfl rfl rfl ?_
          refine r_clearVs rfl rfl (by omega) (by decide) rfl rfl rfl rfl rfl (by decide) rfl ?_
          refine r_nil ?_
          refine i_then ?_
          refine t_seq ?_
          refine t_region ?_
          refine r_load_ptrN rfl rfl (by decide) rfl rfl (by exact Nat.le_of_ble_eq_true rfl) ?_
          refine r_load_ppN rfl rfl rfl (by exact Nat.le_of_ble_eq_true rfl) ?_
          refine r_call (c_same b b) rfl rfl rfl rfl rfl ?_
          refine mvB rfl ?_
          apply r_guard (s := 265) rfl rfl rfl
          · intro hg; apply opT_of; (refine mvS rfl ?_); refine r_nil ?_; exact rfl
          · exact rfl
          · exact rfl
          apply r_guard (s := 265) rfl rfl rfl
          · intro hg; apply opT_of; (refine mvS rfl ?_); refine r_nil ?_; exact rfl
          · exact rfl
          · exact rfl
          apply r_guard (s := 265) rfl rfl rfl
          · intro hg; apply opT_strip (s := 266) rfl (by (rw [hg]; rfl)); apply opT_strip (s := 267) rfl (by (rw [hg]; rfl)); apply opT_of; (refine r_call (c_EqRows rings rings) rfl rfl rfl rfl rfl ?_); refine r_nil ?_; exact rfl
          · exact rfl
          · exact rfl
          refine r_and rfl rfl ?_
          refine mvB rfl ?_
          apply r_guard (s := 270) rfl rfl rfl
          · intro hg; apply opT_of; (refine r_call (c_awake) rfl rfl rfl rfl rfl ?_); refine r_nil ?_; exact rfl
          · exact rfl
          · exact rfl
          refine r_and rfl rfl ?_
          refine asB rfl ?_
          refine r_nil ?_
          refine i_then ?_
          refine t_ret ?_
          refine i_rp1 rfl rfl ?_
          all_goals skip
          all_goals exact ret_eq rfl rfl (congrArg Ty.bool (by rw [sameV_self]; simp))
end Go.Proofs.Ytpnndljmhpepgaa

namespace Go.T
open Go Go.RowKit Go.ChangeShapes Go.WideShapes Go.ChangeAt
def pubs : Tags := fun _ => none
theorem wf_pubs (w : World) : Wf w pubs := ⟨fun _ _ h => (by cases h), fun _ _ _ _ h => (by cases h)⟩
theorem pubs_zero : ∀ b t, pubs b = some t → t = 0 := fun _ _ h => by cases h
structure Rd {α : Type} (P : Program) (e : TypeId) (E : El α) : Prop where
  size : P.cellsOf e = E.size
  pos : 0 < E.size
  rd : ∀ {H : Type} {enc : TypeId × Value → H} {w : World} {base : Nat} {held : Bool} {n : Nat} {cs : List Value} {y : DataW H × List MemPlace}, DataW.trod enc P w base (fun _ => true) held n e cs = some y → ∃ x, dens w pubs (E.tys x) cs
section
variable {H : Type} {enc : TypeId × Value → H} {P : Program} {w : World} {base : Nat} {held : Bool} {α : Type} {E : El α} {t e : TypeId} {n : Nat} {cs : List Value} {y : DataW H × List MemPlace}
theorem rd_sl (hR : Rd P e E) (ht : P.underlying t = some (.slice e)) (h : DataW.trod enc P w base (fun _ => true) held n t cs = some y) : ∃ v xs, cs = [v] ∧ (Ty.sl E xs).den w pubs v := by
  rcases Go.Deep.open_slice ht h with ⟨rfl, _⟩ | ⟨a, len, cap, m, k, D, Pl, rfl, _, hl, hm, hmm, _, hel⟩
  · exact ⟨_, [], rfl, none, 0, rfl, Nat.le_refl _, Nat.zero_le _, fun h => absurd h (Nat.lt_irrefl _)⟩
  have hlm : len ≤ m := by rw [hmm]; simpa using hl
  have hX : ∀ i : Fin len, ∃ x : α, ∃ cs', w.cells? base (a.add (i.1 * P.cellsOf e)) (P.cellsOf e) = some cs' ∧ dens w pubs (E.tys x) cs' := fun i => by
    obtain ⟨cs', h1, h2⟩ := hel i.1 (Nat.lt_of_lt_of_le i.2 hlm)
    obtain ⟨x, hx⟩ := hR.rd h2
    exact ⟨x, cs', h1, hx⟩
  let X : Fin len → α := fun i => (hX i).choose
  have hXs : ∀ i : Fin len, ∃ cs', w.cells? base (a.add (i.1 * P.cellsOf e)) (P.cellsOf e) = some cs' ∧ dens w pubs (E.tys (X i)) cs' := fun i => (hX i).choose_spec
  have hlen : (List.ofFn X).length = len := by simp
  refine ⟨_, List.ofFn X, rfl, some a, cap, by rw [hlen], by rw [hlen]; exact hl, hm, fun h0 => ?_⟩
  rw [hlen] at h0
  have hcell : ∀ (i : Fin len) (j : Nat) (u : Ty), (E.tys (X i))[j]? = some u → ∃ v, w.cell? (a.add (i.1 * E.size + j)) = some v ∧ u.den w pubs v := fun i j u hu => by
    obtain ⟨cs', h1, h2⟩ := hXs i
    obtain ⟨v, hv, hd⟩ := dens_get h2 j u hu
    obtain ⟨_, g1, g2⟩ := World.cells?_some h1
    have hj : j < P.cellsOf e := by
      rw [hR.size, ← E.len (X i)]
      exact (List.getElem?_eq_some_iff.1 hu).1
    refine ⟨v, ?_, hd⟩
    have := g2 j hj
    rw [Go.Deep.add_add, hv, hR.size] at this
    exact this
  have hsz := hR.pos
  have hfirst : ∃ v, w.cell? (a.add 0) = some v := by
    obtain ⟨u, hu⟩ : ∃ u, (E.tys (X ⟨0, h0⟩))[0]? = some u := ⟨_, List.getElem?_eq_getElem (by rw [E.len]; exact hsz)⟩
    obtain ⟨v, hv, _⟩ := hcell ⟨0, h0⟩ 0 u hu
    exact ⟨v, by simpa using hv⟩
  obtain ⟨b, off, sp⟩ := a
  obtain ⟨v0, hv0⟩ := hfirst
  have hsp : sp = none := by simpa [Addr.add] using World.cell?_spot hv0
  subst hsp
  have hb : b < w.heap.size := by
    obtain ⟨cs', h1, _⟩ := hXs ⟨0, h0⟩
    have := World.cells?_block h1 (by rw [hR.size]; exact hsz)
    simpa [Addr.add] using this
  refine ⟨b, off, rfl, rfl, hb, fun i u hu => ?_⟩
  have hi : i < len * E.size := by
    have := (List.getElem?_eq_some_iff.1 hu).1
    rw [flat_len, hlen] at this; exact this
  have hk : i / E.size < len := Nat.div_lt_of_lt_mul (by rw [Nat.mul_comm]; exact hi)
  have hj : i % E.size < E.size := Nat.mod_lt _ hsz
  have hij : i / E.size * E.size + i % E.size = i := by rw [Nat.mul_comm]; exact Nat.div_add_mod i E.size
  have hu2 := hu
  rw [← hij, flat_get E _ _ _ (by rw [hlen]; exact hk) hj, List.getElem?_ofFn, dif_pos hk] at hu2
  obtain ⟨v, hv, hd⟩ := hcell ⟨i / E.size, hk⟩ (i % E.size) u hu2
  refine ⟨v, ?_, hd⟩
  rw [← Go.WideShapes.add_plain]
  rw [hij] at hv
  exact hv
theorem rd_struct3 {f0 f1 f2 : Field} (hs : P.underlying t = some (.struct #[f0, f1, f2])) (hC : P.cellsOf t = 3) (h0 : f0.offset = 0 ∧ P.cellsOf f0.type = 1) (h1 : f1.offset = 1 ∧ P.cellsOf f1.type = 1) (h2 : f2.offset = 2 ∧ P.cellsOf f2.type = 1) (h : DataW.trod enc P w base (fun _ => true) held n t cs = some y) :
    ∃ c0 c1 c2 y0 y1 y2 m, cs = [c0, c1, c2] ∧ DataW.trod enc P w base (fun _ => true) held m f0.type [c0] = some y0 ∧ DataW.trod enc P w base (fun _ => true) held m f1.type [c1] = some y1 ∧ DataW.trod enc P w base (fun _ => true) held m f2.type [c2] = some y2 := by
  obtain ⟨y0, y1, y2, m, _, hl, g0, g1, g2⟩ := Go.Deep.trod_struct3 hs h
  rw [hC] at hl
  match cs, hl with
  | [c0, c1, c2], _ =>
    rw [h0.1, h0.2] at g0
    rw [h1.1, h1.2] at g1
    rw [h2.1, h2.2] at g2
    exact ⟨c0, c1, c2, y0, y1, y2, m, rfl, g0, g1, g2⟩
theorem rd_int {k : IntKind} {c : Value} (ht : P.underlying t = some (.int k)) (h : DataW.trod enc P w base (fun _ => true) held n t [c] = some y) : ∃ i, c = .int k i := by
  obtain ⟨i, e, _⟩ := DataW.trod_int ht h
  exact ⟨i, by simpa using e⟩
theorem rd_sl1 {c : Value} (hR : Rd P e E) (ht : P.underlying t = some (.slice e)) (h : DataW.trod enc P w base (fun _ => true) held n t [c] = some y) : ∃ xs, (Ty.sl E xs).den w pubs c := by
  obtain ⟨v, xs, e, hd⟩ := rd_sl hR ht h
  exact ⟨xs, by rw [show c = v by simpa using e]; exact hd⟩
end
section
variable {w w' : World} {S K : Nat → Prop} {M' : Tags}
theorem le_block (le : Le S K w pubs w' M') {b : Nat} (hb : b < w.heap.size) : w'.heap[b]? = w.heap[b]? := (le.pub b hb rfl).2
theorem le_same (le : Le S K w pubs w' M') {p : MemPlace} (hp : p.block < w.heap.size) : w.sameAt w' p := by
  cases p with
  | cell b o => exact World.cell?_of_block (w := w) (le_block le hp)
  | map b => exact le_block le hp
theorem le_kept (le : Le S K w pubs w' M') (may : MemPlace → Prop) : w.keptBut w' may := by
  refine ⟨le.os, le.out, fun i hi => ?_⟩
  have e := le_block le hi
  rw [e]
  split
  · rename_i h1 h2
    rw [h1] at h2
    simp only [Option.some.injEq, Obj.cells.injEq] at h2
    obtain ⟨rfl, rfl, rfl⟩ := h2
    exact ⟨rfl, rfl, rfl, fun _ _ => rfl⟩
  · rename_i h1 h2
    rw [h1] at h2
    simp only [Option.some.injEq, Obj.map.injEq] at h2
    exact Or.inr ⟨h2.1.symm, h2.2.symm⟩
  · rfl
theorem le_frozen (le : Le S K w pubs w' M') {a : Addr} (ha : a.block < w.heap.size) : w'.frozen? a = w.frozen? a := by
  unfold World.frozen?
  rw [le_block le ha]
end
section
variable {H : Type} {enc : TypeId × Value → H} {P : Program}
theorem trodAll_stays (hl : laidOutB P = true) {w w' : World} {sp : Nat → Bool} : ∀ {ts : List TypeId} {vs : List Value} {ds : List (DataW H)} {ps : List MemPlace}, (∀ t ∈ ts, P.readableRec t = true ∧ t < P.types.size) →
    DataW.TrodAll enc P w 0 (fun _ => true) true ts vs ds ps → (∀ p ∈ ps, w.sameAt w' p) → (∀ p ∈ ps, sp p.block = true) → DataW.TrodAll enc P w' 0 sp true ts vs ds ps
  | [], [], [], _, _, h, _, _ => h
  | t :: ts, v :: vs, d :: ds, _, ht, ⟨p, q, h1, h2, e⟩, hs, hsp => by
    subst e
    have h0 := ht t List.mem_cons_self
    exact ⟨p, q, Go.WideElems.Trod_stays hl h0.1 h0.2 h1 (fun x hx => hs x (List.mem_append_left _ hx)) (fun x hx => hsp x (List.mem_append_left _ hx)),
      trodAll_stays hl (fun t h => ht t (List.mem_cons_of_mem _ h)) h2 (fun x hx => hs x (List.mem_append_right _ hx)) (fun x hx => hsp x (List.mem_append_right _ hx)), rfl⟩
theorem post_true {f : Func} {s : ChangeSpec} {apart fresh handsOn again : Bool} {W W' : World} {args : Array Value} {ds : List (DataW H)} {before : List MemPlace} {S K : Nat → Prop} {M' : Tags}
    (hl : laidOutB P = true) (hv : s.vars = []) (hrd : ∀ t ∈ f.params.toList, P.readableRec t = true ∧ t < P.types.size) {tb : TypeId} (htb : P.underlying tb = some .bool) (hrt : f.resultTypes = #[tb])
    (hW : DataW.Whole enc P f.params.toList s.vars apart W args.toList ds [] before) (hres : (s.fn H (ds ++ [])).results = [.lit (.bool true)]) (hargs : (s.fn H (ds ++ [])).args = ds) (hvars : (s.fn H (ds ++ [])).vars = [])
    (le : Le S K W pubs W' M') : s.post enc P f apart fresh handsOn again W args (.bool true) W' := by
  have hW0 := hW
  obtain ⟨p, q, hA, hV, hb, hfz, hn⟩ := hW0
  have hlt := DataW.TrodAll.lt hA
  have hq : q = [] := by rw [hv] at hV; exact (trodVars_none hV).2
  subst hq
  have hbp : before = p := by rw [hb]; simp
  have hre : ∀ (b : Nat) (sp : Nat → Bool) (hd : Bool), DataW.TrodAll enc P W' b sp hd f.resultTypes.toList ((Value.bool true).resultList f.resultTypes.size) (s.fn H (ds ++ [])).results [] := fun b sp hd => by
    rw [hrt, hres]; exact trodAll_mk1 (shut_bool htb true)
  have har : ∀ sp : Nat → Bool, (∀ x ∈ p, sp x.block = true) → DataW.TrodAll enc P W' 0 sp true f.params.toList args.toList (s.fn H (ds ++ [])).args p := fun sp hsp => by
    rw [hargs]; exact trodAll_stays hl hrd hA (fun x hx => le_same le (hlt x hx)) hsp
  have hva : ∀ sp : Nat → Bool, DataW.TrodVars enc P W' sp s.vars (s.fn H (ds ++ [])).vars [] := fun sp => by
    rw [hvars, hv]; exact rfl
  have hok : ∀ (j : Nat) (t : TypeId) (r : Value), f.resultTypes[j]? = some t → ((Value.bool true).resultList f.resultTypes.size)[j]? = some r → Value.okWide P W' .any 0 t r := by
    exact ok_one (by rw [hrt]) rfl (okWide_bool_mk htb true)
  refine ⟨ds, [], before, [], p, [], hW, hre _ _ _, har _ (fun x hx => by simpa using hlt x hx), hva _, World.keptBut_mono (fun x hx => hx) (le_kept le _), fun _ => ?_⟩
  refine ⟨hok, _, _, ([] ++ p) ++ [], ⟨[] ++ p, [], trodAll_append (har _ (fun _ _ => rfl)) (hre _ _ _), hva _, rfl, ?_, ?_⟩, ?_⟩
  · intro b off hp
    have hp' : MemPlace.cell b off ∈ p := by simpa using hp
    rw [le_frozen le (hlt _ hp')]
    exact hfz b off (by rw [hbp]; exact hp')
  · intro ha
    have := hn ha
    rw [hbp] at this
    simpa using this
  · intro x hx _
    rw [hbp]
    simpa using hx
end
end Go.T

namespace Go.Proofs.Ytpnndljmhpepgaa
open Go Go.T Go.RowKit Go.ChangeShapes Go.WideShapes Go.ChangeAt
section
variable {H : Type} {enc : TypeId × Value → H} {W : World} {base : Nat} {held : Bool} {v : Value} {d : DataW H} {p : List MemPlace}
end
end Go.Proofs.Ytpnndljmhpepgaa

namespace Go.Proofs.Ytpnndljmhpepgaa
open Go Go.T Go.RowKit Go.ChangeShapes Go.WideShapes Go.ChangeAt
theorem rdI64 : Rd Try.prog 3 I64 := ⟨by kernel_rfl, by decide, fun h => by
  obtain ⟨i, rfl, _⟩ := DataW.trod_int Try.underlying3 h
  exact ⟨i, rfl, trivial⟩⟩
theorem rdLot : Rd Try.prog 57 LotE := ⟨by kernel_rfl, by decide, fun h => by
  obtain ⟨c0, c1, c2, y0, y1, y2, m, rfl, h0, h1, h2⟩ := rd_struct3 Try.underlying57 (by kernel_rfl) ⟨rfl, by kernel_rfl⟩ ⟨rfl, by kernel_rfl⟩ ⟨rfl, by kernel_rfl⟩ h
  obtain ⟨a, rfl⟩ := rd_int Try.underlying3 h0
  obtain ⟨b, rfl⟩ := rd_int Try.underlying3 h1
  obtain ⟨c, rfl⟩ := rd_int Try.underlying3 h2
  exact ⟨⟨a, b, c⟩, rfl, rfl, rfl, trivial⟩⟩
theorem rdRow : Rd Try.prog 22 RowE := ⟨by kernel_rfl, by decide, fun h => by
  obtain ⟨v, xs, rfl, hd⟩ := rd_sl rdI64 Try.underlying22 h
  exact ⟨xs, hd, trivial⟩⟩
section
variable {H : Type} {enc : TypeId × Value → H} {W : World} {base : Nat} {held : Bool} {v : Value} {d : DataW H} {p : List MemPlace}
set_option maxRecDepth 100000 in
theorem rd_barn (hv : Value.okWide Try.prog W .any base 25 v) (h : DataW.Trod enc Try.prog W 0 (fun _ => true) held 25 v d p) : ∃ b, (barnT b).den W pubs v := by
  obtain ⟨c0, c1, y0, y1, n, rfl, _, _, h0, h1⟩ := Go.Joins.open_agg2 Try.underlying25 (by kernel_rfl) (by kernel_rfl) hv h
  obtain ⟨bs, e0⟩ := rd_sl1 rdI64 Try.underlying22 h0
  obtain ⟨ls, e1⟩ := rd_sl1 rdLot Try.underlying23 h1
  exact ⟨⟨bs, ls⟩, _, rfl, e0, e1, trivial⟩
set_option maxRecDepth 100000 in
theorem rd_i64 (hv : Value.okWide Try.prog W .any base 3 v) (h : DataW.Trod enc Try.prog W 0 (fun _ => true) held 3 v d p) : ∃ n, (Ty.int .i64 n).den W pubs v := by
  obtain ⟨n, rfl, _⟩ := open_int Try.underlying3 hv h
  exact ⟨n, rfl⟩
set_option maxRecDepth 100000 in
theorem rd_rows (hv : Value.okWide Try.prog W .any base 35 v) (h : DataW.Trod enc Try.prog W 0 (fun _ => true) held 35 v d p) : ∃ l, (Ty.sl RowE l).den W pubs v := by
  obtain ⟨a, len, cap, rfl⟩ := okWide_slice Try.underlying35 hv
  obtain ⟨n, hn⟩ := h
  exact rd_sl1 rdRow Try.underlying35 (by simpa [Value.cells] using hn)
end
end Go.Proofs.Ytpnndljmhpepgaa
