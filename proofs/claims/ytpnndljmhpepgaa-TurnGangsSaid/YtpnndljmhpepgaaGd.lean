/- Lemmas: the program and the reference walked, plain laws. -/
import Derived.Test.YtpnndljmhpepgaaGc
namespace Go.Proofs.Ytpnndljmhpepgaa
open Go Go.T
set_option maxHeartbeats 16000000
theorem roundsV_1 {b : Barn} {g : Int} (h : ¬ askE b g = 0) : roundsV b g = [] := if_neg h
theorem roundsE_1 {b : Barn} {g : Int} (h : ¬ askE b g = 0) : roundsE b g = askE b g := if_neg h
theorem roundsV_2 {b : Barn} {g : Int} {f : Found} (h : askE b g = 0) (e : roundsM b g = f) (hf : f.is = true) : chainM f.ways (firstP b) f.last = roundsV b g := by unfold roundsV; rw [if_pos h, e, if_pos hf]
theorem roundsE_2 {b : Barn} {g : Int} {f : Found} (h : askE b g = 0) (e : roundsM b g = f) (hf : f.is = true) : roundsE b g = 0 := by unfold roundsE; rw [if_pos h, e, if_pos hf]
theorem roundsV_3 {b : Barn} {g : Int} {f : Found} (h : askE b g = 0) (e : roundsM b g = f) (hf : f.is = false) : roundsV b g = [] := by unfold roundsV; rw [if_pos h, e, if_neg (by rw [hf]; decide)]
theorem roundsE_3 {b : Barn} {g : Int} {f : Found} (h : askE b g = 0) (e : roundsM b g = f) (hf : f.is = false) : roundsE b g = 7 := by unfold roundsE; rw [if_pos h, e, if_neg (by rw [hf]; decide)]
theorem chain_found {b : Barn} {g : Int} {f : Found} (hr : b.Right) (hg : 0 ≤ g) (e : roundsM b g = f) (hf : f.is = true) : Chain f.ways (firstP b) f.last (chainM f.ways (firstP b) f.last) ∧ (chainM f.ways (firstP b) f.last).length ≤ 40000000 := by
  obtain ⟨h, _⟩ := rounds_spec (g := g) hr hg
  rw [e] at h
  obtain ⟨L, h1, _, _, h2, _⟩ := h.yes hf
  rw [chainM_spec h1]; exact ⟨h1, h2⟩
theorem queue_yes {n : Nat} (h : (decide ((n : Int) > 0) && !false) = true) : 0 < n := by
  simp only [Bool.and_eq_true, decide_eq_true_eq] at h; omega
theorem queue_no {n : Nat} (h : (decide ((n : Int) > 0) && !false) = false) : n = 0 := by
  simp only [Bool.not_false, Bool.and_true, decide_eq_false_iff_not] at h; omega
theorem not_b' {b : Bool} (h : (!b) = false) : b = true := by cases b <;> first | rfl | cases h
theorem not_a' {b : Bool} (h : (!b) = true) : b = false := by cases b <;> first | rfl | cases h
attribute [local irreducible] dInt dBool dSl dPp dPtr dAgg dTup dClo dAny dEx dStr dGd dCells dVec dVs dRow dOp nth Tri Into TOps Ctr bodyPost Exit.then Exit.inBlock Code.wp Code.wpIn dWhen dPa dPe dAo dArr dMp dPm dMap dCJ CtrG CtrI OpY keepPost iterPost bodyPostM roundQ
set_option maxRecDepth 100000 in
theorem c_asked (b : Barn) (hs : b.Small) (g : Int) : Ctr Try.prog 110 [barnT b, Ty.int .i64 g] (Ty.tup [Ty.when (decide (askE b g = 0)) (Ty.pe DeskE ⟨b, firstP b⟩ 0), Ty.int .i64 (askE b g)]) := by
  refine fn_intro Try.func110 rfl (by decide) Try.ntmps110 (by exact Nat.le_of_ble_eq_true rfl) fun w0 M0 => ?_
  refine t_seq ?_
  refine t_region ?_
  refine r_box_agg rfl ?_
  refine asX rfl ?_
  refine asI rfl ?_
  refine r_nil ?_
  refine i_then ?_
  refine t_seq ?_
  refine t_region ?_
  refine r_load_ppN rfl rfl rfl (by exact Nat.le_of_ble_eq_true rfl) ?_
  refine r_call (c_open b hs) rfl rfl rfl rfl rfl ?_
  refine mvT rfl ?_
  refine r_extract rfl rfl ?_
  refine r_extract rfl rfl ?_
  refine asW rfl ?_
  refine asI rfl ?_
  refine r_nil ?_
  refine i_then ?_
  refine t_seq ?_
  refine t_seq ?_
  refine t_region ?_
  refine mvI rfl ?_
  refine r_bin rfl rfl rfl ?_
  refine mvB rfl ?_
  apply r_guard (s := 15) rfl rfl rfl
  · intro hg; apply opT_of; (refine mvI rfl ?_); refine r_nil ?_; exact rfl
  · exact rfl
  · exact rfl
  apply r_guard (s := 15) rfl rfl rfl
  · intro hg; apply opT_strip (s := 16) rfl (by (rw [hg]; rfl)); apply opT_of; (refine r_call (c_in _ _ _) rfl rfl rfl rfl rfl ?_); refine r_nil ?_; exact rfl
  · exact rfl
  · exact rfl
  apply r_guard (s := 15) rfl rfl rfl
  · intro hg; apply opT_strip (s := 17) rfl (by (rw [hg]; rfl)); apply opT_of; (refine r_not rfl ?_); refine r_nil ?_; exact rfl
  · exact rfl
  · exact rfl
  refine r_and rfl rfl ?_
  refine r_nil ?_
  refine i_then ?_
  refine t_cond rfl (fun hc1 => ?_) (fun hc1 => ?_)
  ·
    refine t_seq ?_
    refine t_region ?_
    refine asX rfl ?_
    refine asI rfl ?_
    refine r_nil ?_
    refine i_then ?_
    refine t_ret ?_
    refine i_then_ret ?_
    refine i_rp2 rfl rfl rfl ?_ ?_
    all_goals skip
    all_goals first | exact ret_sub rfl rfl (Ty.sub_when rfl fun h => absurd (of_decide_eq_true h) (by rw [ask_3 hc1]; decide)) | exact ret_eq rfl rfl (congrArg (Ty.int .i64) (ask_3 hc1).symm)
  ·
    refine t_skip ?_
    refine i_then ?_
    refine t_seq ?_
    refine t_region ?_
    refine mvW rfl ?_
    refine mvI rfl ?_
    refine asW rfl ?_
    refine asI rfl ?_
    refine r_nil ?_
    refine i_then ?_
    refine t_ret ?_
    refine i_rp2 rfl rfl rfl ?_ ?_
    all_goals skip
    all_goals first | exact ret_sub rfl rfl (Ty.sub_when rfl fun h => Ty.when_sub (by rw [← ask_ok hc1]; exact h)) | exact ret_eq rfl rfl (congrArg (Ty.int .i64) (ask_ok hc1).symm)
set_option maxRecDepth 100000 in
theorem c_Rounds (b : Barn) (hs : b.Small) (g : Int) : Ctr Try.prog 57 [barnT b, Ty.int .i64 g] (Ty.tup [Ty.sl RowT (roundsV b g), Ty.int .i64 (roundsE b g)]) := by
  refine fnM_intro Try.func57 rfl (by decide) Try.ntmps57 (by exact Nat.le_of_ble_eq_true rfl) fun w0 M0 => ?_
  refine t_seq ?_
  refine t_region ?_
  refine r_box_agg rfl ?_
  refine asX rfl ?_
  refine asI rfl ?_
  refine r_nil ?_
  refine i_then ?_
  refine t_seq ?_
  refine t_region ?_
  refine r_load_ppN rfl rfl rfl (by exact Nat.le_of_ble_eq_true rfl) ?_
  refine mvI rfl ?_
  refine r_call (c_asked b hs g) rfl rfl rfl rfl rfl ?_
  refine mvT rfl ?_
  refine r_extract rfl rfl ?_
  refine r_extract rfl rfl ?_
  refine asW rfl ?_
  refine asI rfl ?_
  refine r_nil ?_
  refine i_then ?_
  refine t_seq ?_
  refine t_seq ?_
  refine t_region ?_
  refine mvI rfl ?_
  refine r_bin rfl rfl rfl ?_
  refine r_nil ?_
  refine i_then ?_
  refine t_cond_ndec rfl (fun hc1 => ?_) (fun hc1 => ?_)
  ·
    refine t_seq ?_
    refine t_region ?_
    refine mvI rfl ?_
    refine asX rfl ?_
    refine asI rfl ?_
    refine r_nil ?_
    refine i_then ?_
    refine t_ret ?_
    refine i_then_ret ?_
    refine m_ret rfl ?_
    refine i_rp2 rfl rfl rfl ?_ ?_
    all_goals skip
    all_goals first | exact ret_nil_eq (roundsV_1 hc1) | exact ret_eq rfl rfl (congrArg (Ty.int .i64) (roundsE_1 hc1).symm)
  ·
    refine t_skip ?_
    refine i_then ?_
    refine t_seq ?_
    have hask := ask_zero hc1
    have hr := check_right hask.1
    have h6 := hr.lots
    have hg : 0 ≤ g := by omega
    have hN := placesN_eq
    refine t_as (s := 6) rfl (Ty.when_sub (decide_eq_true hc1)) ?_
    refine t_region ?_
    refine r_makeMap (encN 6) WayV mapT121 rfl ?_
    refine mvPe rfl ?_
    refine r_nilCheck_pe rfl ?_
    refine r_field_pe rfl rfl rfl rfl rfl (by decide) ?_
    refine r_load_peN rfl rfl rfl rfl rfl ?_
    refine r_build rfl rfl (by exact List.cons_ne_nil _ _) rfl (by repeat (exact (Parts.nil : Parts _ _ [] _))) (by exact rfl) ?_
    refine r_insert (r_mapUpdateS plKey (k := firstP b) (v := way0) rfl rfl (by decide) rfl (key_pl (firstP b)) rfl way0_sub mapT121 ?_)
    refine mvM rfl ?_
    refine r_build rfl rfl (by exact List.cons_ne_nil _ _) rfl (by repeat (first | exact (Parts.nil : Parts _ _ [] _) | (show Parts _ _ ((_, _) :: _) _; apply Parts.one; (· exact (rfl : _ = Ty.mp _)); (· exact rfl)))) (by exact rfl) ?_
    refine r_alloc rfl (by exact List.cons_ne_nil _ _) rfl ?_
    refine r_storeN rfl rfl (by decide) rfl rfl rfl rfl rfl rfl ?_
    refine r_nil ?_
    refine i_then ?_
    refine t_seq ?_
    refine t_forget (B := live [(1, Ty.int .i64 g), (6, Ty.pe DeskE ⟨b, firstP b⟩ 0), (8, Ty.ptr 9 0)] [(9, Cont.cells 125 [Ty.mp 27, Ty.int .i64 0, Ty.int .i64 0, Ty.int .i64 0, Ty.int .i64 0, Ty.int .i64 0, Ty.int .i64 0, Ty.bool false]), (27, Cont.mp (encN 6) WayV (rst0 b).ways)]) ?_ ?_
    · (refine Ent.mk' ?_ ?_ <;> (repeat' (first | exact allSub_zero | exact allTags_nil | refine allSub_succ' ?_ (Ty.sub_any _) | refine allSub_succ' ?_ (Ty.sub_refl _) | refine allTags_cons rfl (Cont.sub_refl _) ?_)))
    refine t_region ?_
    refine mvPe rfl ?_
    refine r_nilCheck_pe rfl ?_
    refine r_field_pe rfl rfl rfl rfl rfl (by decide) ?_
    refine r_load_peN rfl rfl rfl rfl rfl ?_
    refine r_buildRowN (E := PlE) (xs := [firstP b]) rfl rfl rfl rfl rfl (by decide) (by decide) (by repeat (first | exact (Parts.nil : Parts _ _ [] _) | (show Parts _ _ ((_, _) :: _) _; apply Parts.agg; (· exact (rfl : _ = Ty.agg _))))) (by exact rfl) rfl rfl ?_
    refine r_alloc rfl (by exact List.cons_ne_nil _ _) rfl ?_
    refine r_store1 rfl rfl (by decide) rfl rfl (by exact (rfl : _ = Ty.row _ _ _ _)) rfl (by exact Nat.le_of_ble_eq_true rfl) rfl rfl (by exact (rfl : _ = [_])) ?_
    refine r_nil ?_
    refine i_then ?_
    refine t_seq ?_
    refine t_toO (J := 4100) (tg := 39) (c0 := 10) rfl (by decide) rfl (by decide) rfl ?_
    refine t_block ?_
    refine t_loop (fun (x : {x : RSt // RIxs b g x ∧ x.queue.length ≤ x.ways.length + 1}) => live [(1, Ty.int .i64 g), (6, Ty.pe DeskE ⟨b, firstP b⟩ 0), (8, Ty.ptr 9 0), (9, Ty.ptr 10 0)] [(9, Cont.cells 125 [Ty.mp 27, Ty.int .i64 0, Ty.int .i64 0, Ty.int .i64 0, Ty.int .i64 0, Ty.int .i64 0, Ty.int .i64 0, Ty.bool false]), (10, Cont.cells 148 [Ty.rowO PlE 123 4100 x.1.queue]), (27, Cont.mp (encN 6) WayV x.1.ways)]) (fun x => muR x.1) (⟨rst0 b, rixs0 hr, by simp [rst0]⟩) ?_ fun x => ?_
    · (refine Ent.mk' ?_ ?_ <;> (repeat' (first | exact allSub_zero | exact allTags_nil | refine allSub_succ' ?_ (Ty.sub_any _) | refine allSub_succ' ?_ (Ty.sub_refl _) | refine allTags_cons rfl (Cont.sub_refl _) ?_)))
    ·
      refine t_seq ?_
      refine t_seq ?_
      refine t_region ?_
      refine r_load_ptr rfl rfl (by decide) rfl rfl rfl ?_
      refine r_lenO rfl rfl rfl ?_
      refine r_bin rfl rfl rfl ?_
      refine mvB rfl ?_
      apply r_guard (s := 42) rfl rfl rfl
      · intro hg; apply opT_of; (refine r_field_ptr rfl rfl rfl rfl rfl (by decide) ?_); refine r_nil ?_; exact rfl
      · exact rfl
      · exact rfl
      apply r_guard (s := 42) rfl rfl rfl
      · intro hg; apply opT_strip (s := 43) rfl (by (rw [hg]; rfl)); apply opT_of; (refine r_load_ptr rfl rfl (by decide) rfl rfl rfl ?_); refine r_nil ?_; exact rfl
      · exact rfl
      · exact rfl
      apply r_guard (s := 42) rfl rfl rfl
      · intro hg; apply opT_strip (s := 44) rfl (by (rw [hg]; rfl)); apply opT_of; (refine r_not rfl ?_); refine r_nil ?_; exact rfl
      · exact rfl
      · exact rfl
      refine r_and rfl rfl ?_
      refine r_nil ?_
      refine i_then ?_
      refine t_cond rfl (fun hc2 => ?_) (fun hc2 => ?_)
      ·
        refine t_skip ?_
        refine i_then ?_
        refine t_block ?_
        refine t_seq ?_
        have hlen : 0 < x.1.queue.length := queue_yes hc2
        refine t_region ?_
        refine r_load_ptr rfl rfl (by decide) rfl rfl rfl ?_
        refine r_indexO (i := 0) rfl rfl rfl rfl rfl rfl hlen ?_
        refine r_load_opN rfl rfl rfl (by exact Nat.le_of_ble_eq_true rfl) ?_
        refine r_alloc rfl (by exact List.cons_ne_nil _ _) rfl ?_
        refine r_storeN rfl rfl (by decide) rfl rfl rfl rfl rfl rfl ?_
        refine r_nil ?_
        refine i_then ?_
        refine t_seq ?_
        refine t_region ?_
        refine r_load_ptr rfl rfl (by decide) rfl rfl rfl ?_
        refine r_cutO (lo := 1) rfl rfl rfl rfl rfl rfl hlen hlen ?_
        refine r_store1 (ty := Ty.rowO PlE 123 4100 (x.1.queue.drop 1)) rfl rfl (by decide) rfl rfl rfl rfl (by exact Nat.le_of_ble_eq_true rfl) rfl rfl (by exact (rfl : _ = [_])) ?_
        refine r_nil ?_
        refine i_then ?_
        refine t_seq ?_
        refine t_seq ?_
        refine t_forget (B := live [(1, Ty.int .i64 g), (6, Ty.pe DeskE ⟨b, firstP b⟩ 0), (8, Ty.ptr 9 0), (9, Ty.ptr 10 0), (10, Ty.ptr 11 0)] [(9, Cont.cells 125 [Ty.mp 27, Ty.int .i64 0, Ty.int .i64 0, Ty.int .i64 0, Ty.int .i64 0, Ty.int .i64 0, Ty.int .i64 0, Ty.bool false]), (10, Cont.cells 148 [Ty.rowO PlE 123 4100 (restR x.1).queue]), (11, Cont.cells 123 (plT (headR x.1))), (27, Cont.mp (encN 6) WayV x.1.ways)]) ?_ ?_
        · (refine Ent.mk' ?_ ?_ <;> (repeat' (first | exact allSub_zero | exact allTags_nil | refine allSub_succ' ?_ (Ty.sub_any _) | refine allSub_succ' ?_ (Ty.sub_refl _) | refine allTags_cons rfl (Cont.sub_refl _) ?_)))
        refine t_region ?_
        refine mvPe rfl ?_
        refine r_load_ptrN rfl rfl (by decide) rfl rfl (by exact Nat.le_of_ble_eq_true rfl) ?_
        refine r_call (c_made ⟨b, firstP b⟩ h6 (headR x.1)) rfl rfl rfl rfl rfl ?_
        refine r_nil ?_
        refine i_then ?_
        refine t_cond rfl (fun hc3 => ?_) (fun hc3 => ?_)
        ·
          refine t_seq ?_
          refine t_region ?_
          refine r_load_ptrN rfl rfl (by decide) rfl rfl (by exact Nat.le_of_ble_eq_true rfl) ?_
          refine r_field_ptr rfl rfl rfl rfl rfl (by decide) ?_
          refine r_storeO rfl rfl (by decide) rfl rfl rfl (by exact Nat.le_of_ble_eq_true rfl) rfl rfl rfl rfl ?_
          refine r_field_ptr rfl rfl rfl rfl rfl (by decide) ?_
          refine r_store1 rfl rfl (by decide) rfl rfl (by exact (rfl : _ = Ty.bool _)) rfl (by exact Nat.le_of_ble_eq_true rfl) rfl rfl (by exact rfl) ?_
          refine r_nil ?_
          refine i_then ?_
          refine t_exit ?_
          refine i_then_exit ?_
          refine i_block_exit' rfl ?_
          refine i_then_exit ?_
          refine i_block_exit rfl ?_
          refine i_then ?_
          refine t_seq ?_
          refine t_seq ?_
          refine t_region ?_
          refine r_field_ptr rfl rfl rfl rfl rfl (by decide) ?_
          refine r_load_ptr rfl rfl (by decide) rfl rfl rfl ?_
          refine r_not rfl ?_
          refine r_nil ?_
          refine i_then ?_
          refine t_cond_ff rfl (rfl) ?_
          refine t_skip ?_
          refine i_then ?_
          refine t_seq ?_
          have hfm : roundsM b g = ⟨x.1.ways, headR x.1, true⟩ := x.2.1.same.stop (stepR_found (rowR hlen) hc3)
          have hch := chain_found hr hg hfm rfl
          refine t_pubC (tg := 27) [] [(9, Cont.cells 125 [Ty.pm (encN 6) WayV x.1.ways, Ty.int .i64 (nth (headR x.1).1 0), Ty.int .i64 (nth (headR x.1).1 1), Ty.int .i64 (nth (headR x.1).1 2), Ty.int .i64 (nth (headR x.1).1 3), Ty.int .i64 (nth (headR x.1).1 4), Ty.int .i64 (nth (headR x.1).1 5), Ty.bool true])] (by decide) rfl trivial ⟨pubC_cells rfl rfl ⟨pubTy_mp rfl (by decide), pubTy_same rfl, pubTy_same rfl, pubTy_same rfl, pubTy_same rfl, pubTy_same rfl, pubTy_same rfl, pubTy_same rfl, trivial⟩, trivial⟩ ?_
          refine t_forget (B := live [(6, Ty.pe DeskE ⟨b, firstP b⟩ 0), (8, Ty.ptr 9 0)] [(9, Cont.cells 125 (foundTys ⟨x.1.ways, headR x.1, true⟩))]) ?_ ?_
          · (refine Ent.mk' ?_ ?_ <;> (repeat' (first | exact allSub_zero | exact allTags_nil | refine allSub_succ' ?_ (Ty.sub_any _) | refine allSub_succ' ?_ (Ty.sub_refl _) | refine allTags_cons rfl (Cont.sub_refl _) ?_)))
          refine t_draw mixed rfl ?_
          refine r_load_ptrN rfl rfl (by decide) rfl rfl (by exact Nat.le_of_ble_eq_true rfl) ?_
          refine mvPe rfl ?_
          refine r_nilCheck_pe rfl ?_
          refine r_field_pe rfl rfl rfl rfl rfl (by decide) ?_
          refine r_load_peN rfl rfl rfl rfl rfl ?_
          refine r_call (c_plan ⟨x.1.ways, headR x.1, true⟩ (firstP b) _ hch.1 hch.2) rfl rfl rfl rfl rfl ?_
          refine asS rfl ?_
          refine asI rfl ?_
          refine r_nil ?_
          refine ⟨by kernel_rfl, ?_⟩
          refine i_then ?_
          refine t_ret ?_
          refine m_ret rfl ?_
          refine i_rp2 rfl rfl rfl ?_ ?_
          all_goals skip
          all_goals first | exact ret_eq rfl rfl (congrArg (Ty.sl RowT) (roundsV_2 hc1 hfm rfl)) | exact ret_eq rfl rfl (congrArg (Ty.int .i64) (roundsE_2 hc1 hfm rfl).symm)
        ·
          refine t_skip ?_
          refine i_then ?_
          refine t_seq ?_
          refine t_region ?_
          refine mvPe rfl ?_
          refine r_load_ptrN rfl rfl (by decide) rfl rfl (by exact Nat.le_of_ble_eq_true rfl) ?_
          refine mvI rfl ?_
          refine r_call (c_rounds ⟨b, firstP b⟩ (headR x.1) g) rfl rfl rfl rfl rfl ?_
          refine r_nil ?_
          refine i_then ?_
          refine t_block ?_
          refine t_rangeFunc (ps := [62]) (lk [(1, Ty.int .i64 g), (6, Ty.pe DeskE ⟨b, firstP b⟩ 0), (8, Ty.ptr 9 0), (9, Ty.ptr 10 0), (10, Ty.ptr 11 0)]) (fun k => [(9, Cont.cells 125 [Ty.mp 27, Ty.int .i64 0, Ty.int .i64 0, Ty.int .i64 0, Ty.int .i64 0, Ty.int .i64 0, Ty.int .i64 0, Ty.bool false]), (10, Cont.cells 148 [Ty.rowO PlE 123 4100 (foldR b g (headR x.1) (restR x.1) k).queue]), (11, Cont.cells 123 (plT (headR x.1))), (27, Cont.mp (encN 6) WayV (foldR b g (headR x.1) (restR x.1) k).ways)]) false [] [9, 10, 11, 27] rfl rfl (c_rounds1 ⟨b, firstP b⟩ (small_right hr) h6 g (headR x.1)) rfl rfl (by decide) (by intro t ht; obtain ⟨x, _, rfl⟩ := List.mem_map.1 ht; exact ⟨rfl, rfl, rfl⟩) rfl rfl (fun _ => rfl) rfl ?_ ?_ ?_ (by intro h; cases h)
          · (refine Ent.mk' ?_ ?_ <;> (repeat' (first | exact allSub_zero | exact allTags_nil | refine allSub_succ' ?_ (Ty.sub_any _) | refine allSub_succ' ?_ (Ty.sub_refl _) | refine allTags_cons rfl (Cont.sub_refl _) ?_)))
          · intro k tys hk
            obtain ⟨hk1, rfl⟩ := enc_get hk
            have hk1 : k < (allR b (headR x.1) g).length := hk1
            have hok := (mem_allR hg).1 (nth_mem (xs := allR b (headR x.1) g) hk1)
            have hlg := hok.len
            have hfw := foldR_few x.2.1 hr hg hlen hc3 (Nat.le_of_lt hk1)
            have hql := foldR_qlen (x := restR x.1) (b := b) (g := g) (by have := x.2.2; show (x.1.queue.drop 1).length ≤ x.1.ways.length + 1; rw [List.length_drop]; omega) (headR x.1) k
            refine ⟨live [(1, Ty.int .i64 g), (6, Ty.pe DeskE ⟨b, firstP b⟩ 0), (8, Ty.ptr 9 0), (9, Ty.ptr 10 0), (10, Ty.ptr 11 0), (11, Ty.sl TurE (nth (allR b (headR x.1) g) k))] [(9, Cont.cells 125 [Ty.mp 27, Ty.int .i64 0, Ty.int .i64 0, Ty.int .i64 0, Ty.int .i64 0, Ty.int .i64 0, Ty.int .i64 0, Ty.bool false]), (10, Cont.cells 148 [Ty.rowO PlE 123 4100 (foldR b g (headR x.1) (restR x.1) k).queue]), (11, Cont.cells 123 (plT (headR x.1))), (27, Cont.mp (encN 6) WayV (foldR b g (headR x.1) (restR x.1) k).ways)], fun l w M => ?_, fun l w M => ?_⟩
            ·
              refine t_region ?_
              refine asS rfl ?_
              refine r_nil ?_
              refine i_join ?_
              (refine Ent.mk' ?_ ?_ <;> (repeat' (first | exact allSub_zero | exact allTags_nil | refine allSub_succ' ?_ (Ty.sub_any _) | refine allSub_succ' ?_ (Ty.sub_refl _) | refine allTags_cons rfl (Cont.sub_refl _) ?_)))
            ·
              refine t_block ?_
              refine t_seq ?_
              refine t_region ?_
              refine r_load_ptrN rfl rfl (by decide) rfl rfl (by exact Nat.le_of_ble_eq_true rfl) ?_
              refine r_alloc rfl (by exact List.cons_ne_nil _ _) rfl ?_
              refine r_storeN rfl rfl (by decide) rfl rfl rfl rfl rfl rfl ?_
              refine r_nil ?_
              refine i_then ?_
              refine t_seq ?_
              refine t_seq ?_
              refine t_region ?_
              refine mvS rfl ?_
              refine r_len rfl rfl rfl ?_
              refine mvI rfl ?_
              refine r_nil ?_
              refine i_then ?_
              refine t_block ?_
              refine t_loop (fun (j : {j : Nat // j ≤ (nth (allR b (headR x.1) g) k).length}) => live [(1, Ty.int .i64 g), (6, Ty.pe DeskE ⟨b, firstP b⟩ 0), (8, Ty.ptr 9 0), (9, Ty.ptr 10 0), (10, Ty.ptr 11 0), (11, Ty.sl TurE (nth (allR b (headR x.1) g) k)), (12, Ty.ptr 13 0), (64, Ty.sl TurE (nth (allR b (headR x.1) g) k)), (65, Ty.int .i64 (nth (allR b (headR x.1) g) k).length), (66, Ty.int .i64 (j.1 : Nat))] [(9, Cont.cells 125 [Ty.mp 27, Ty.int .i64 0, Ty.int .i64 0, Ty.int .i64 0, Ty.int .i64 0, Ty.int .i64 0, Ty.int .i64 0, Ty.bool false]), (10, Cont.cells 148 [Ty.rowO PlE 123 4100 (foldR b g (headR x.1) (restR x.1) k).queue]), (11, Cont.cells 123 (plT (headR x.1))), (13, Cont.cells 123 (plT (movedAll (headR x.1) ((nth (allR b (headR x.1) g) k).take j.1)))), (27, Cont.mp (encN 6) WayV (foldR b g (headR x.1) (restR x.1) k).ways)]) (fun j => (nth (allR b (headR x.1) g) k).length - j.1) (⟨0, by omega⟩) ?_ fun j => ?_
              · (refine Ent.mk' ?_ ?_ <;> (repeat' (first | exact allSub_zero | exact allTags_nil | refine allSub_succ' ?_ (Ty.sub_any _) | refine allSub_succ' ?_ (Ty.sub_refl _) | refine allTags_cons rfl (Cont.sub_refl _) ?_)))
              ·
                refine t_seq ?_
                refine t_region ?_
                refine r_bin rfl rfl rfl ?_
                refine r_nil ?_
                refine i_then ?_
                refine t_seq ?_
                refine t_cond_dec rfl (fun hc5 => ?_) (fun hc5 => ?_)
                ·
                  refine t_skip ?_
                  refine i_then ?_
                  refine t_seq ?_
                  refine t_block ?_
                  refine t_seq ?_
                  refine t_region ?_
                  refine r_index_slN rfl rfl rfl rfl rfl rfl (by omega) ?_
                  refine r_load_ppN rfl rfl rfl (by exact Nat.le_of_ble_eq_true rfl) ?_
                  refine r_alloc rfl (by exact List.cons_ne_nil _ _) rfl ?_
                  refine r_storeN rfl rfl (by decide) rfl rfl rfl rfl rfl rfl ?_
                  refine r_nil ?_
                  refine i_then ?_
                  have htk := hok.ok _ (nth_mem (xs := nth (allR b (headR x.1) g) k) (k := j.1) (by omega))
                  have htm := take_moved (p := headR x.1) (l := nth (allR b (headR x.1) g) k) (j := j.1) (by omega)
                  have htl : (0 : Int) ≤ (nth (nth (allR b (headR x.1) g) k) j.1).lot ∧ (nth (nth (allR b (headR x.1) g) k) j.1).lot < b.lots.length := htk.1
                  refine t_region ?_
                  refine r_field_ptr rfl rfl rfl rfl rfl (by decide) ?_
                  refine r_load_ptr rfl rfl (by decide) rfl rfl rfl ?_
                  refine r_field_ptr rfl rfl rfl rfl rfl (by decide) ?_
                  refine r_load_ptr rfl rfl (by decide) rfl rfl rfl ?_
                  refine r_index_ptrI (n := 6) rfl rfl rfl rfl rfl htl.1 (by omega) ?_
                  refine r_store1 (l' := plT (moved (movedAll (headR x.1) ((nth (allR b (headR x.1) g) k).take j.1)) (nth (nth (allR b (headR x.1) g) k) j.1))) rfl rfl (by decide) rfl rfl (by exact (rfl : _ = Ty.int _ _)) rfl (by show 0 + _ * 1 < 6; omega) rfl rfl (pl_moved _ _ (by omega)) ?_
                  refine r_nil ?_
                  refine i_block ?_
                  refine i_then ?_
                  refine t_region ?_
                  refine r_add rfl rfl (by omega) (by omega) ?_
                  refine mvI rfl ?_
                  refine r_nil ?_
                  refine i_round (⟨j.1 + 1, by omega⟩) ?_ (by show (nth (allR b (headR x.1) g) k).length - (j.1 + 1) < (nth (allR b (headR x.1) g) k).length - j.1; omega)
                  (refine Ent.mk' ?_ ?_ <;> (repeat' (first | exact allSub_zero | exact allTags_nil | exact subs_nil | refine allSub_succ' ?_ (Ty.sub_any _) | refine allSub_succ' ?_ (Ty.sub_refl _) | refine allTags_cons rfl (Cont.sub_refl _) ?_ | refine allTags_cons rfl (Cont.sub_subs ?_) ?_ | refine subs_cons ?_ ?_)))
                  all_goals skip
                  all_goals first | exact Ty.sub_int (congrArg (fun p : Pl => nth p.1 0) htm) | exact Ty.sub_int (congrArg (fun p : Pl => nth p.1 1) htm) | exact Ty.sub_int (congrArg (fun p : Pl => nth p.1 2) htm) | exact Ty.sub_int (congrArg (fun p : Pl => nth p.1 3) htm) | exact Ty.sub_int (congrArg (fun p : Pl => nth p.1 4) htm) | exact Ty.sub_int (congrArg (fun p : Pl => nth p.1 5) htm)
                ·
                  refine t_exit ?_
                  refine i_then_exit ?_
                  refine i_then_exit ?_
                  refine i_block_exit rfl ?_
                  refine i_then ?_
                  refine t_seq ?_
                  refine t_forget (B := live [(1, Ty.int .i64 g), (6, Ty.pe DeskE ⟨b, firstP b⟩ 0), (8, Ty.ptr 9 0), (9, Ty.ptr 10 0), (10, Ty.ptr 11 0), (11, Ty.sl TurE (nth (allR b (headR x.1) g) k)), (12, Ty.ptr 13 0)] [(9, Cont.cells 125 [Ty.mp 27, Ty.int .i64 0, Ty.int .i64 0, Ty.int .i64 0, Ty.int .i64 0, Ty.int .i64 0, Ty.int .i64 0, Ty.bool false]), (10, Cont.cells 148 [Ty.rowO PlE 123 4100 (foldR b g (headR x.1) (restR x.1) k).queue]), (11, Cont.cells 123 (plT (headR x.1))), (13, Cont.cells 123 (plT (movedAll (headR x.1) ((nth (allR b (headR x.1) g) k).take j.1)))), (27, Cont.mp (encN 6) WayV (foldR b g (headR x.1) (restR x.1) k).ways)]) ?_ ?_
                  · (refine Ent.mk' ?_ ?_ <;> (repeat' (first | exact allSub_zero | exact allTags_nil | refine allSub_succ' ?_ (Ty.sub_any _) | refine allSub_succ' ?_ (Ty.sub_refl _) | refine allTags_cons rfl (Cont.sub_refl _) ?_)))
                  refine t_asC (tg := 13) rfl (Cont.sub_cells (congrArg plT (show movedAll (headR x.1) ((nth (allR b (headR x.1) g) k).take j.1) = movedAll (headR x.1) (nth (allR b (headR x.1) g) k) by rw [List.take_of_length_le (by omega)]))) ?_
                  refine t_region ?_
                  refine r_field_ptr rfl rfl rfl rfl rfl (by decide) ?_
                  refine r_load_ptr rfl rfl (by decide) rfl rfl rfl ?_
                  refine r_load_ptrN rfl rfl (by decide) rfl rfl (by exact Nat.le_of_ble_eq_true rfl) ?_
                  refine r_lookup2 plKey (k := movedAll (headR x.1) (nth (allR b (headR x.1) g) k)) (z0 := way0) rfl rfl (by decide) rfl (key_pl _) mapT121 zero147 way_zero ?_
                  refine mvT rfl ?_
                  refine r_extract rfl rfl ?_
                  refine r_extract rfl rfl ?_
                  refine r_alloc rfl (by exact List.cons_ne_nil _ _) rfl ?_
                  refine r_storeN rfl rfl (by decide) rfl rfl rfl rfl rfl rfl ?_
                  refine asB rfl ?_
                  refine r_nil ?_
                  refine i_then ?_
                  refine t_seq ?_
                  refine t_region ?_
                  refine mvB rfl ?_
                  refine r_not rfl ?_
                  refine r_nil ?_
                  refine i_then ?_
                  refine t_cond rfl (fun hc6 => ?_) (fun hc6 => ?_)
                  ·
                    refine t_seq ?_
                    refine t_region ?_
                    refine r_field_ptr rfl rfl rfl rfl rfl (by decide) ?_
                    refine r_load_ptr rfl rfl (by decide) rfl rfl rfl ?_
                    refine r_load_ptrN rfl rfl (by decide) rfl rfl (by exact Nat.le_of_ble_eq_true rfl) ?_
                    refine r_load_ptrN rfl rfl (by decide) rfl rfl (by exact Nat.le_of_ble_eq_true rfl) ?_
                    refine mvS rfl ?_
                    refine r_build rfl rfl (by exact List.cons_ne_nil _ _) rfl (by repeat (first | exact (Parts.nil : Parts _ _ [] _) | (show Parts _ _ ((_, _) :: _) _; apply Parts.one; (· first | exact (rfl : _ = Ty.int _ _) | exact (rfl : _ = Ty.sl _ _)); (· exact rfl)) | (show Parts _ _ ((_, _) :: _) _; apply Parts.agg; (· exact (rfl : _ = Ty.agg _))))) (by exact rfl) ?_
                    refine r_mapUpdate plKey (k := movedAll (headR x.1) (nth (allR b (headR x.1) g) k)) (v := ⟨headR x.1, nth (allR b (headR x.1) g) k, 0⟩) rfl rfl (by decide) rfl (key_pl _) rfl rfl mapT121 ?_
                    refine r_nil ?_
                    refine i_then ?_
                    refine t_region ?_
                    refine r_load_ptr rfl rfl (by decide) rfl rfl rfl ?_
                    refine r_load_ptrN rfl rfl (by decide) rfl rfl (by exact Nat.le_of_ble_eq_true rfl) ?_
                    refine r_buildSlice (E := PlE) (xs := [movedAll (headR x.1) (nth (allR b (headR x.1) g) k)]) rfl rfl rfl rfl rfl (by decide) (by decide) (by repeat (first | exact (Parts.nil : Parts _ _ [] _) | (show Parts _ _ ((_, _) :: _) _; apply Parts.agg; (· exact (rfl : _ = Ty.agg _))))) (by exact rfl) rfl ?_
                    refine r_appendO rfl rfl (by decide) rfl (by show 0 < 1; decide) rfl rfl rfl rfl rfl (by decide) (by show (_ + 1) * 48 ≤ _; omega) (by show _ + 1 ≤ _; omega) ?_
                    refine r_store1 (ty := Ty.rowO PlE 123 4100 ((foldR b g (headR x.1) (restR x.1) k).queue ++ [movedAll (headR x.1) (nth (allR b (headR x.1) g) k)])) rfl rfl (by decide) rfl rfl rfl rfl (by exact Nat.le_of_ble_eq_true rfl) rfl rfl (by exact (rfl : _ = [_])) ?_
                    refine r_nil ?_
                    refine i_block ?_
                    refine q_normal ?_
                    (refine Ent.mk' ?_ ?_ <;> (repeat' (first | exact allSub_zero | exact allTags_nil | exact subs_nil | refine allSub_succ' ?_ (Ty.sub_any _) | refine allTags_cons rfl (Cont.sub_refl _) ?_ | refine allTags_cons rfl (Cont.sub_subs ?_) ?_ | refine subs_cons ?_ ?_ | refine allTags_cons rfl ?_ ?_)))
                    all_goals first | exact Ty.sub_eq (congrArg (Ty.rowO PlE 123 4100) (frR_no hk1 (not_a' hc6)).2) | exact Cont.sub_mp (frR_no hk1 (not_a' hc6)).1
                  ·
                    refine t_skip ?_
                    refine i_block ?_
                    refine q_normal ?_
                    (refine Ent.mk' ?_ ?_ <;> (repeat' (first | exact allSub_zero | exact allTags_nil | exact subs_nil | refine allSub_succ' ?_ (Ty.sub_any _) | refine allTags_cons rfl (Cont.sub_refl _) ?_ | refine allTags_cons rfl (Cont.sub_subs ?_) ?_ | refine subs_cons ?_ ?_ | refine allTags_cons rfl ?_ ?_)))
                    all_goals first | exact Ty.sub_eq (congrArg (fun z : RSt => Ty.rowO PlE 123 4100 z.queue) (frR_yes hk1 (not_b' hc6))) | exact Cont.sub_mp (congrArg RSt.ways (frR_yes hk1 (not_b' hc6)))
          ·
            refine i_block ?_
            refine i_block ?_
            refine i_round (⟨foldR b g (headR x.1) (restR x.1) (allR b (headR x.1) g).length, (x.2.1.next hr hg hlen hc3).1, foldR_qlen (by have := x.2.2; show (x.1.queue.drop 1).length ≤ x.1.ways.length + 1; rw [List.length_drop]; omega) _ _⟩) ?_ (by exact (x.2.1.next hr hg hlen hc3).2)
            (refine Ent.mk' ?_ ?_ <;> (repeat' (first | exact allSub_zero | exact allTags_nil | exact subs_nil | refine allSub_succ' ?_ (Ty.sub_any _) | refine allSub_succ' ?_ (Ty.sub_refl _) | refine allTags_cons rfl (Cont.sub_refl _) ?_ | refine allTags_cons rfl (Cont.sub_subs ?_) ?_ | refine subs_cons ?_ ?_ | refine allTags_cons rfl ?_ ?_)))
            all_goals skip
            all_goals first | exact Cont.sub_mp (congrArg (fun n => (foldR b g (headR x.1) (restR x.1) n).ways) (List.length_map _)) | exact Ty.sub_eq (congrArg (fun n => Ty.rowO PlE 123 4100 (foldR b g (headR x.1) (restR x.1) n).queue) (List.length_map _))
      ·
        refine t_exit ?_
        refine i_then_exit ?_
        refine i_then_exit ?_
        refine i_block_exit rfl ?_
        refine i_then ?_
        refine t_seq ?_
        refine t_seq ?_
        refine t_region ?_
        refine r_field_ptr rfl rfl rfl rfl rfl (by decide) ?_
        refine r_load_ptr rfl rfl (by decide) rfl rfl rfl ?_
        refine r_not rfl ?_
        refine r_nil ?_
        refine i_then ?_
        refine t_cond_tt rfl (rfl) ?_
        refine t_seq ?_
        refine t_region ?_
        refine asX rfl ?_
        refine asI rfl ?_
        refine r_nil ?_
        refine i_then ?_
        refine t_ret ?_
        refine i_then_ret ?_
        refine m_ret rfl ?_
        refine i_rp2 rfl rfl rfl ?_ ?_
        all_goals skip
        all_goals first | exact ret_nil_eq (roundsV_3 hc1 (x.2.1.same.stop (stepR_end (List.length_eq_zero_iff.1 (queue_no hc2)))) rfl) | exact ret_eq rfl rfl (congrArg (Ty.int .i64) (roundsE_3 hc1 (x.2.1.same.stop (stepR_end (List.length_eq_zero_iff.1 (queue_no hc2)))) rfl).symm)
set_option maxRecDepth 100000 in
theorem c_Least (b : Barn) (hs : b.Small) (g : Int) : Ctr Try.prog 55 [barnT b, Ty.int .i64 g] (Ty.tup [Ty.int .i64 (roundsV b g).length, Ty.int .i64 (roundsE b g)]) := by
  refine fn_intro Try.func55 rfl (by decide) Try.ntmps55 (by exact Nat.le_of_ble_eq_true rfl) fun w0 M0 => ?_
  refine t_seq ?_
  refine t_region ?_
  refine r_box_agg rfl ?_
  refine asI rfl ?_
  refine asI rfl ?_
  refine r_nil ?_
  refine i_then ?_
  refine t_seq ?_
  refine t_region ?_
  refine r_load_ppN rfl rfl rfl (by exact Nat.le_of_ble_eq_true rfl) ?_
  refine mvI rfl ?_
  refine r_call (c_Rounds b hs g) rfl rfl rfl rfl rfl ?_
  refine mvT rfl ?_
  refine r_extract rfl rfl ?_
  refine r_extract rfl rfl ?_
  refine asS rfl ?_
  refine asI rfl ?_
  refine r_nil ?_
  refine i_then ?_
  refine t_seq ?_
  refine t_region ?_
  refine mvS rfl ?_
  refine r_len rfl rfl rfl ?_
  refine mvI rfl ?_
  refine asI rfl ?_
  refine asI rfl ?_
  refine r_nil ?_
  refine i_then ?_
  refine t_ret ?_
  refine i_rp2 rfl rfl rfl ?_ ?_
  all_goals exact ret_refl rfl rfl
end Go.Proofs.Ytpnndljmhpepgaa

namespace Go.Proofs.Ytpnndljmhpepgaa
open Go Go.T
set_option maxHeartbeats 16000000
theorem found_zero (w : List (Pl × Way)) : foundT ⟨w, pl0, false⟩ = Ty.agg [Ty.pm (encN 6) WayV w, Ty.int .i64 0, Ty.int .i64 0, Ty.int .i64 0, Ty.int .i64 0, Ty.int .i64 0, Ty.int .i64 0, Ty.bool false] := rfl
def costT (ct : Ty) (hd : ct.deps = []) (hcd : ct.cdeps = []) : Ty := Ty.nd ct hd hcd
attribute [local irreducible] dInt dBool dSl dPp dPtr dAgg dTup dClo dAny dEx dStr dGd dCells dVec dVs dRow dOp nth Tri Into TOps Ctr bodyPost Exit.then Exit.inBlock Code.wp Code.wpIn dWhen dPa dPe dAo dArr dMp dPm dMap dCJ CtrG CtrI OpY keepPost iterPost bodyPostM roundQ
set_option maxRecDepth 100000 in
theorem c_search (b : Barn) (hr : b.Right) (c : Tur → Int) (hc : CostOk b c) (ct : Ty) (_ : ct.one = true) (hd : ct.deps = []) (hcd : ct.cdeps = []) (hf : ∀ t : Tur, 0 ≤ t.lot → t.lot < b.lots.length → Cal Try.prog ct [Ty.agg (TurE.tys t)] (Ty.int .i64 (c t))) (all : Bool) : Ctr Try.prog 78 [Ty.pe DeskE ⟨b, firstP b⟩ 0, Ty.agg [Ty.nd ct hd hcd], Ty.bool all] (foundT (searchM b c all)) := by
  refine fnM_intro Try.func78 rfl (by decide) Try.ntmps78 (by exact Nat.le_of_ble_eq_true rfl) fun w0 M0 => ?_
  have h6 := hr.lots
  have hN := placesN_eq
  refine t_seq ?_
  refine t_region ?_
  refine r_box_agg rfl ?_
  refine r_alloc rfl (by exact List.cons_ne_nil _ _) rfl ?_
  refine r_nil ?_
  refine i_then ?_
  refine t_scope ?_
  refine t_seq ?_
  refine t_region ?_
  refine r_makeMap (encN 6) WayV mapT121 rfl ?_
  refine mvPe rfl ?_
  refine r_nilCheck_pe rfl ?_
  refine r_field_pe rfl rfl rfl rfl rfl (by decide) ?_
  refine r_load_peN rfl rfl rfl rfl rfl ?_
  refine r_build rfl rfl (by exact List.cons_ne_nil _ _) rfl (by repeat (exact (Parts.nil : Parts _ _ [] _))) (by exact rfl) ?_
  refine r_insert (r_mapUpdateS plKey (k := firstP b) (v := way0) rfl rfl (by decide) rfl (key_pl (firstP b)) rfl way0_sub mapT121 ?_)
  refine mvM rfl ?_
  refine r_build rfl rfl (by exact List.cons_ne_nil _ _) rfl (by repeat (first | exact (Parts.nil : Parts _ _ [] _) | (show Parts _ _ ((_, _) :: _) _; apply Parts.one; (· exact (rfl : _ = Ty.mp _)); (· exact rfl)))) (by exact rfl) ?_
  refine r_alloc rfl (by exact List.cons_ne_nil _ _) rfl ?_
  refine r_storeN rfl rfl (by decide) rfl rfl rfl rfl rfl rfl ?_
  refine r_nil ?_
  refine i_then ?_
  refine t_seq ?_
  refine t_forget (B := live [(0, Ty.pe DeskE ⟨b, firstP b⟩ 0), (2, Ty.bool all), (4, Ty.pp [Ty.nd ct hd hcd]), (6, Ty.ptr 7 0), (7, Ty.ptr 8 0)] [(7, Cont.cells 125 [Ty.ex (.map none), Ty.int .i64 0, Ty.int .i64 0, Ty.int .i64 0, Ty.int .i64 0, Ty.int .i64 0, Ty.int .i64 0, Ty.bool false]), (8, Cont.cells 125 [Ty.mp 19, Ty.int .i64 0, Ty.int .i64 0, Ty.int .i64 0, Ty.int .i64 0, Ty.int .i64 0, Ty.int .i64 0, Ty.bool false]), (19, Cont.mp (encN 6) WayV (st0 b).ways)]) ?_ ?_
  · (refine Ent.mk' ?_ ?_ <;> (repeat' (first | exact allSub_zero | exact allTags_nil | refine allSub_succ' ?_ (Ty.sub_any _) | refine allSub_succ' ?_ (Ty.sub_refl _) | refine allTags_cons rfl (Cont.sub_refl _) ?_)))
  refine t_region ?_
  refine r_makeMapQ (Value.int .i64) PlE 123 4096 mapT158 rfl ?_
  refine mvPe rfl ?_
  refine r_nilCheck_pe rfl ?_
  refine r_field_pe rfl rfl rfl rfl rfl (by decide) ?_
  refine r_load_peN rfl rfl rfl rfl rfl ?_
  refine r_buildRowN (E := PlE) (xs := [firstP b]) rfl rfl rfl rfl rfl (by decide) (by decide) (by repeat (first | exact (Parts.nil : Parts _ _ [] _) | (show Parts _ _ ((_, _) :: _) _; apply Parts.agg; (· exact (rfl : _ = Ty.agg _))))) (by exact rfl) rfl rfl ?_
  refine r_insert (r_updateR i3Key (k := 0) rfl rfl (by decide) rfl key_int rfl mapT158 (by decide) (by decide) rfl rfl ?_)
  refine mvM rfl ?_
  refine r_alloc rfl (by exact List.cons_ne_nil _ _) rfl ?_
  refine r_store1 rfl rfl (by decide) rfl rfl (by exact (rfl : _ = Ty.mp _)) rfl (by exact Nat.le_of_ble_eq_true rfl) rfl rfl (by exact (rfl : _ = [_])) ?_
  refine r_nil ?_
  refine i_then ?_
  refine t_seq ?_
  refine t_forget (B := live [(0, Ty.pe DeskE ⟨b, firstP b⟩ 0), (2, Ty.bool all), (4, Ty.pp [Ty.nd ct hd hcd]), (6, Ty.ptr 7 0), (7, Ty.ptr 8 0), (8, Ty.ptr 9 0)] [(7, Cont.cells 125 [Ty.ex (.map none), Ty.int .i64 0, Ty.int .i64 0, Ty.int .i64 0, Ty.int .i64 0, Ty.int .i64 0, Ty.int .i64 0, Ty.bool false]), (8, Cont.cells 125 [Ty.mp 19, Ty.int .i64 0, Ty.int .i64 0, Ty.int .i64 0, Ty.int .i64 0, Ty.int .i64 0, Ty.int .i64 0, Ty.bool false]), (9, Cont.cells 158 [Ty.mp 27]), (19, Cont.mp (encN 6) WayV (st0 b).ways), (27, Cont.mr (Value.int .i64) PlE 123 4096 (st0 b).queue)]) ?_ ?_
  · (refine Ent.mk' ?_ ?_ <;> (repeat' (first | exact allSub_zero | exact allTags_nil | refine allSub_succ' ?_ (Ty.sub_any _) | refine allSub_succ' ?_ (Ty.sub_refl _) | refine allTags_cons rfl (Cont.sub_refl _) ?_)))
  refine t_region ?_
  refine r_makeMap (encN 6) VBool mapT159 rfl ?_
  refine asM rfl ?_
  refine r_nil ?_
  refine i_then ?_
  refine t_seq ?_
  refine t_label ?_
  refine i_then ?_
  refine t_seq ?_
  refine t_seq ?_
  refine t_forget (B := live [(0, Ty.pe DeskE ⟨b, firstP b⟩ 0), (2, Ty.bool all), (4, Ty.pp [Ty.nd ct hd hcd]), (6, Ty.ptr 7 0), (7, Ty.ptr 8 0), (8, Ty.ptr 9 0), (9, Ty.mp 34)] [(7, Cont.cells 125 [Ty.ex (.map none), Ty.int .i64 0, Ty.int .i64 0, Ty.int .i64 0, Ty.int .i64 0, Ty.int .i64 0, Ty.int .i64 0, Ty.bool false]), (8, Cont.cells 125 [Ty.mp 19, Ty.int .i64 0, Ty.int .i64 0, Ty.int .i64 0, Ty.int .i64 0, Ty.int .i64 0, Ty.int .i64 0, Ty.bool false]), (9, Cont.cells 158 [Ty.mp 27]), (19, Cont.mp (encN 6) WayV (st0 b).ways), (27, Cont.mr (Value.int .i64) PlE 123 4096 (st0 b).queue), (34, Cont.mp (encN 6) VBool (st0 b).done)]) ?_ ?_
  · (refine Ent.mk' ?_ ?_ <;> (repeat' (first | exact allSub_zero | exact allTags_nil | refine allSub_succ' ?_ (Ty.sub_any _) | refine allSub_succ' ?_ (Ty.sub_refl _) | refine allTags_cons rfl (Cont.sub_refl _) ?_)))
  refine t_region ?_
  refine r_alloc rfl (by exact List.cons_ne_nil _ _) rfl ?_
  refine r_alloc rfl (by exact List.cons_ne_nil _ _) rfl ?_
  refine r_store1 rfl rfl (by decide) rfl rfl (by exact (rfl : _ = Ty.int _ _)) rfl (by exact Nat.le_of_ble_eq_true rfl) rfl rfl (by exact (rfl : _ = [_])) ?_
  refine r_store1 rfl rfl (by decide) rfl rfl (by exact (rfl : _ = Ty.int _ _)) rfl (by exact Nat.le_of_ble_eq_true rfl) rfl rfl (by exact (rfl : _ = [_])) ?_
  refine r_nil ?_
  refine i_then ?_
  refine t_block ?_
  refine t_loop (fun (x : {x : St // Inv b c all (turnsL b) 0 x ∧ SameS b c all x}) => live [(0, Ty.pe DeskE ⟨b, firstP b⟩ 0), (2, Ty.bool all), (4, Ty.pp [Ty.nd ct hd hcd]), (6, Ty.ptr 7 0), (7, Ty.ptr 8 0), (8, Ty.ptr 9 0), (9, Ty.mp 34), (10, Ty.ptr 11 0), (11, Ty.ptr 12 0)] [(7, Cont.cells 125 [Ty.ex (.map none), Ty.int .i64 0, Ty.int .i64 0, Ty.int .i64 0, Ty.int .i64 0, Ty.int .i64 0, Ty.int .i64 0, Ty.bool false]), (8, Cont.cells 125 [Ty.mp 19, Ty.int .i64 0, Ty.int .i64 0, Ty.int .i64 0, Ty.int .i64 0, Ty.int .i64 0, Ty.int .i64 0, Ty.bool false]), (9, Cont.cells 158 [Ty.mp 27]), (11, Cont.cells 3 [Ty.int .i64 x.1.now]), (12, Cont.cells 3 [Ty.int .i64 x.1.left]), (19, Cont.mp (encN 6) WayV x.1.ways), (27, Cont.mr (Value.int .i64) PlE 123 4096 x.1.queue), (34, Cont.mp (encN 6) VBool x.1.done)]) (fun x => muS x.1) (⟨st0 b, inv0 b c all, same0⟩) ?_ fun x => ?_
  · (refine Ent.mk' ?_ ?_ <;> (repeat' (first | exact allSub_zero | exact allTags_nil | refine allSub_succ' ?_ (Ty.sub_any _) | refine allSub_succ' ?_ (Ty.sub_refl _) | refine allTags_cons rfl (Cont.sub_refl _) ?_)))
  ·
    refine t_seq ?_
    refine t_seq ?_
    refine t_region ?_
    refine r_load_ptr rfl rfl (by decide) rfl rfl rfl ?_
    refine r_bin rfl rfl rfl ?_
    refine r_nil ?_
    refine i_then ?_
    refine t_cond_dec rfl (fun hc1 => ?_) (fun hc1 => ?_)
    ·
      refine t_skip ?_
      refine i_then ?_
      refine t_seq ?_
      refine t_block ?_
      refine t_seq ?_
      refine t_block ?_
      refine t_loop (fun (y : {y : St // YIx b c all x.1 y}) => live [(0, Ty.pe DeskE ⟨b, firstP b⟩ 0), (2, Ty.bool all), (4, Ty.pp [Ty.nd ct hd hcd]), (6, Ty.ptr 7 0), (7, Ty.ptr 8 0), (8, Ty.ptr 9 0), (9, Ty.mp 34), (10, Ty.ptr 11 0), (11, Ty.ptr 12 0)] [(7, Cont.cells 125 [Ty.ex (.map none), Ty.int .i64 0, Ty.int .i64 0, Ty.int .i64 0, Ty.int .i64 0, Ty.int .i64 0, Ty.int .i64 0, Ty.bool false]), (8, Cont.cells 125 [Ty.mp 19, Ty.int .i64 0, Ty.int .i64 0, Ty.int .i64 0, Ty.int .i64 0, Ty.int .i64 0, Ty.int .i64 0, Ty.bool false]), (9, Cont.cells 158 [Ty.mp 27]), (11, Cont.cells 3 [Ty.int .i64 y.1.now]), (12, Cont.cells 3 [Ty.int .i64 y.1.left]), (19, Cont.mp (encN 6) WayV y.1.ways), (27, Cont.mr (Value.int .i64) PlE 123 4096 y.1.queue), (34, Cont.mp (encN 6) VBool y.1.done)]) (fun y => muS y.1) (⟨x.1, yix_start x.2.1 x.2.2 hc1⟩) ?_ fun y => ?_
      · (refine Ent.mk' ?_ ?_ <;> (repeat' (first | exact allSub_zero | exact allTags_nil | refine allSub_succ' ?_ (Ty.sub_any _) | refine allSub_succ' ?_ (Ty.sub_refl _) | refine allTags_cons rfl (Cont.sub_refl _) ?_)))
      ·
        refine t_seq ?_
        refine t_seq ?_
        refine t_region ?_
        refine r_load_ptr rfl rfl (by decide) rfl rfl rfl ?_
        refine r_load_ptr rfl rfl (by decide) rfl rfl rfl ?_
        refine r_lookupQ i3Key (k := y.1.now) rfl rfl (by decide) rfl key_int mapT158 zero148 ?_
        refine r_lenQ rfl rfl rfl ?_
        refine r_bin rfl rfl rfl ?_
        refine r_nil ?_
        refine i_then ?_
        refine t_cond_dec rfl (fun hc2 => ?_) (fun hc2 => ?_)
        ·
          refine t_skip ?_
          refine i_then ?_
          refine t_block ?_
          refine t_seq ?_
          have hlen : 0 < (rowAt y.1.queue y.1.now).length := Int.natCast_pos.1 hc2
          have hlen' : 0 < ((mget y.1.queue y.1.now).getD []).length := hlen
          refine t_region ?_
          refine r_load_ptr rfl rfl (by decide) rfl rfl rfl ?_
          refine r_load_ptr rfl rfl (by decide) rfl rfl rfl ?_
          refine r_lookupQ i3Key (k := y.1.now) rfl rfl (by decide) rfl key_int mapT158 zero148 ?_
          refine r_indexQ (i := 0) rfl rfl rfl rfl rfl rfl hlen' ?_
          refine r_load_opN rfl rfl rfl (by exact Nat.le_of_ble_eq_true rfl) ?_
          refine r_alloc rfl (by exact List.cons_ne_nil _ _) rfl ?_
          refine r_storeN rfl rfl (by decide) rfl rfl rfl rfl rfl rfl ?_
          refine r_nil ?_
          refine i_then ?_
          refine t_seq ?_
          refine t_forget (B := live [(0, Ty.pe DeskE ⟨b, firstP b⟩ 0), (2, Ty.bool all), (4, Ty.pp [Ty.nd ct hd hcd]), (6, Ty.ptr 7 0), (7, Ty.ptr 8 0), (8, Ty.ptr 9 0), (9, Ty.mp 34), (10, Ty.ptr 11 0), (11, Ty.ptr 12 0), (12, Ty.ptr 13 0)] [(7, Cont.cells 125 [Ty.ex (.map none), Ty.int .i64 0, Ty.int .i64 0, Ty.int .i64 0, Ty.int .i64 0, Ty.int .i64 0, Ty.int .i64 0, Ty.bool false]), (8, Cont.cells 125 [Ty.mp 19, Ty.int .i64 0, Ty.int .i64 0, Ty.int .i64 0, Ty.int .i64 0, Ty.int .i64 0, Ty.int .i64 0, Ty.bool false]), (9, Cont.cells 158 [Ty.mp 27]), (11, Cont.cells 3 [Ty.int .i64 y.1.now]), (12, Cont.cells 3 [Ty.int .i64 y.1.left]), (13, Cont.cells 123 (plT (headP y.1))), (19, Cont.mp (encN 6) WayV y.1.ways), (27, Cont.mr (Value.int .i64) PlE 123 4096 y.1.queue), (34, Cont.mp (encN 6) VBool y.1.done)]) ?_ ?_
          · (refine Ent.mk' ?_ ?_ <;> (repeat' (first | exact allSub_zero | exact allTags_nil | refine allSub_succ' ?_ (Ty.sub_any _) | refine allSub_succ' ?_ (Ty.sub_refl _) | refine allTags_cons rfl (Cont.sub_refl _) ?_)))
          refine t_draw mixed rfl ?_
          refine r_load_ptr rfl rfl (by decide) rfl rfl rfl ?_
          refine r_load_ptr rfl rfl (by decide) rfl rfl rfl ?_
          refine r_load_ptr rfl rfl (by decide) rfl rfl rfl ?_
          refine r_load_ptr rfl rfl (by decide) rfl rfl rfl ?_
          refine r_lookupQ i3Key (k := y.1.now) rfl rfl (by decide) rfl key_int mapT158 zero148 ?_
          refine r_cutQ (lo := 1) rfl rfl rfl rfl rfl rfl hlen' hlen' ?_
          refine r_updateQ i3Key (k := y.1.now) rfl rfl (by decide) rfl key_int rfl mapT158 rfl ?_
          refine r_nil ?_
          refine ⟨by kernel_rfl, ?_⟩
          refine i_then ?_
          refine t_seq ?_
          refine t_seq ?_
          have hpos := y.2.pos hlen
          have hle := y.2.inv.left_le hr
          have hnow := y.2.inv.now_le hr hpos
          have hnow0 := y.2.inv.now0
          refine t_region ?_
          refine r_load_ptr rfl rfl (by decide) rfl rfl rfl ?_
          refine r_sub rfl rfl (by omega) (by omega) ?_
          refine r_store1 rfl rfl (by decide) rfl rfl (by exact (rfl : _ = Ty.int _ _)) rfl (by exact Nat.le_of_ble_eq_true rfl) rfl rfl (by exact (rfl : _ = [_])) ?_
          refine r_nil ?_
          refine i_then ?_
          refine t_seq ?_
          refine t_region ?_
          refine mvM rfl ?_
          refine r_load_ptrN rfl rfl (by decide) rfl rfl (by exact Nat.le_of_ble_eq_true rfl) ?_
          refine r_lookup plKey (k := headP y.1) (z0 := false) rfl rfl (by decide) rfl (key_pl (headP y.1)) mapT159 zero4 vbool_zero ?_
          refine r_nil ?_
          refine i_then ?_
          refine t_cond rfl (fun hc3 => ?_) (fun hc3 => ?_)
          ·
            refine t_exit ?_
            refine i_then_exit ?_
            refine i_block_exit rfl ?_
            refine i_round (⟨popY y.1, y.2.old hlen hc3⟩) ?_ (by exact mu_old y.2.inv (row_head hlen))
            (refine Ent.mk' ?_ ?_ <;> (repeat' (first | exact allSub_zero | exact allTags_nil | refine allSub_succ' ?_ (Ty.sub_any _) | refine allSub_succ' ?_ (Ty.sub_refl _) | refine allTags_cons rfl (Cont.sub_refl _) ?_)))
            all_goals skip
            all_goals exact Cont.sub_mp (foldK_done (markY y.1) _).symm
          ·
            refine t_skip ?_
            refine i_then ?_
            refine t_seq ?_
            refine t_forget (B := live [(0, Ty.pe DeskE ⟨b, firstP b⟩ 0), (2, Ty.bool all), (4, Ty.pp [Ty.nd ct hd hcd]), (6, Ty.ptr 7 0), (7, Ty.ptr 8 0), (8, Ty.ptr 9 0), (9, Ty.mp 34), (10, Ty.ptr 11 0), (11, Ty.ptr 12 0), (12, Ty.ptr 13 0)] [(7, Cont.cells 125 [Ty.ex (.map none), Ty.int .i64 0, Ty.int .i64 0, Ty.int .i64 0, Ty.int .i64 0, Ty.int .i64 0, Ty.int .i64 0, Ty.bool false]), (8, Cont.cells 125 [Ty.mp 19, Ty.int .i64 0, Ty.int .i64 0, Ty.int .i64 0, Ty.int .i64 0, Ty.int .i64 0, Ty.int .i64 0, Ty.bool false]), (9, Cont.cells 158 [Ty.mp 27]), (11, Cont.cells 3 [Ty.int .i64 y.1.now]), (12, Cont.cells 3 [Ty.int .i64 (popY y.1).left]), (13, Cont.cells 123 (plT (headP y.1))), (19, Cont.mp (encN 6) WayV y.1.ways), (27, Cont.mr (Value.int .i64) PlE 123 4096 (popY y.1).queue), (34, Cont.mp (encN 6) VBool y.1.done)]) ?_ ?_
            · (refine Ent.mk' ?_ ?_ <;> (repeat' (first | exact allSub_zero | exact allTags_nil | refine allSub_succ' ?_ (Ty.sub_any _) | refine allSub_succ' ?_ (Ty.sub_refl _) | refine allTags_cons rfl (Cont.sub_refl _) ?_)))
            refine t_region ?_
            refine mvM rfl ?_
            refine r_load_ptrN rfl rfl (by decide) rfl rfl (by exact Nat.le_of_ble_eq_true rfl) ?_
            refine r_mapUpdate plKey (k := headP y.1) (v := true) rfl rfl (by decide) rfl (key_pl (headP y.1)) rfl rfl mapT159 ?_
            refine r_nil ?_
            refine i_then ?_
            refine t_seq ?_
            refine t_seq ?_
            refine t_region ?_
            refine mvB rfl ?_
            refine r_not rfl ?_
            refine mvB rfl ?_
            apply r_guard (s := 63) rfl rfl rfl
            · intro hg; apply opT_of; (refine mvPe rfl ?_); refine r_nil ?_; exact rfl
            · exact rfl
            · exact rfl
            apply r_guard (s := 63) rfl rfl rfl
            · intro hg; apply opT_of; (refine r_load_ptrN rfl rfl (by decide) rfl rfl (by exact Nat.le_of_ble_eq_true rfl) ?_); refine r_nil ?_; exact rfl
            · exact rfl
            · exact rfl
            apply r_guard (s := 63) rfl rfl rfl
            · intro hg; apply opT_strip (s := 64) rfl (by (rw [hg]; rfl)); apply opT_strip (s := 65) rfl (by (rw [hg]; rfl)); apply opT_of; (refine r_call (c_made ⟨b, firstP b⟩ h6 (headP y.1)) rfl rfl rfl rfl rfl ?_); refine r_nil ?_; exact rfl
            · exact rfl
            · exact rfl
            refine r_and rfl rfl ?_
            refine r_nil ?_
            refine i_then ?_
            refine t_cond rfl (fun hc4 => ?_) (fun hc4 => ?_)
            ·
              refine t_seq ?_
              refine t_region ?_
              refine r_load_ptrN rfl rfl (by decide) rfl rfl (by exact Nat.le_of_ble_eq_true rfl) ?_
              refine r_field_ptr rfl rfl rfl rfl rfl (by decide) ?_
              refine r_storeO rfl rfl (by decide) rfl rfl rfl (by exact Nat.le_of_ble_eq_true rfl) rfl rfl rfl rfl ?_
              refine r_field_ptr rfl rfl rfl rfl rfl (by decide) ?_
              refine r_store1 rfl rfl (by decide) rfl rfl (by exact (rfl : _ = Ty.bool _)) rfl (by exact Nat.le_of_ble_eq_true rfl) rfl rfl (by exact rfl) ?_
              refine r_nil ?_
              refine i_then ?_
              refine t_exit ?_
              refine i_then_exit ?_
              refine i_block_exit' rfl ?_
              refine i_then_exit ?_
              refine i_block_exit' rfl ?_
              refine i_then_exit ?_
              refine i_block_exit' rfl ?_
              refine i_then_exit ?_
              refine i_then_exit ?_
              refine i_block_exit rfl ?_
              refine i_then ?_
              refine t_seq ?_
              (refine t_pubC (tg := 19) [] [(8, Cont.cells 125 [Ty.pm (encN 6) WayV y.1.ways, Ty.int .i64 (nth (headP y.1).1 0), Ty.int .i64 (nth (headP y.1).1 1), Ty.int .i64 (nth (headP y.1).1 2), Ty.int .i64 (nth (headP y.1).1 3), Ty.int .i64 (nth (headP y.1).1 4), Ty.int .i64 (nth (headP y.1).1 5), Ty.bool true])] (by decide) rfl trivial ⟨pubC_cells rfl rfl ⟨pubTy_mp rfl (by decide), pubTy_same rfl, pubTy_same rfl, pubTy_same rfl, pubTy_same rfl, pubTy_same rfl, pubTy_same rfl, pubTy_same rfl, trivial⟩, trivial⟩ ?_; refine t_forget (B := live [(6, Ty.ptr 7 0), (7, Ty.ptr 8 0)] [(7, Cont.cells 125 [Ty.ex (.map none), Ty.int .i64 0, Ty.int .i64 0, Ty.int .i64 0, Ty.int .i64 0, Ty.int .i64 0, Ty.int .i64 0, Ty.bool false]), (8, Cont.cells 125 [Ty.pm (encN 6) WayV y.1.ways, Ty.int .i64 (nth (headP y.1).1 0), Ty.int .i64 (nth (headP y.1).1 1), Ty.int .i64 (nth (headP y.1).1 2), Ty.int .i64 (nth (headP y.1).1 3), Ty.int .i64 (nth (headP y.1).1 4), Ty.int .i64 (nth (headP y.1).1 5), Ty.bool true])]) ?_ ?_)
              · (refine Ent.mk' ?_ ?_ <;> (repeat' (first | exact allSub_zero | exact allTags_nil | refine allSub_succ' ?_ (Ty.sub_any _) | refine allSub_succ' ?_ (Ty.sub_refl _) | refine allTags_cons rfl (Cont.sub_refl _) ?_)))
              refine t_region ?_
              refine r_load_ptrN rfl rfl (by decide) rfl rfl (by exact Nat.le_of_ble_eq_true rfl) ?_
              refine r_storeN rfl rfl (by decide) rfl rfl rfl rfl rfl rfl ?_
              refine r_nil ?_
              refine i_then ?_
              refine t_ret ?_
              refine i_scope_ret ?_
              refine m_ret rfl ?_
              refine i_rcell rfl rfl rfl rfl (by decide) rfl rfl rfl ?_
              exact ret_eq rfl rfl (by rw [y.2.found hlen hc3 hc4]; rfl)
            ·
              refine t_skip ?_
              refine i_then ?_
              refine t_seq ?_
              have hmk := y.2.mark hlen hc3 hc4
              refine t_region ?_
              refine mvPe rfl ?_
              refine r_load_ptrN rfl rfl (by decide) rfl rfl (by exact Nat.le_of_ble_eq_true rfl) ?_
              refine r_call (c_turnings _ _) rfl rfl rfl rfl rfl ?_
              refine r_nil ?_
              refine i_then ?_
              refine t_block ?_
              refine t_rangeFunc (ps := [74]) (lk [(0, Ty.pe DeskE ⟨b, firstP b⟩ 0), (2, Ty.bool all), (4, Ty.pp [Ty.nd ct hd hcd]), (6, Ty.ptr 7 0), (7, Ty.ptr 8 0), (8, Ty.ptr 9 0), (9, Ty.mp 34), (10, Ty.ptr 11 0), (11, Ty.ptr 12 0), (12, Ty.ptr 13 0)]) (fun k => [(7, Cont.cells 125 [Ty.ex (.map none), Ty.int .i64 0, Ty.int .i64 0, Ty.int .i64 0, Ty.int .i64 0, Ty.int .i64 0, Ty.int .i64 0, Ty.bool false]), (8, Cont.cells 125 [Ty.mp 19, Ty.int .i64 0, Ty.int .i64 0, Ty.int .i64 0, Ty.int .i64 0, Ty.int .i64 0, Ty.int .i64 0, Ty.bool false]), (9, Cont.cells 158 [Ty.mp 27]), (11, Cont.cells 3 [Ty.int .i64 y.1.now]), (12, Cont.cells 3 [Ty.int .i64 (foldK b c (headP y.1) (markY y.1) k).left]), (13, Cont.cells 123 (plT (headP y.1))), (19, Cont.mp (encN 6) WayV (foldK b c (headP y.1) (markY y.1) k).ways), (27, Cont.mr (Value.int .i64) PlE 123 4096 (foldK b c (headP y.1) (markY y.1) k).queue), (34, Cont.mp (encN 6) VBool (markY y.1).done)]) false [] [7, 8, 9, 11, 12, 13, 34] rfl rfl (c_turnings1 ⟨b, firstP b⟩ (small_right hr) h6 (headP y.1)) rfl rfl (by decide) (by intro t ht; obtain ⟨x, _, rfl⟩ := List.mem_map.1 ht; exact ⟨rfl, rfl, rfl⟩) rfl rfl (fun _ => rfl) rfl ?_ ?_ ?_ (by intro h; cases h)
              · (refine Ent.mk' ?_ ?_ <;> (repeat' (first | exact allSub_zero | exact allTags_nil | refine allSub_succ' ?_ (Ty.sub_any _) | refine allSub_succ' ?_ (Ty.sub_refl _) | refine allTags_cons rfl (Cont.sub_refl _) ?_)))
              · intro k tys hk
                obtain ⟨hk1, rfl⟩ := enc_get hk
                have hk1 : k < (turnsL b (headP y.1)).length := hk1
                have hk2 := turnsL_len hr (headP y.1)
                have htm : nth (turnsL b (headP y.1)) k ∈ turnsL b (headP y.1) := nth_mem hk1
                have htl := mem_turnsL.1 htm
                have htc := hc.at htm
                have hfk := (fold_inv hc hmk.1 hmk.2 k (by omega)).1
                have hfl := hfk.left_le hr
                have hf0 : 0 ≤ (foldK b c (headP y.1) (markY y.1) k).left := by rw [hfk.left]; exact cntQ_nonneg _
                have hrow := hfk.row_le hr (y.1.now + c (nth (turnsL b (headP y.1)) k))
                have hrow' : (((mget (foldK b c (headP y.1) (markY y.1) k).queue (y.1.now + c (nth (turnsL b (headP y.1)) k))).getD []).length : Int) + (42 - k) ≤ 1 + 42 * placesN := hrow
                have hfn : (foldK b c (headP y.1) (markY y.1) k).now = y.1.now := foldK_now _ _
                refine ⟨live [(0, Ty.pe DeskE ⟨b, firstP b⟩ 0), (2, Ty.bool all), (4, Ty.pp [Ty.nd ct hd hcd]), (6, Ty.ptr 7 0), (7, Ty.ptr 8 0), (8, Ty.ptr 9 0), (9, Ty.mp 34), (10, Ty.ptr 11 0), (11, Ty.ptr 12 0), (12, Ty.ptr 13 0), (13, Ty.ptr 14 0)] [(7, Cont.cells 125 [Ty.ex (.map none), Ty.int .i64 0, Ty.int .i64 0, Ty.int .i64 0, Ty.int .i64 0, Ty.int .i64 0, Ty.int .i64 0, Ty.bool false]), (8, Cont.cells 125 [Ty.mp 19, Ty.int .i64 0, Ty.int .i64 0, Ty.int .i64 0, Ty.int .i64 0, Ty.int .i64 0, Ty.int .i64 0, Ty.bool false]), (9, Cont.cells 158 [Ty.mp 27]), (11, Cont.cells 3 [Ty.int .i64 y.1.now]), (12, Cont.cells 3 [Ty.int .i64 (foldK b c (headP y.1) (markY y.1) k).left]), (13, Cont.cells 123 (plT (headP y.1))), (19, Cont.mp (encN 6) WayV (foldK b c (headP y.1) (markY y.1) k).ways), (27, Cont.mr (Value.int .i64) PlE 123 4096 (foldK b c (headP y.1) (markY y.1) k).queue), (34, Cont.mp (encN 6) VBool (markY y.1).done), (14, Cont.cells 55 (TurE.tys (nth (turnsL b (headP y.1)) k)))], fun l w M => ?_, fun l w M => ?_⟩
                ·
                  refine t_region ?_
                  refine r_alloc rfl (by exact List.cons_ne_nil _ _) rfl ?_
                  refine r_storeN rfl rfl (by decide) rfl rfl rfl rfl rfl rfl ?_
                  refine r_nil ?_
                  refine i_join ?_
                  (refine Ent.mk' ?_ ?_ <;> (repeat' (first | exact allSub_zero | exact allTags_nil | refine allSub_succ' ?_ (Ty.sub_any _) | refine allSub_succ' ?_ (Ty.sub_refl _) | refine allTags_cons rfl (Cont.sub_refl _) ?_)))
                ·
                  refine t_block ?_
                  refine t_seq ?_
                  refine t_region ?_
                  refine r_load_ptrN rfl rfl (by decide) rfl rfl (by exact Nat.le_of_ble_eq_true rfl) ?_
                  refine r_alloc rfl (by exact List.cons_ne_nil _ _) rfl ?_
                  refine r_storeN rfl rfl (by decide) rfl rfl rfl rfl rfl rfl ?_
                  refine r_nil ?_
                  refine i_then ?_
                  refine t_seq ?_
                  refine t_region ?_
                  refine r_field_ptr rfl rfl rfl rfl rfl (by decide) ?_
                  refine r_load_ptr rfl rfl (by decide) rfl rfl rfl ?_
                  refine r_field_ptr rfl rfl rfl rfl rfl (by decide) ?_
                  refine r_load_ptr rfl rfl (by decide) rfl rfl rfl ?_
                  refine r_index_ptrI (n := 6) rfl rfl rfl rfl rfl htl.1 (by omega) ?_
                  refine r_store1 (l' := plT (moved (headP y.1) (nth (turnsL b (headP y.1)) k))) rfl rfl (by decide) rfl rfl (by exact (rfl : _ = Ty.int _ _)) rfl (by show 0 + _ * 1 < 6; omega) rfl rfl (pl_moved _ _ (by omega)) ?_
                  refine r_nil ?_
                  refine i_then ?_
                  refine t_seq ?_
                  refine t_forget (B := live [(0, Ty.pe DeskE ⟨b, firstP b⟩ 0), (2, Ty.bool all), (4, Ty.pp [Ty.nd ct hd hcd]), (6, Ty.ptr 7 0), (7, Ty.ptr 8 0), (8, Ty.ptr 9 0), (9, Ty.mp 34), (10, Ty.ptr 11 0), (11, Ty.ptr 12 0), (12, Ty.ptr 13 0), (13, Ty.ptr 14 0), (14, Ty.ptr 15 0)] [(7, Cont.cells 125 [Ty.ex (.map none), Ty.int .i64 0, Ty.int .i64 0, Ty.int .i64 0, Ty.int .i64 0, Ty.int .i64 0, Ty.int .i64 0, Ty.bool false]), (8, Cont.cells 125 [Ty.mp 19, Ty.int .i64 0, Ty.int .i64 0, Ty.int .i64 0, Ty.int .i64 0, Ty.int .i64 0, Ty.int .i64 0, Ty.bool false]), (9, Cont.cells 158 [Ty.mp 27]), (11, Cont.cells 3 [Ty.int .i64 y.1.now]), (13, Cont.cells 123 (plT (headP y.1))), (34, Cont.mp (encN 6) VBool (markY y.1).done), (12, Cont.cells 3 [Ty.int .i64 (foldK b c (headP y.1) (markY y.1) k).left]), (14, Cont.cells 55 (TurE.tys (nth (turnsL b (headP y.1)) k))), (15, Cont.cells 123 (plT (moved (headP y.1) (nth (turnsL b (headP y.1)) k)))), (19, Cont.mp (encN 6) WayV (foldK b c (headP y.1) (markY y.1) k).ways), (27, Cont.mr (Value.int .i64) PlE 123 4096 (foldK b c (headP y.1) (markY y.1) k).queue)]) ?_ ?_
                  · (refine Ent.mk' ?_ ?_ <;> (repeat' (first | exact allSub_zero | exact allTags_nil | refine allSub_succ' ?_ (Ty.sub_any _) | refine allSub_succ' ?_ (Ty.sub_refl _) | refine allTags_cons rfl (Cont.sub_refl _) ?_)))
                  refine t_draw mixed rfl ?_
                  refine r_load_ptr rfl rfl (by decide) rfl rfl rfl ?_
                  refine r_field_pp rfl rfl rfl rfl rfl (by decide) ?_
                  refine r_load_pp rfl rfl rfl rfl ?_
                  refine r_load_ptrN rfl rfl (by decide) rfl rfl (by exact Nat.le_of_ble_eq_true rfl) ?_
                  refine r_callc rfl (cal_nd hd hcd (hf (nth (turnsL b (headP y.1)) k) htl.1 htl.2.1)) rfl ?_
                  refine r_add rfl rfl (by omega) (by omega) ?_
                  refine asI rfl ?_
                  refine r_nil ?_
                  refine ⟨by kernel_rfl, ?_⟩
                  refine i_then ?_
                  refine t_seq ?_
                  refine t_seq ?_
                  refine t_region ?_
                  refine r_field_ptr rfl rfl rfl rfl rfl (by decide) ?_
                  refine r_load_ptr rfl rfl (by decide) rfl rfl rfl ?_
                  refine r_load_ptrN rfl rfl (by decide) rfl rfl (by exact Nat.le_of_ble_eq_true rfl) ?_
                  refine r_lookup2 plKey (k := moved (headP y.1) (nth (turnsL b (headP y.1)) k)) (z0 := way0) rfl rfl (by decide) rfl (key_pl _) mapT121 zero147 way_zero ?_
                  refine mvT rfl ?_
                  refine r_extract rfl rfl ?_
                  refine r_extract rfl rfl ?_
                  refine r_alloc rfl (by exact List.cons_ne_nil _ _) rfl ?_
                  refine r_storeN rfl rfl (by decide) rfl rfl rfl rfl rfl rfl ?_
                  refine asB rfl ?_
                  refine r_nil ?_
                  refine i_then ?_
                  refine t_seq ?_
                  refine t_forget (B := live [(0, Ty.pe DeskE ⟨b, firstP b⟩ 0), (2, Ty.bool all), (4, Ty.pp [Ty.nd ct hd hcd]), (6, Ty.ptr 7 0), (7, Ty.ptr 8 0), (8, Ty.ptr 9 0), (9, Ty.mp 34), (10, Ty.ptr 11 0), (11, Ty.ptr 12 0), (12, Ty.ptr 13 0), (13, Ty.ptr 14 0), (14, Ty.ptr 15 0), (15, Ty.int .i64 (y.1.now + c (nth (turnsL b (headP y.1)) k))), (16, Ty.ptr 17 0), (17, Ty.bool (mget (foldK b c (headP y.1) (markY y.1) k).ways (moved (headP y.1) (nth (turnsL b (headP y.1)) k))).isSome)] [(7, Cont.cells 125 [Ty.ex (.map none), Ty.int .i64 0, Ty.int .i64 0, Ty.int .i64 0, Ty.int .i64 0, Ty.int .i64 0, Ty.int .i64 0, Ty.bool false]), (8, Cont.cells 125 [Ty.mp 19, Ty.int .i64 0, Ty.int .i64 0, Ty.int .i64 0, Ty.int .i64 0, Ty.int .i64 0, Ty.int .i64 0, Ty.bool false]), (9, Cont.cells 158 [Ty.mp 27]), (11, Cont.cells 3 [Ty.int .i64 y.1.now]), (13, Cont.cells 123 (plT (headP y.1))), (34, Cont.mp (encN 6) VBool (markY y.1).done), (12, Cont.cells 3 [Ty.int .i64 (foldK b c (headP y.1) (markY y.1) k).left]), (14, Cont.cells 55 (TurE.tys (nth (turnsL b (headP y.1)) k))), (15, Cont.cells 123 (plT (moved (headP y.1) (nth (turnsL b (headP y.1)) k)))), (17, Cont.cells 147 (wayT ((mget (foldK b c (headP y.1) (markY y.1) k).ways (moved (headP y.1) (nth (turnsL b (headP y.1)) k))).getD way0))), (19, Cont.mp (encN 6) WayV (foldK b c (headP y.1) (markY y.1) k).ways), (27, Cont.mr (Value.int .i64) PlE 123 4096 (foldK b c (headP y.1) (markY y.1) k).queue)]) ?_ ?_
                  · (refine Ent.mk' ?_ ?_ <;> (repeat' (first | exact allSub_zero | exact allTags_nil | refine allSub_succ' ?_ (Ty.sub_any _) | refine allSub_succ' ?_ (Ty.sub_refl _) | refine allTags_cons rfl (Cont.sub_refl _) ?_)))
                  refine t_draw mixed rfl ?_
                  refine mvB rfl ?_
                  refine mvB rfl ?_
                  apply r_guard (s := 95) rfl rfl rfl
                  · intro hg; apply opT_of; (refine mvI rfl ?_); refine r_nil ?_; exact rfl
                  · exact rfl
                  · exact rfl
                  apply r_guard (s := 95) rfl rfl rfl
                  · intro hg; apply opT_of; (refine r_field_ptr rfl rfl rfl rfl rfl (by decide) ?_); refine r_nil ?_; exact rfl
                  · exact rfl
                  · exact rfl
                  apply r_guard (s := 95) rfl rfl rfl
                  · intro hg; apply opT_strip (s := 97) rfl (by (rw [hg]; rfl)); apply opT_of; (refine r_load_ptr rfl rfl (by decide) rfl rfl rfl ?_); refine r_nil ?_; exact rfl
                  · exact rfl
                  · exact rfl
                  apply r_guard (s := 95) rfl rfl rfl
                  · intro hg; apply opT_strip (s := 98) rfl (by (rw [hg]; rfl)); apply opT_of; (refine r_buildSlice (E := I64) (xs := [_]) rfl rfl rfl rfl rfl (by decide) (by decide) (by repeat (first | exact (Parts.nil : Parts _ _ [] _) | (show Parts _ _ ((_, _) :: _) _; apply Parts.one; (· exact (rfl : _ = Ty.int _ _)); (· exact rfl)))) (by exact rfl) rfl ?_); refine r_nil ?_; exact rfl
                  · exact rfl
                  · exact rfl
                  apply r_guard (s := 95) rfl rfl rfl
                  · intro hg; apply opT_strip (s := 96) rfl (by (rw [hg]; rfl)); apply opT_strip (s := 99) rfl (by (rw [hg]; rfl)); apply opT_of; (refine r_call (c_least _ _) rfl rfl rfl rfl rfl ?_); refine r_nil ?_; exact rfl
                  · exact rfl
                  · exact rfl
                  apply r_guard (s := 95) rfl rfl rfl
                  · intro hg; apply opT_of; (refine r_field_ptr rfl rfl rfl rfl rfl (by decide) ?_); refine r_nil ?_; exact rfl
                  · exact rfl
                  · exact rfl
                  apply r_guard (s := 95) rfl rfl rfl
                  · intro hg; apply opT_strip (s := 101) rfl (by (rw [hg]; rfl)); apply opT_of; (refine r_load_ptr rfl rfl (by decide) rfl rfl rfl ?_); refine r_nil ?_; exact rfl
                  · exact rfl
                  · exact rfl
                  apply r_guard (s := 95) rfl rfl rfl
                  · intro hg; apply opT_strip (s := 100) rfl (by (rw [hg]; rfl)); apply opT_strip (s := 102) rfl (by (rw [hg]; rfl)); apply opT_of; (refine r_bin rfl rfl rfl ?_); refine r_nil ?_; exact rfl
                  · exact rfl
                  · exact rfl
                  refine r_and rfl rfl ?_
                  refine r_nil ?_
                  refine ⟨by kernel_rfl, ?_⟩
                  refine i_then ?_
                  refine t_cond rfl (fun hc5 => ?_) (fun hc5 => ?_)
                  ·
                    refine t_exit ?_
                    refine i_then_exit ?_
                    refine i_block_exit rfl ?_
                    refine q_normal ?_
                    (refine Ent.mk' ?_ ?_ <;> (repeat' (first | exact allSub_zero | exact allTags_nil | exact subs_nil | refine allSub_succ' ?_ (Ty.sub_any _) | refine allTags_cons rfl (Cont.sub_refl _) ?_ | refine allTags_cons rfl (Cont.sub_subs ?_) ?_ | refine subs_cons ?_ ?_ | refine allTags_cons rfl ?_ ?_)))
                    all_goals first | exact Ty.sub_int (congrArg St.left (fk_yes hk1 hfn hc5)) | exact Cont.sub_mp (congrArg St.ways (fk_yes hk1 hfn hc5)) | exact Cont.sub_mr (congrArg St.queue (fk_yes hk1 hfn hc5))
                  ·
                    refine t_skip ?_
                    refine i_then ?_
                    refine t_seq ?_
                    refine t_region ?_
                    refine r_field_ptr rfl rfl rfl rfl rfl (by decide) ?_
                    refine r_load_ptr rfl rfl (by decide) rfl rfl rfl ?_
                    refine r_load_ptrN rfl rfl (by decide) rfl rfl (by exact Nat.le_of_ble_eq_true rfl) ?_
                    refine r_load_ptrN rfl rfl (by decide) rfl rfl (by exact Nat.le_of_ble_eq_true rfl) ?_
                    refine r_load_ptrN rfl rfl (by decide) rfl rfl (by exact Nat.le_of_ble_eq_true rfl) ?_
                    refine r_buildSlice (E := TurE) (xs := [nth (turnsL b (headP y.1)) k]) rfl rfl rfl rfl rfl (by decide) (by decide) (by repeat (first | exact (Parts.nil : Parts _ _ [] _) | (show Parts _ _ ((_, _) :: _) _; apply Parts.agg; (· exact (rfl : _ = Ty.agg _))))) (by exact rfl) rfl ?_
                    refine mvI rfl ?_
                    refine r_build rfl rfl (by exact List.cons_ne_nil _ _) rfl (by repeat (first | exact (Parts.nil : Parts _ _ [] _) | (show Parts _ _ ((_, _) :: _) _; apply Parts.one; (· first | exact (rfl : _ = Ty.int _ _) | exact (rfl : _ = Ty.sl _ _)); (· exact rfl)) | (show Parts _ _ ((_, _) :: _) _; apply Parts.agg; (· exact (rfl : _ = Ty.agg _))))) (by exact rfl) ?_
                    refine r_mapUpdate plKey (k := moved (headP y.1) (nth (turnsL b (headP y.1)) k)) (v := ⟨headP y.1, [nth (turnsL b (headP y.1)) k], y.1.now + c (nth (turnsL b (headP y.1)) k)⟩) rfl rfl (by decide) rfl (key_pl _) rfl rfl mapT121 ?_
                    refine r_nil ?_
                    refine i_then ?_
                    refine t_seq ?_
                    refine t_forget (B := live [(0, Ty.pe DeskE ⟨b, firstP b⟩ 0), (2, Ty.bool all), (4, Ty.pp [Ty.nd ct hd hcd]), (6, Ty.ptr 7 0), (7, Ty.ptr 8 0), (8, Ty.ptr 9 0), (9, Ty.mp 34), (10, Ty.ptr 11 0), (11, Ty.ptr 12 0), (12, Ty.ptr 13 0), (13, Ty.ptr 14 0), (14, Ty.ptr 15 0), (15, Ty.int .i64 (y.1.now + c (nth (turnsL b (headP y.1)) k)))] [(7, Cont.cells 125 [Ty.ex (.map none), Ty.int .i64 0, Ty.int .i64 0, Ty.int .i64 0, Ty.int .i64 0, Ty.int .i64 0, Ty.int .i64 0, Ty.bool false]), (8, Cont.cells 125 [Ty.mp 19, Ty.int .i64 0, Ty.int .i64 0, Ty.int .i64 0, Ty.int .i64 0, Ty.int .i64 0, Ty.int .i64 0, Ty.bool false]), (9, Cont.cells 158 [Ty.mp 27]), (11, Cont.cells 3 [Ty.int .i64 y.1.now]), (13, Cont.cells 123 (plT (headP y.1))), (34, Cont.mp (encN 6) VBool (markY y.1).done), (12, Cont.cells 3 [Ty.int .i64 (foldK b c (headP y.1) (markY y.1) k).left]), (14, Cont.cells 55 (TurE.tys (nth (turnsL b (headP y.1)) k))), (15, Cont.cells 123 (plT (moved (headP y.1) (nth (turnsL b (headP y.1)) k)))), (19, Cont.mp (encN 6) WayV (mput (foldK b c (headP y.1) (markY y.1) k).ways (moved (headP y.1) (nth (turnsL b (headP y.1)) k)) ⟨headP y.1, [(nth (turnsL b (headP y.1)) k)], (y.1.now + c (nth (turnsL b (headP y.1)) k))⟩)), (27, Cont.mr (Value.int .i64) PlE 123 4096 (foldK b c (headP y.1) (markY y.1) k).queue)]) ?_ ?_
                    · (refine Ent.mk' ?_ ?_ <;> (repeat' (first | exact allSub_zero | exact allTags_nil | refine allSub_succ' ?_ (Ty.sub_any _) | refine allSub_succ' ?_ (Ty.sub_refl _) | refine allTags_cons rfl (Cont.sub_refl _) ?_)))
                    refine t_draw mixed rfl ?_
                    refine r_load_ptr rfl rfl (by decide) rfl rfl rfl ?_
                    refine mvI rfl ?_
                    refine r_load_ptr rfl rfl (by decide) rfl rfl rfl ?_
                    refine mvI rfl ?_
                    refine r_lookupQ i3Key (k := y.1.now + c (nth (turnsL b (headP y.1)) k)) rfl rfl (by decide) rfl key_int mapT158 zero148 ?_
                    refine r_load_ptrN rfl rfl (by decide) rfl rfl (by exact Nat.le_of_ble_eq_true rfl) ?_
                    refine r_buildSlice (E := PlE) (xs := [moved (headP y.1) (nth (turnsL b (headP y.1)) k)]) rfl rfl rfl rfl rfl (by decide) (by decide) (by repeat (first | exact (Parts.nil : Parts _ _ [] _) | (show Parts _ _ ((_, _) :: _) _; apply Parts.agg; (· exact (rfl : _ = Ty.agg _))))) (by exact rfl) rfl ?_
                    refine r_appendQ rfl rfl rfl (by decide) (by decide) rfl (by show 0 < 1; decide) rfl rfl rfl rfl rfl (by decide) (by show (_ + 1) * 48 ≤ _; omega) (by show _ + 1 ≤ _; omega) ?_
                    refine r_updateQ i3Key (k := y.1.now + c (nth (turnsL b (headP y.1)) k)) rfl rfl (by decide) rfl key_int rfl mapT158 rfl ?_
                    refine r_nil ?_
                    refine ⟨by kernel_rfl, ?_⟩
                    refine i_then ?_
                    refine t_region ?_
                    refine r_load_ptr rfl rfl (by decide) rfl rfl rfl ?_
                    refine r_add rfl rfl (by omega) (by omega) ?_
                    refine r_store1 rfl rfl (by decide) rfl rfl (by exact (rfl : _ = Ty.int _ _)) rfl (by exact Nat.le_of_ble_eq_true rfl) rfl rfl (by exact (rfl : _ = [_])) ?_
                    refine r_nil ?_
                    refine i_block ?_
                    refine q_normal ?_
                    (refine Ent.mk' ?_ ?_ <;> (repeat' (first | exact allSub_zero | exact allTags_nil | exact subs_nil | refine allSub_succ' ?_ (Ty.sub_any _) | refine allTags_cons rfl (Cont.sub_refl _) ?_ | refine allTags_cons rfl (Cont.sub_subs ?_) ?_ | refine subs_cons ?_ ?_ | refine allTags_cons rfl ?_ ?_)))
                    all_goals first | exact Ty.sub_int (fk_no hk1 hfn hc5).2.2 | exact Cont.sub_mp (fk_no hk1 hfn hc5).1 | exact Cont.sub_mr (fk_no hk1 hfn hc5).2.1
              ·
                refine i_block ?_
                refine i_block ?_
                refine i_round (⟨foldK b c (headP y.1) (markY y.1) (turnsL b (headP y.1)).length, y.2.new hr hc hlen hc3 hc4⟩) ?_ (by exact mu_new y.2.inv hr (row_head hlen) hc3 hmk.1)
                (refine Ent.mk' ?_ ?_ <;> (repeat' (first | exact allSub_zero | exact allTags_nil | exact subs_nil | refine allSub_succ' ?_ (Ty.sub_any _) | refine allSub_succ' ?_ (Ty.sub_refl _) | refine allTags_cons rfl (Cont.sub_refl _) ?_ | refine allTags_cons rfl (Cont.sub_subs ?_) ?_ | refine subs_cons ?_ ?_ | refine allTags_cons rfl ?_ ?_)))
                all_goals skip
                all_goals first | exact Ty.sub_int (foldK_now (markY y.1) _).symm | exact Ty.sub_int (congrArg (fun n => (foldK b c (headP y.1) (markY y.1) n).left) (List.length_map _)) | exact Cont.sub_mp (congrArg (fun n => (foldK b c (headP y.1) (markY y.1) n).ways) (List.length_map _)) | exact Cont.sub_mr (congrArg (fun n => (foldK b c (headP y.1) (markY y.1) n).queue) (List.length_map _)) | exact Cont.sub_mp (foldK_done (markY y.1) _).symm
        ·
          refine t_exit ?_
          refine i_then_exit ?_
          refine i_then_exit ?_
          refine i_block_exit rfl ?_
          refine i_then ?_
          have hempty : rowAt y.1.queue y.1.now = [] := List.length_eq_zero_iff.1 (by have h := hc2; have h : ¬ (0 : Int) < ((rowAt y.1.queue y.1.now).length : Nat) := h; omega)
          have hlater := y.2.later hr hempty
          have hnx := x.2.1.now_le hr hc1
          have hnx0 := x.2.1.now0
          have hyx := y.2.now
          refine t_region ?_
          refine r_load_ptr rfl rfl (by decide) rfl rfl rfl ?_
          refine r_load_ptr rfl rfl (by decide) rfl rfl rfl ?_
          refine r_deleteQ i3Key (k := y.1.now) rfl rfl (by decide) rfl key_int mapT158 rfl ?_
          refine r_nil ?_
          refine i_block ?_
          refine i_then ?_
          refine t_seq ?_
          refine t_seq ?_
          refine t_region ?_
          refine r_load_ptr rfl rfl (by decide) rfl rfl rfl ?_
          refine r_load_ptr rfl rfl (by decide) rfl rfl rfl ?_
          refine r_nil ?_
          refine i_then ?_
          refine t_region ?_
          refine r_alloc rfl (by exact List.cons_ne_nil _ _) rfl ?_
          refine r_store1 rfl rfl (by decide) rfl rfl (by exact (rfl : _ = Ty.int _ _)) rfl (by exact Nat.le_of_ble_eq_true rfl) rfl rfl (by exact (rfl : _ = [_])) ?_
          refine r_alloc rfl (by exact List.cons_ne_nil _ _) rfl ?_
          refine r_store1 rfl rfl (by decide) rfl rfl (by exact (rfl : _ = Ty.int _ _)) rfl (by exact Nat.le_of_ble_eq_true rfl) rfl rfl (by exact (rfl : _ = [_])) ?_
          refine r_nil ?_
          refine i_then ?_
          refine t_region ?_
          refine r_load_ptr rfl rfl (by decide) rfl rfl rfl ?_
          refine r_add rfl rfl (by omega) (by omega) ?_
          refine r_store1 rfl rfl (by decide) rfl rfl (by exact (rfl : _ = Ty.int _ _)) rfl (by exact Nat.le_of_ble_eq_true rfl) rfl rfl (by exact (rfl : _ = [_])) ?_
          refine r_nil ?_
          refine i_round (⟨later y.1, (hlater).1, (hlater).2.1⟩) ?_ (by exact hlater.2.2)
          (refine Ent.mk' ?_ ?_ <;> (repeat' (first | exact allSub_zero | exact allTags_nil | refine allSub_succ' ?_ (Ty.sub_any _) | refine allSub_succ' ?_ (Ty.sub_refl _) | refine allTags_cons rfl (Cont.sub_refl _) ?_)))
          all_goals skip
    ·
      refine t_exit ?_
      refine i_then_exit ?_
      refine i_then_exit ?_
      refine i_block_exit rfl ?_
      refine i_then ?_
      refine t_seq ?_
      (refine t_pubC (tg := 19) [] [(8, Cont.cells 125 [Ty.pm (encN 6) WayV x.1.ways, Ty.int .i64 0, Ty.int .i64 0, Ty.int .i64 0, Ty.int .i64 0, Ty.int .i64 0, Ty.int .i64 0, Ty.bool false])] (by decide) rfl trivial ⟨pubC_cells rfl rfl ⟨pubTy_mp rfl (by decide), pubTy_same rfl, pubTy_same rfl, pubTy_same rfl, pubTy_same rfl, pubTy_same rfl, pubTy_same rfl, pubTy_same rfl, trivial⟩, trivial⟩ ?_; refine t_forget (B := live [(6, Ty.ptr 7 0), (7, Ty.ptr 8 0)] [(7, Cont.cells 125 [Ty.ex (.map none), Ty.int .i64 0, Ty.int .i64 0, Ty.int .i64 0, Ty.int .i64 0, Ty.int .i64 0, Ty.int .i64 0, Ty.bool false]), (8, Cont.cells 125 [Ty.pm (encN 6) WayV x.1.ways, Ty.int .i64 0, Ty.int .i64 0, Ty.int .i64 0, Ty.int .i64 0, Ty.int .i64 0, Ty.int .i64 0, Ty.bool false])]) ?_ ?_)
      · (refine Ent.mk' ?_ ?_ <;> (repeat' (first | exact allSub_zero | exact allTags_nil | refine allSub_succ' ?_ (Ty.sub_any _) | refine allSub_succ' ?_ (Ty.sub_refl _) | refine allTags_cons rfl (Cont.sub_refl _) ?_)))
      refine t_region ?_
      refine r_load_ptrN rfl rfl (by decide) rfl rfl (by exact Nat.le_of_ble_eq_true rfl) ?_
      refine r_storeN rfl rfl (by decide) rfl rfl rfl rfl rfl rfl ?_
      refine r_nil ?_
      refine i_then ?_
      refine t_ret ?_
      refine i_scope_ret ?_
      refine m_ret rfl ?_
      refine i_rcell rfl rfl rfl rfl (by decide) rfl rfl rfl ?_
      exact ret_eq rfl rfl (by rw [x.2.2.stop (step_end (by omega)), found_zero]; rfl)
end Go.Proofs.Ytpnndljmhpepgaa

namespace Go.Proofs.Ytpnndljmhpepgaa
open Go Go.T
set_option maxHeartbeats 4000000
theorem planE_1 {b : Barn} {c : Tur → Int} (h : ¬ checkB b = 0) : planE b c = checkB b := if_neg h
theorem planE_2 {b : Barn} {c : Tur → Int} (h : checkB b = 0) (hi : (searchM b c false).is = false) : planE b c = 7 := by unfold planE; rw [if_pos h, if_neg (by rw [hi]; decide)]
theorem planE_3 {b : Barn} {c : Tur → Int} (h : checkB b = 0) (hi : (searchM b c false).is = true) : planE b c = 0 := by unfold planE; rw [if_pos h, if_pos hi]
theorem planR_1 {b : Barn} {c : Tur → Int} (h : ¬ checkB b = 0) : planR b c = [] := if_neg h
theorem planR_2 {b : Barn} {c : Tur → Int} (h : checkB b = 0) (hi : (searchM b c false).is = false) : planR b c = [] := by unfold planR planV; rw [if_pos h, if_neg (by rw [hi]; decide)]
theorem planR_3 {b : Barn} {c : Tur → Int} (h : checkB b = 0) (hi : (searchM b c false).is = true) : (waysV b c).flatten = planR b c := by unfold planR planV; rw [if_pos h, if_pos hi]
theorem costR_1 {b : Barn} {c : Tur → Int} (h : ¬ checkB b = 0) : costR b c = 0 := if_neg h
theorem costR_2 {b : Barn} {c : Tur → Int} (h : checkB b = 0) (hi : (searchM b c false).is = false) : costR b c = 0 := by unfold costR costV; rw [if_pos h, if_neg (by rw [hi]; decide)]
theorem costR_3 {b : Barn} {c : Tur → Int} (h : checkB b = 0) (hi : (searchM b c false).is = true) : ((mget (searchM b c false).ways (searchM b c false).last).getD way0).all = costR b c := by unfold costR costV; rw [if_pos h, if_pos hi]
theorem plan_len {b : Barn} {c : Tur → Int} (h : b.Right) (hc : CostOk b c) (hi : (searchM b c false).is = true) : (waysV b c).flatten.length ≤ 400000000 := by
  have := (plan_spec h hc).len hi; omega
attribute [local irreducible] dInt dBool dSl dPp dPtr dAgg dTup dClo dAny dEx dStr dGd dCells dVec dVs dRow dOp nth Tri Into TOps Ctr bodyPost Exit.then Exit.inBlock Code.wp Code.wpIn dWhen dPa dPe dAo dArr dMp dPm dMap dCJ CtrG CtrI OpY keepPost iterPost bodyPostM roundQ
set_option maxRecDepth 100000 in
theorem c_planned (b : Barn) (hs : b.Small) (c : Tur → Int) (hc : checkB b = 0 → CostOk b c) (ct : Ty) (h1 : ct.one = true) (hd : ct.deps = []) (hcd : ct.cdeps = []) (hf : checkB b = 0 → ∀ t : Tur, 0 ≤ t.lot → t.lot < b.lots.length → Cal Try.prog ct [Ty.agg (TurE.tys t)] (Ty.int .i64 (c t))) : Ctr Try.prog 73 [barnT b, Ty.agg [Ty.nd ct hd hcd]] (Ty.tup [Ty.sl TurE (planR b c), Ty.int .i64 (costR b c), Ty.int .i64 (planE b c)]) := by
  refine fn_intro Try.func73 rfl (by decide) Try.ntmps73 (by exact Nat.le_of_ble_eq_true rfl) fun w0 M0 => ?_
  refine t_seq ?_
  refine t_region ?_
  refine r_box_agg rfl ?_
  refine r_box_agg rfl ?_
  refine asX rfl ?_
  refine asI rfl ?_
  refine asI rfl ?_
  refine r_nil ?_
  refine i_then ?_
  refine t_seq ?_
  refine t_region ?_
  refine r_load_ppN rfl rfl rfl (by exact Nat.le_of_ble_eq_true rfl) ?_
  refine r_call (c_open b hs) rfl rfl rfl rfl rfl ?_
  refine mvT rfl ?_
  refine r_extract rfl rfl ?_
  refine r_extract rfl rfl ?_
  refine asW rfl ?_
  refine asI rfl ?_
  refine r_nil ?_
  refine i_then ?_
  refine t_seq ?_
  refine t_seq ?_
  refine t_region ?_
  refine mvI rfl ?_
  refine r_bin rfl rfl rfl ?_
  refine r_nil ?_
  refine i_then ?_
  refine t_cond_ndec rfl (fun hc1 => ?_) (fun hc1 => ?_)
  ·
    refine t_seq ?_
    refine t_region ?_
    refine mvI rfl ?_
    refine asX rfl ?_
    refine asI rfl ?_
    refine asI rfl ?_
    refine r_nil ?_
    refine i_then ?_
    refine t_ret ?_
    refine i_then_ret ?_
    refine i_rp3 rfl rfl rfl rfl ?_ ?_ ?_
    all_goals skip
    all_goals first | exact ret_nil_eq (planR_1 hc1) | exact ret_eq rfl rfl (congrArg (Ty.int .i64) (costR_1 hc1).symm) | exact ret_eq rfl rfl (congrArg (Ty.int .i64) (planE_1 hc1).symm)
  ·
    refine t_skip ?_
    refine i_then ?_
    refine t_seq ?_
    have hr := check_right hc1
    refine t_as (s := 7) rfl (Ty.when_sub (decide_eq_true hc1)) ?_
    refine t_region ?_
    refine mvPe rfl ?_
    refine r_load_ppN rfl rfl rfl (by exact Nat.le_of_ble_eq_true rfl) ?_
    refine r_call (c_search b hr c (hc hc1) ct h1 hd hcd (hf hc1) false) rfl rfl rfl rfl rfl ?_
    refine r_alloc rfl (by exact List.cons_ne_nil _ _) rfl ?_
    refine r_storeN rfl rfl (by decide) rfl rfl rfl rfl rfl rfl ?_
    refine r_nil ?_
    refine i_then ?_
    refine t_seq ?_
    refine t_seq ?_
    refine t_region ?_
    refine r_field_ptr rfl rfl rfl rfl rfl (by decide) ?_
    refine r_load_ptr rfl rfl (by decide) rfl rfl rfl ?_
    refine r_not rfl ?_
    refine r_nil ?_
    refine i_then ?_
    refine t_cond rfl (fun hc2 => ?_) (fun hc2 => ?_)
    ·
      refine t_seq ?_
      refine t_region ?_
      refine asX rfl ?_
      refine asI rfl ?_
      refine asI rfl ?_
      refine r_nil ?_
      refine i_then ?_
      refine t_ret ?_
      refine i_then_ret ?_
      refine i_rp3 rfl rfl rfl rfl ?_ ?_ ?_
      all_goals skip
      all_goals first | exact ret_nil_eq (planR_2 hc1 (not_b hc2)) | exact ret_eq rfl rfl (congrArg (Ty.int .i64) (costR_2 hc1 (not_b hc2)).symm) | exact ret_eq rfl rfl (congrArg (Ty.int .i64) (planE_2 hc1 (not_b hc2)).symm)
    ·
      refine t_skip ?_
      refine i_then ?_
      refine t_seq ?_
      refine t_draw mixed rfl ?_
      refine r_load_ptrN rfl rfl (by decide) rfl rfl (by exact Nat.le_of_ble_eq_true rfl) ?_
      refine mvPe rfl ?_
      refine r_nilCheck_pe rfl ?_
      refine r_field_pe rfl rfl rfl rfl rfl (by decide) ?_
      refine r_load_peN rfl rfl rfl rfl rfl ?_
      refine r_call (c_plan (searchM b c false) (firstP b) (waysV b c) ((plan_spec hr (hc hc1)).chain (not_not_b hc2)) ((plan_spec hr (hc hc1)).len (not_not_b hc2)).1) rfl rfl rfl rfl rfl ?_
      refine r_call (c_Concat_tur (waysV b c) (plan_len hr (hc hc1) (not_not_b hc2))) rfl rfl rfl rfl rfl ?_
      refine r_field_ptr rfl rfl rfl rfl rfl (by decide) ?_
      refine r_load_ptr rfl rfl (by decide) rfl rfl rfl ?_
      refine r_field_ptr rfl rfl rfl rfl rfl (by decide) ?_
      refine r_load_ptrN rfl rfl (by decide) rfl rfl (by exact Nat.le_of_ble_eq_true rfl) ?_
      refine r_lookupP plKey (k := (searchM b c false).last) (z0 := way0) rfl rfl (key_pl _) mapT121 zero147 way_zero ?_
      refine r_fieldv1 rfl rfl rfl rfl rfl rfl rfl ?_
      refine asS rfl ?_
      refine asI rfl ?_
      refine asI rfl ?_
      refine r_nil ?_
      refine ⟨by kernel_rfl, ?_⟩
      refine i_then ?_
      refine t_ret ?_
      refine i_rp3 rfl rfl rfl rfl ?_ ?_ ?_
      all_goals skip
      all_goals first | exact ret_eq rfl rfl (congrArg (Ty.sl TurE) (planR_3 hc1 (not_not_b hc2))) | exact ret_eq rfl rfl (congrArg (Ty.int .i64) (costR_3 hc1 (not_not_b hc2))) | exact ret_eq rfl rfl (congrArg (Ty.int .i64) (planE_3 hc1 (not_not_b hc2)).symm)
set_option maxRecDepth 100000 in
theorem c_Fewest1 (t : Tur) : Ctr Try.prog 74 [Ty.agg (TurE.tys t)] (Ty.int .i64 1) := by
  refine fn_intro Try.func74 rfl (by decide) Try.ntmps74 (by exact Nat.le_of_ble_eq_true rfl) fun w0 M0 => ?_
  refine t_seq ?_
  refine t_region ?_
  refine r_box_agg rfl ?_
  refine asI rfl ?_
  refine r_nil ?_
  refine i_then ?_
  refine t_seq ?_
  refine t_region ?_
  refine asI rfl ?_
  refine r_nil ?_
  refine i_then ?_
  refine t_ret ?_
  refine i_rp1 rfl rfl ?_
  all_goals exact ret_refl rfl rfl
set_option maxRecDepth 100000 in
theorem c_Places1 (t : Tur) : Ctr Try.prog 79 [Ty.agg (TurE.tys t)] (Ty.int .i64 1) := by
  refine fn_intro Try.func79 rfl (by decide) Try.ntmps79 (by exact Nat.le_of_ble_eq_true rfl) fun w0 M0 => ?_
  refine t_seq ?_
  refine t_region ?_
  refine r_box_agg rfl ?_
  refine asI rfl ?_
  refine r_nil ?_
  refine i_then ?_
  refine t_seq ?_
  refine t_region ?_
  refine asI rfl ?_
  refine r_nil ?_
  refine i_then ?_
  refine t_ret ?_
  refine i_rp1 rfl rfl ?_
  all_goals exact ret_refl rfl rfl
set_option maxRecDepth 100000 in
theorem c_Lightest1 (b : Barn) (t : Tur) (h0 : 0 ≤ t.lot) (h1 : t.lot < b.lots.length) : Ctr Try.prog 76 [Ty.agg (TurE.tys t), Ty.pp (barnTys b)] (Ty.int .i64 (sackC b t)) := by
  refine fn_intro Try.func76 rfl (by decide) Try.ntmps76 (by exact Nat.le_of_ble_eq_true rfl) fun w0 M0 => ?_
  refine t_seq ?_
  refine t_region ?_
  refine r_box_agg rfl ?_
  refine asI rfl ?_
  refine r_nil ?_
  refine i_then ?_
  refine t_seq ?_
  refine t_region ?_
  refine r_field_pp rfl rfl rfl rfl rfl (by decide) ?_
  refine r_load_pp rfl rfl rfl rfl ?_
  refine r_field_pp rfl rfl rfl rfl rfl (by decide) ?_
  refine r_load_pp rfl rfl rfl rfl ?_
  refine r_index_sl rfl rfl rfl rfl rfl rfl h0 (by omega) ?_
  refine r_field_pp rfl rfl rfl rfl rfl (by decide) ?_
  refine r_load_pp rfl rfl rfl rfl ?_
  refine asI rfl ?_
  refine r_nil ?_
  refine i_then ?_
  refine t_ret ?_
  refine i_rp1 rfl rfl ?_
  all_goals exact ret_refl rfl rfl
set_option maxRecDepth 100000 in
theorem c_Fewest (b : Barn) (hs : b.Small) : Ctr Try.prog 20 [barnT b] (Ty.tup [Ty.int .i64 (costR b oneC), Ty.int .i64 (planE b oneC)]) := by
  refine fn_intro Try.func20 rfl (by decide) Try.ntmps20 (by exact Nat.le_of_ble_eq_true rfl) fun w0 M0 => ?_
  refine t_seq ?_
  refine t_region ?_
  refine r_box_agg rfl ?_
  refine asI rfl ?_
  refine asI rfl ?_
  refine r_nil ?_
  refine i_then ?_
  refine t_seq ?_
  refine t_region ?_
  refine r_load_ppN rfl rfl rfl (by exact Nat.le_of_ble_eq_true rfl) ?_
  refine r_build rfl rfl (by exact List.cons_ne_nil _ _) rfl (by repeat (first | exact (Parts.nil : Parts _ _ [] _) | (show Parts _ _ ((_, _) :: _) _; apply Parts.one; (· exact (rfl : _ = Ty.clo _ _)); (· exact rfl)))) (by exact (rfl : _ = some [_])) ?_
  refine r_call (c_planned b hs oneC (fun _ => one_ok b) (Ty.clo 74 []) rfl rfl rfl (fun _ t _ _ => cal_clo (c_Fewest1 t) rfl rfl rfl rfl rfl rfl)) rfl rfl rfl rfl rfl ?_
  refine mvT rfl ?_
  refine r_extract rfl rfl ?_
  refine r_extract rfl rfl ?_
  refine r_extract rfl rfl ?_
  refine asS rfl ?_
  refine asI rfl ?_
  refine asI rfl ?_
  refine r_nil ?_
  refine i_then ?_
  refine t_seq ?_
  refine t_region ?_
  refine mvI rfl ?_
  refine mvI rfl ?_
  refine asI rfl ?_
  refine asI rfl ?_
  refine r_nil ?_
  refine i_then ?_
  refine t_ret ?_
  refine i_rp2 rfl rfl rfl ?_ ?_
  all_goals exact ret_refl rfl rfl
set_option maxRecDepth 100000 in
theorem c_Lightest (b : Barn) (hs : b.Small) : Ctr Try.prog 22 [barnT b] (Ty.tup [Ty.sl TurE (planR b (sackC b)), Ty.int .i64 (costR b (sackC b)), Ty.int .i64 (planE b (sackC b))]) := by
  refine fn_intro Try.func22 rfl (by decide) Try.ntmps22 (by exact Nat.le_of_ble_eq_true rfl) fun w0 M0 => ?_
  refine t_seq ?_
  refine t_region ?_
  refine r_box_agg rfl ?_
  refine asX rfl ?_
  refine asI rfl ?_
  refine asI rfl ?_
  refine r_nil ?_
  refine i_then ?_
  refine t_seq ?_
  refine t_region ?_
  refine r_load_ppN rfl rfl rfl (by exact Nat.le_of_ble_eq_true rfl) ?_
  refine r_makeFunc rfl ?_
  refine r_build rfl rfl (by exact List.cons_ne_nil _ _) rfl (by repeat (first | exact (Parts.nil : Parts _ _ [] _) | (show Parts _ _ ((_, _) :: _) _; apply Parts.one; (· exact (rfl : _ = Ty.clo _ _)); (· exact rfl)))) (by exact (rfl : _ = some [_])) ?_
  refine r_call (c_planned b hs (sackC b) (fun h => sack_ok (check_right h)) (Ty.clo 76 [Ty.pp (barnTys b)]) rfl rfl rfl (fun _ t h0 h1 => cal_clo (c_Lightest1 b t h0 h1) rfl rfl rfl rfl rfl rfl)) rfl rfl rfl rfl rfl ?_
  refine r_extract rfl rfl ?_
  refine r_extract rfl rfl ?_
  refine r_extract rfl rfl ?_
  refine asS rfl ?_
  refine asI rfl ?_
  refine asI rfl ?_
  refine r_nil ?_
  refine i_then ?_
  refine t_ret ?_
  refine i_rp3 rfl rfl rfl rfl ?_ ?_ ?_
  all_goals exact ret_refl rfl rfl
set_option maxRecDepth 100000 in
theorem c_Places (b : Barn) (hs : b.Small) : Ctr Try.prog 23 [barnT b] (Ty.tup [Ty.int .i64 (placesV b), Ty.int .i64 (checkB b)]) := by
  refine fn_intro Try.func23 rfl (by decide) Try.ntmps23 (by exact Nat.le_of_ble_eq_true rfl) fun w0 M0 => ?_
  refine t_seq ?_
  refine t_region ?_
  refine r_box_agg rfl ?_
  refine asI rfl ?_
  refine asI rfl ?_
  refine r_nil ?_
  refine i_then ?_
  refine t_seq ?_
  refine t_region ?_
  refine r_load_ppN rfl rfl rfl (by exact Nat.le_of_ble_eq_true rfl) ?_
  refine r_call (c_open b hs) rfl rfl rfl rfl rfl ?_
  refine mvT rfl ?_
  refine r_extract rfl rfl ?_
  refine r_extract rfl rfl ?_
  refine asW rfl ?_
  refine asI rfl ?_
  refine r_nil ?_
  refine i_then ?_
  refine t_seq ?_
  refine t_seq ?_
  refine t_region ?_
  refine mvI rfl ?_
  refine r_bin rfl rfl rfl ?_
  refine r_nil ?_
  refine i_then ?_
  refine t_cond_ndec rfl (fun hc1 => ?_) (fun hc1 => ?_)
  ·
    refine t_seq ?_
    refine t_region ?_
    refine mvI rfl ?_
    refine asI rfl ?_
    refine asI rfl ?_
    refine r_nil ?_
    refine i_then ?_
    refine t_ret ?_
    refine i_then_ret ?_
    refine i_rp2 rfl rfl rfl ?_ ?_
    all_goals first | exact ret_refl rfl rfl | skip
    all_goals exact ret_eq rfl rfl (congrArg (Ty.int .i64) (if_neg hc1 : placesV b = 0).symm)
  ·
    refine t_skip ?_
    refine i_then ?_
    refine t_seq ?_
    have hr := check_right hc1
    refine t_as (s := 4) rfl (Ty.when_sub (decide_eq_true hc1)) ?_
    refine t_region ?_
    refine mvPe rfl ?_
    refine r_build rfl rfl (by exact List.cons_ne_nil _ _) rfl (by repeat (first | exact (Parts.nil : Parts _ _ [] _) | (show Parts _ _ ((_, _) :: _) _; apply Parts.one; (· exact (rfl : _ = Ty.clo _ _)); (· exact rfl)))) (by exact (rfl : _ = some [_])) ?_
    refine r_call (c_search b hr oneC (one_ok b) (Ty.clo 79 []) rfl rfl rfl (fun t _ _ => cal_clo (c_Places1 t) rfl rfl rfl rfl rfl rfl) true) rfl rfl rfl rfl rfl ?_
    refine r_fieldv1 rfl rfl rfl rfl rfl rfl rfl ?_
    refine r_lenPm rfl mapT121 ?_
    refine asI rfl ?_
    refine asI rfl ?_
    refine r_nil ?_
    refine i_then ?_
    refine t_ret ?_
    refine i_rp2 rfl rfl rfl ?_ ?_
    all_goals skip
    all_goals first | exact ret_eq rfl rfl (congrArg (Ty.int .i64) (if_pos hc1 : placesV b = _).symm) | exact ret_eq rfl rfl (congrArg (Ty.int .i64) hc1.symm)
end Go.Proofs.Ytpnndljmhpepgaa

namespace Go.Proofs.Ytpnndljmhpepgaa
open Go Go.T
def offAny (b : Barn) (rings : List (List Int)) : Bool := rings.flatten.any fun n => offB n 0 (b.lots.length - 1)
def twiceL (l : List Int) : Bool := (List.range l.length).any fun k => decide (nth l k ∈ l.take k)
def wrongL (b : Barn) (rings : List (List Int)) : Bool := rings.any fun l => !ringB b l
def showV (b : Barn) (rings : List (List Int)) : Int × Int := if checkB b = 0 then showsR b rings else (0, checkB b)
variable {b : Barn} {rings : List (List Int)}
theorem shows_not (h : offAny b rings = true) : showsR b rings = (0, 1) := if_pos h
theorem shows_twice (h0 : offAny b rings = false) (h : twiceL rings.flatten = true) : showsR b rings = (0, 5) := (if_neg (by show ¬ offAny b rings = true; rw [h0]; decide)).trans (if_pos h)
theorem shows_wrong (h0 : offAny b rings = false) (h1 : twiceL rings.flatten = false) (h : wrongL b rings = true) : showsR b rings = (0, 8) :=
  (if_neg (by show ¬ offAny b rings = true; rw [h0]; decide)).trans ((if_neg (by show ¬ twiceL rings.flatten = true; rw [h1]; decide)).trans (if_pos h))
theorem shows_ok (h0 : offAny b rings = false) (h1 : twiceL rings.flatten = false) (h2 : wrongL b rings = false) : showsR b rings = (((mustL b).length + rings.length : Int), (0 : Int)) :=
  (if_neg (by show ¬ offAny b rings = true; rw [h0]; decide)).trans ((if_neg (by show ¬ twiceL rings.flatten = true; rw [h1]; decide)).trans (if_neg (by show ¬ wrongL b rings = true; rw [h2]; decide)))
theorem showV_bad (h : ¬ checkB b = 0) : showV b rings = (0, checkB b) := if_neg h
theorem showV_good (h : checkB b = 0) {x : Int × Int} (e : showsR b rings = x) : showV b rings = x := (if_pos h).trans e
theorem lot_off (n : Int) : (!b.lot n) = offB n 0 (b.lots.length - 1) := by unfold Barn.lot; rw [inB_off]
theorem every_off (v : Bool) (h : (!rings.flatten.all fun n => b.lot n) = v) : offAny b rings = v := by
  rw [← h]; unfold offAny; rw [all_any _ _ _ (fun n => lot_off n)]
theorem not_off (h : offAny b rings = false) {m i : Nat} (hm : m < rings.length) (hi : i < (nth rings m).length) : 0 ≤ nth (nth rings m) i ∧ nth (nth rings m) i < b.lots.length := by
  have h1 := any_none h (x := nth (nth rings m) i) (List.mem_flatten.2 ⟨_, nth_mem hm, nth_mem hi⟩)
  rw [offB_false] at h1; omega
theorem row_flat {m : Nat} (hm : m < rings.length) : (nth rings m).length ≤ rings.flatten.length := by
  have h1 := flat_take_le rings (m + 1)
  rw [flat_take_succ hm, List.length_append] at h1; omega
theorem wrong_at {m : Nat} (hm : m < rings.length) (h : ringB b (nth rings m) = false) : wrongL b rings = true := any_at hm (by rw [h]; rfl)
theorem wrong_ext {m : Nat} (hm : m < rings.length) (h : ∀ l ∈ rings.take m, (!ringB b l) = false) (h2 : ¬ (nth rings m).length < 2) (h3 : ∀ j, j < (nth rings m).length → ringAt b (nth rings m) j = true) : ∀ l ∈ rings.take (m + 1), (!ringB b l) = false :=
  ext_false h hm (by rw [ringB_true h3, decide_eq_true (by omega)]; rfl)
theorem wrong_none {m : Nat} (hm : rings.length ≤ m) (h : ∀ l ∈ rings.take m, (!ringB b l) = false) : wrongL b rings = false := any_neg h hm
theorem contains_idx (l : List Int) (x : Int) : decide (0 ≤ fidx (fun y => decide (x = y)) l) = decide (x ∈ l) := by
  rw [fidx_ge, Bool.eq_iff_iff, List.any_eq_true, decide_eq_true_eq]
  constructor
  · rintro ⟨y, hy, h⟩; rw [of_decide_eq_true h]; exact hy
  · intro h; exact ⟨x, h, decide_eq_true rfl⟩
end Go.Proofs.Ytpnndljmhpepgaa

namespace Go.Proofs.Ytpnndljmhpepgaa
open Go Go.T
set_option maxHeartbeats 2000000
attribute [local irreducible] dInt dBool dSl dPp dPtr dAgg dTup dClo dAny dEx dStr dGd dCells dVec dVs dRow dOp nth Tri Into TOps Ctr bodyPost Exit.then Exit.inBlock Code.wp Code.wpIn dWhen dPa dPe dAo dArr dMp dPm dMap dCJ CtrG CtrI OpY keepPost iterPost bodyPostM roundQ
end Go.Proofs.Ytpnndljmhpepgaa

namespace Go.Proofs.Ytpnndljmhpepgaa
open Go Go.T
set_option maxHeartbeats 4000000
attribute [local irreducible] dInt dBool dSl dPp dPtr dAgg dTup dClo dAny dEx dStr dGd dCells dVec dVs dRow dOp nth Tri Into TOps Ctr bodyPost Exit.then Exit.inBlock Code.wp Code.wpIn dWhen dPa dPe dAo dArr dMp dPm dMap dCJ CtrG CtrI OpY keepPost iterPost bodyPostM roundQ
set_option maxRecDepth 100000 in
theorem c_Index_int (l : List Int) (x : Int) : Ctr Try.prog 117 [Ty.sl I64 l, Ty.int .i64 x] (Ty.int .i64 (fidx (fun y => decide (x = y)) l)) := by
  refine fn_intro Try.func117 rfl (by decide) Try.ntmps117 (by exact Nat.le_of_ble_eq_true rfl) fun w0 M0 => ?_
  refine t_fact (s := 0) rfl rfl sl_len fun hl => ?_
  refine t_seq ?_
  refine t_region ?_
  refine asI rfl ?_
  refine r_nil ?_
  refine i_then ?_
  refine t_seq ?_
  refine t_seq ?_
  refine t_region ?_
  refine mvS rfl ?_
  refine r_len rfl rfl rfl ?_
  refine mvI rfl ?_
  refine r_nil ?_
  refine i_then ?_
  refine t_block ?_
  refine t_loop (fun (k : {k : Nat // ∀ y ∈ l.take k, decide (x = y) = false}) => live [(0, Ty.sl I64 l), (1, Ty.int .i64 x), (7, Ty.int .i64 l.length), (8, Ty.int .i64 (k.1 : Nat))] []) (fun k => l.length - k.1) (⟨0, by simp⟩) ?_ fun k => ?_
  · (refine Ent.mk' ?_ ?_ <;> (repeat' (first | exact allSub_zero | exact allTags_nil | refine allSub_succ' ?_ (Ty.sub_any _) | refine allSub_succ' ?_ (Ty.sub_refl _))))
  ·
    refine t_seq ?_
    refine t_region ?_
    refine r_bin rfl rfl rfl ?_
    refine r_nil ?_
    refine i_then ?_
    refine t_seq ?_
    refine t_cond_dec rfl (fun hc1 => ?_) (fun hc1 => ?_)
    ·
      refine t_skip ?_
      refine i_then ?_
      refine t_seq ?_
      refine t_block ?_
      refine t_seq ?_
      refine t_region ?_
      refine mvI rfl ?_
      refine asI rfl ?_
      refine r_nil ?_
      refine i_then ?_
      refine t_seq ?_
      refine t_region ?_
      refine mvI rfl ?_
      refine mvS rfl ?_
      refine mvI rfl ?_
      refine r_index_slN rfl rfl rfl rfl rfl rfl (by omega) ?_
      refine r_load_pp rfl rfl rfl rfl ?_
      refine r_bin rfl rfl rfl ?_
      refine r_nil ?_
      refine i_then ?_
      refine t_cond_dec rfl (fun hc2 => ?_) (fun hc2 => ?_)
      ·
        refine t_seq ?_
        refine t_region ?_
        refine mvI rfl ?_
        refine asI rfl ?_
        refine r_nil ?_
        refine i_then ?_
        refine t_ret ?_
        refine i_block_ret ?_
        refine i_then_ret ?_
        refine i_then_ret ?_
        refine i_block_ret ?_
        refine i_then_ret ?_
        refine i_rp1 rfl rfl ?_
        all_goals skip
        exact ret_eq rfl rfl (congrArg (Ty.int .i64) (by rw [fidx_found (k := k.1) (by omega) k.2 (by rw [← nth_lt]; exact decide_eq_true hc2)]))
      ·
        refine t_skip ?_
        refine i_block ?_
        refine i_then ?_
        refine t_region ?_
        refine r_add rfl rfl (by omega) (by omega) ?_
        refine mvI rfl ?_
        refine r_nil ?_
        refine i_round (⟨k.1 + 1, by rw [take_nth (by omega)]; intro y hy; rcases List.mem_append.1 hy with h | h; exact k.2 y h; rw [List.mem_singleton.1 h]; exact decide_eq_false hc2⟩) ?_ (by show l.length - (k.1 + 1) < l.length - k.1; omega)
        (refine Ent.mk' ?_ ?_ <;> (repeat' (first | exact allSub_zero | exact allTags_nil | refine allSub_succ' ?_ (Ty.sub_any _) | refine allSub_succ' ?_ (Ty.sub_refl _))))
        all_goals skip
    ·
      refine t_exit ?_
      refine i_then_exit ?_
      refine i_then_exit ?_
      refine i_block_exit rfl ?_
      refine i_then ?_
      refine t_seq ?_
      refine t_region ?_
      refine asI rfl ?_
      refine r_nil ?_
      refine i_then ?_
      refine t_ret ?_
      refine i_rp1 rfl rfl ?_
      all_goals skip
      exact ret_eq rfl rfl (congrArg (Ty.int .i64) (by rw [fidx_none (by have := k.2; rwa [List.take_of_length_le (by omega)] at this)]))
set_option maxRecDepth 100000 in
theorem c_Contains_int (l : List Int) (x : Int) : Ctr Try.prog 61 [Ty.sl I64 l, Ty.int .i64 x] (Ty.bool (decide (x ∈ l))) := by
  refine fn_intro Try.func61 rfl (by decide) Try.ntmps61 (by exact Nat.le_of_ble_eq_true rfl) fun w0 M0 => ?_
  refine t_seq ?_
  refine t_region ?_
  refine asB rfl ?_
  refine r_nil ?_
  refine i_then ?_
  refine t_seq ?_
  refine t_region ?_
  refine mvS rfl ?_
  refine mvI rfl ?_
  refine r_call (c_Index_int l x) rfl rfl rfl rfl rfl ?_
  refine r_bin rfl rfl rfl ?_
  refine asB rfl ?_
  refine r_nil ?_
  refine i_then ?_
  refine t_ret ?_
  refine i_rp1 rfl rfl ?_
  all_goals skip
  exact ret_eq rfl rfl (congrArg Ty.bool (contains_idx l x))
set_option maxRecDepth 100000 in
theorem c_Shows (b : Barn) (hs : b.Small) (rings : List (List Int)) (hn : rings.length ≤ 1000) (hfl : rings.flatten.length ≤ 1000000) : Ctr Try.prog 46 [barnT b, Ty.sl RowE rings] (Ty.tup [Ty.int .i64 (showV b rings).1, Ty.int .i64 (showV b rings).2]) := by
  refine fn_intro Try.func46 rfl (by decide) Try.ntmps46 (by exact Nat.le_of_ble_eq_true rfl) fun w0 M0 => ?_
  refine t_seq ?_
  refine t_region ?_
  refine r_box_agg rfl ?_
  refine asI rfl ?_
  refine asI rfl ?_
  refine r_nil ?_
  refine i_then ?_
  refine t_seq ?_
  refine t_seq ?_
  refine t_region ?_
  refine r_load_ppN rfl rfl rfl (by exact Nat.le_of_ble_eq_true rfl) ?_
  refine r_call (c_Check b hs) rfl rfl rfl rfl rfl ?_
  refine asI rfl ?_
  refine r_nil ?_
  refine i_then ?_
  refine t_seq ?_
  refine t_region ?_
  refine mvI rfl ?_
  refine r_bin rfl rfl rfl ?_
  refine r_nil ?_
  refine i_then ?_
  refine t_cond_ndec rfl (fun hc1 => ?_) (fun hc1 => ?_)
  ·
    refine t_seq ?_
    refine t_region ?_
    refine mvI rfl ?_
    refine asI rfl ?_
    refine asI rfl ?_
    refine r_nil ?_
    refine i_then ?_
    refine t_ret ?_
    refine i_then_ret ?_
    refine i_rp2 rfl rfl rfl ?_ ?_
    all_goals skip
    all_goals first | exact ret_eq rfl rfl (congrArg (fun z : Int × Int => Ty.int .i64 z.1) (showV_bad hc1).symm) | exact ret_eq rfl rfl (congrArg (fun z : Int × Int => Ty.int .i64 z.2) (showV_bad hc1).symm)
  ·
    refine t_skip ?_
    refine i_then ?_
    refine t_seq ?_
    refine t_region ?_
    refine mvS rfl ?_
    refine r_call (c_Concat_int rings (by omega)) rfl rfl rfl rfl rfl ?_
    refine asS rfl ?_
    refine r_nil ?_
    refine i_then ?_
    refine t_seq ?_
    refine t_seq ?_
    refine t_region ?_
    refine mvS rfl ?_
    refine r_load_ppN rfl rfl rfl (by exact Nat.le_of_ble_eq_true rfl) ?_
    refine r_makeMth rfl ?_
    refine r_call (c_every_int rings.flatten (Ty.mth 101 [barnT b]) rfl (fun n => b.lot n) rfl rfl fun x _ => cal_mth (c_lot b hs x) rfl rfl rfl rfl rfl rfl) rfl rfl rfl rfl rfl ?_
    refine r_not rfl ?_
    refine r_nil ?_
    refine i_then ?_
    refine t_cond rfl (fun hc2 => ?_) (fun hc2 => ?_)
    ·
      refine t_seq ?_
      refine t_region ?_
      refine asI rfl ?_
      refine asI rfl ?_
      refine r_nil ?_
      refine i_then ?_
      refine t_ret ?_
      refine i_then_ret ?_
      refine i_rp2 rfl rfl rfl ?_ ?_
      all_goals skip
      all_goals first | exact ret_eq rfl rfl (congrArg (fun z : Int × Int => Ty.int .i64 z.1) (showV_good hc1 (shows_not (every_off _ hc2))).symm) | exact ret_eq rfl rfl (congrArg (fun z : Int × Int => Ty.int .i64 z.2) (showV_good hc1 (shows_not (every_off _ hc2))).symm)
    ·
      refine t_skip ?_
      refine i_then ?_
      refine t_seq ?_
      refine t_seq ?_
      have hoff : offAny b rings = false := every_off _ hc2
      refine t_region ?_
      refine mvS rfl ?_
      refine r_len rfl rfl rfl ?_
      refine mvI rfl ?_
      refine r_nil ?_
      refine i_then ?_
      refine t_block ?_
      refine t_loop (fun (k : {k : Nat // ∀ i, i < k → decide (nth rings.flatten i ∈ rings.flatten.take i) = false}) => live [(1, Ty.sl RowE rings), (2, Ty.pp (barnTys b)), (7, Ty.sl I64 rings.flatten), (26, Ty.sl I64 rings.flatten), (27, Ty.int .i64 rings.flatten.length), (28, Ty.int .i64 (k.1 : Nat))] []) (fun k => rings.flatten.length - k.1) (⟨0, fun i hi => absurd hi (Nat.not_lt_zero i)⟩) ?_ fun k => ?_
      · (refine Ent.mk' ?_ ?_ <;> (repeat' (first | exact allSub_zero | exact allTags_nil | refine allSub_succ' ?_ (Ty.sub_any _) | refine allSub_succ' ?_ (Ty.sub_refl _))))
      ·
        refine t_seq ?_
        refine t_region ?_
        refine r_bin rfl rfl rfl ?_
        refine r_nil ?_
        refine i_then ?_
        refine t_seq ?_
        refine t_cond_dec rfl (fun hc3 => ?_) (fun hc3 => ?_)
        ·
          refine t_skip ?_
          refine i_then ?_
          refine t_seq ?_
          refine t_block ?_
          refine t_seq ?_
          refine t_region ?_
          refine mvI rfl ?_
          refine r_index_slN rfl rfl rfl rfl rfl rfl (by omega) ?_
          refine r_load_pp rfl rfl rfl rfl ?_
          refine asI rfl ?_
          refine asI rfl ?_
          refine r_nil ?_
          refine i_then ?_
          refine t_seq ?_
          refine t_region ?_
          refine mvS rfl ?_
          refine mvI rfl ?_
          refine r_cut_hi rfl rfl rfl rfl rfl rfl (by omega) ?_
          refine mvI rfl ?_
          refine r_call (c_Contains_int _ _) rfl rfl rfl rfl rfl ?_
          refine r_nil ?_
          refine i_then ?_
          refine t_cond_dec rfl (fun hc4 => ?_) (fun hc4 => ?_)
          ·
            refine t_seq ?_
            refine t_region ?_
            refine asI rfl ?_
            refine asI rfl ?_
            refine r_nil ?_
            refine i_then ?_
            refine t_ret ?_
            refine i_block_ret ?_
            refine i_then_ret ?_
            refine i_then_ret ?_
            refine i_block_ret ?_
            refine i_then_ret ?_
            refine i_rp2 rfl rfl rfl ?_ ?_
            all_goals skip
            all_goals first | exact ret_eq rfl rfl (congrArg (fun z : Int × Int => Ty.int .i64 z.1) (showV_good hc1 (shows_twice hoff (rng_at (by omega) (decide_eq_true hc4)))).symm) | exact ret_eq rfl rfl (congrArg (fun z : Int × Int => Ty.int .i64 z.2) (showV_good hc1 (shows_twice hoff (rng_at (k := k.1) (by omega) (decide_eq_true hc4)))).symm)
          ·
            refine t_skip ?_
            refine i_block ?_
            refine i_then ?_
            refine t_region ?_
            refine r_add rfl rfl (by omega) (by omega) ?_
            refine mvI rfl ?_
            refine r_nil ?_
            refine i_round (⟨k.1 + 1, rng_ext k.2 (decide_eq_false hc4)⟩) ?_ (by show rings.flatten.length - (k.1 + 1) < rings.flatten.length - k.1; omega)
            (refine Ent.mk' ?_ ?_ <;> (repeat' (first | exact allSub_zero | exact allTags_nil | refine allSub_succ' ?_ (Ty.sub_any _) | refine allSub_succ' ?_ (Ty.sub_refl _))))
            all_goals skip
        ·
          refine t_exit ?_
          refine i_then_exit ?_
          refine i_then_exit ?_
          refine i_block_exit rfl ?_
          refine i_then ?_
          refine t_seq ?_
          refine t_seq ?_
          have htw : twiceL rings.flatten = false := rng_neg k.2 (by omega)
          refine t_region ?_
          refine mvS rfl ?_
          refine r_len rfl rfl rfl ?_
          refine mvI rfl ?_
          refine r_nil ?_
          refine i_then ?_
          refine t_block ?_
          refine t_loop (fun (m : {m : Nat // ∀ l ∈ rings.take m, (!ringB b l) = false}) => live [(1, Ty.sl RowE rings), (2, Ty.pp (barnTys b)), (39, Ty.sl RowE rings), (40, Ty.int .i64 rings.length), (41, Ty.int .i64 (m.1 : Nat))] []) (fun m => rings.length - m.1) (⟨0, by simp⟩) ?_ fun m => ?_
          · (refine Ent.mk' ?_ ?_ <;> (repeat' (first | exact allSub_zero | exact allTags_nil | refine allSub_succ' ?_ (Ty.sub_any _) | refine allSub_succ' ?_ (Ty.sub_refl _))))
          ·
            refine t_seq ?_
            refine t_region ?_
            refine r_bin rfl rfl rfl ?_
            refine r_nil ?_
            refine i_then ?_
            refine t_seq ?_
            refine t_cond_dec rfl (fun hc5 => ?_) (fun hc5 => ?_)
            ·
              refine t_skip ?_
              refine i_then ?_
              refine t_seq ?_
              refine t_block ?_
              refine t_seq ?_
              refine t_region ?_
              refine r_index_slN rfl rfl rfl rfl rfl rfl (by omega) ?_
              refine r_load_pp rfl rfl rfl rfl ?_
              refine asS rfl ?_
              refine r_nil ?_
              refine i_then ?_
              refine t_seq ?_
              refine t_seq ?_
              refine t_region ?_
              refine mvS rfl ?_
              refine r_len rfl rfl rfl ?_
              refine r_bin rfl rfl rfl ?_
              refine r_nil ?_
              refine i_then ?_
              refine t_cond_dec rfl (fun hc6 => ?_) (fun hc6 => ?_)
              ·
                refine t_seq ?_
                refine t_region ?_
                refine asI rfl ?_
                refine asI rfl ?_
                refine r_nil ?_
                refine i_then ?_
                refine t_ret ?_
                refine i_then_ret ?_
                refine i_block_ret ?_
                refine i_then_ret ?_
                refine i_then_ret ?_
                refine i_block_ret ?_
                refine i_then_ret ?_
                refine i_rp2 rfl rfl rfl ?_ ?_
                all_goals skip
                all_goals first | exact ret_eq rfl rfl (congrArg (fun z : Int × Int => Ty.int .i64 z.1) (showV_good hc1 (shows_wrong hoff htw (wrong_at (m := m.1) (by omega) (ringB_short (by omega))))).symm) | exact ret_eq rfl rfl (congrArg (fun z : Int × Int => Ty.int .i64 z.2) (showV_good hc1 (shows_wrong hoff htw (wrong_at (m := m.1) (by omega) (ringB_short (by omega))))).symm)
              ·
                refine t_skip ?_
                refine i_then ?_
                refine t_seq ?_
                refine t_region ?_
                refine mvS rfl ?_
                refine r_len rfl rfl rfl ?_
                refine mvI rfl ?_
                refine r_nil ?_
                refine i_then ?_
                refine t_block ?_
                refine t_loop (fun (i : {i : Nat // ∀ j, j < i → ringAt b (nth rings m.1) j = true}) => live [(1, Ty.sl RowE rings), (2, Ty.pp (barnTys b)), (11, Ty.sl I64 (nth rings m.1)), (39, Ty.sl RowE rings), (40, Ty.int .i64 rings.length), (41, Ty.int .i64 (m.1 : Nat)), (48, Ty.sl I64 (nth rings m.1)), (49, Ty.int .i64 (nth rings m.1).length), (50, Ty.int .i64 (i.1 : Nat))] []) (fun i => (nth rings m.1).length - i.1) (⟨0, fun i hi => absurd hi (Nat.not_lt_zero i)⟩) ?_ fun i => ?_
                · (refine Ent.mk' ?_ ?_ <;> (repeat' (first | exact allSub_zero | exact allTags_nil | refine allSub_succ' ?_ (Ty.sub_any _) | refine allSub_succ' ?_ (Ty.sub_refl _))))
                ·
                  refine t_seq ?_
                  refine t_region ?_
                  refine r_bin rfl rfl rfl ?_
                  refine r_nil ?_
                  refine i_then ?_
                  refine t_seq ?_
                  refine t_cond_dec rfl (fun hc7 => ?_) (fun hc7 => ?_)
                  ·
                    refine t_skip ?_
                    refine i_then ?_
                    refine t_seq ?_
                    refine t_block ?_
                    refine t_seq ?_
                    refine t_region ?_
                    refine mvI rfl ?_
                    refine r_index_slN rfl rfl rfl rfl rfl rfl (by omega) ?_
                    refine r_load_pp rfl rfl rfl rfl ?_
                    refine asI rfl ?_
                    refine asI rfl ?_
                    refine r_nil ?_
                    refine i_then ?_
                    refine t_seq ?_
                    have hri := not_off hoff (m := m.1) (i := i.1) (by omega) (by omega)
                    have hrl := row_flat (rings := rings) (m := m.1) (by omega)
                    refine t_draw mixed rfl ?_
                    refine r_load_ppN rfl rfl rfl (by exact Nat.le_of_ble_eq_true rfl) ?_
                    refine mvI rfl ?_
                    refine r_call (c_follows b (nth (nth rings m.1) i.1) hri) rfl rfl rfl rfl rfl ?_
                    refine mvS rfl ?_
                    refine mvI rfl ?_
                    refine r_add rfl rfl (by omega) (by omega) ?_
                    refine mvS rfl ?_
                    refine r_len rfl rfl rfl ?_
                    refine r_remN (k := i.1) rfl rfl (by omega) ?_
                    refine r_index_sl rfl rfl rfl rfl rfl rfl (by omega) (by have := Nat.mod_lt (i.1 + 1) (show 0 < (nth rings m.1).length by omega); omega) ?_
                    refine r_load_pp rfl rfl rfl rfl ?_
                    refine r_bin rfl rfl rfl ?_
                    refine r_nil ?_
                    refine ⟨by kernel_rfl, ?_⟩
                    refine i_then ?_
                    refine t_cond_ndec rfl (fun hc8 => ?_) (fun hc8 => ?_)
                    ·
                      refine t_seq ?_
                      refine t_region ?_
                      refine asI rfl ?_
                      refine asI rfl ?_
                      refine r_nil ?_
                      refine i_then ?_
                      refine t_ret ?_
                      refine i_block_ret ?_
                      refine i_then_ret ?_
                      refine i_then_ret ?_
                      refine i_block_ret ?_
                      refine i_block_ret ?_
                      refine i_then_ret ?_
                      refine i_then_ret ?_
                      refine i_block_ret ?_
                      refine i_then_ret ?_
                      refine i_rp2 rfl rfl rfl ?_ ?_
                      all_goals skip
                      all_goals first | exact ret_eq rfl rfl (congrArg (fun z : Int × Int => Ty.int .i64 z.1) (showV_good hc1 (shows_wrong hoff htw (wrong_at (m := m.1) (by omega) (ringB_false (k := i.1) (by omega) (decide_eq_false hc8))))).symm) | exact ret_eq rfl rfl (congrArg (fun z : Int × Int => Ty.int .i64 z.2) (showV_good hc1 (shows_wrong hoff htw (wrong_at (m := m.1) (by omega) (ringB_false (k := i.1) (by omega) (decide_eq_false hc8))))).symm)
                    ·
                      refine t_skip ?_
                      refine i_block ?_
                      refine i_then ?_
                      refine t_region ?_
                      refine r_add rfl rfl (by omega) (by omega) ?_
                      refine mvI rfl ?_
                      refine r_nil ?_
                      refine i_round (⟨i.1 + 1, lt_ext i.2 (decide_eq_true hc8)⟩) ?_ (by show (nth rings m.1).length - (i.1 + 1) < (nth rings m.1).length - i.1; omega)
                      (refine Ent.mk' ?_ ?_ <;> (repeat' (first | exact allSub_zero | exact allTags_nil | refine allSub_succ' ?_ (Ty.sub_any _) | refine allSub_succ' ?_ (Ty.sub_refl _))))
                      all_goals skip
                  ·
                    refine t_exit ?_
                    refine i_then_exit ?_
                    refine i_then_exit ?_
                    refine i_block_exit rfl ?_
                    refine i_block ?_
                    refine i_then ?_
                    refine t_region ?_
                    refine r_add rfl rfl (by omega) (by omega) ?_
                    refine mvI rfl ?_
                    refine r_nil ?_
                    refine i_round (⟨m.1 + 1, wrong_ext (by omega) m.2 (by omega) (fun j hj => i.2 j (by omega))⟩) ?_ (by show rings.length - (m.1 + 1) < rings.length - m.1; omega)
                    (refine Ent.mk' ?_ ?_ <;> (repeat' (first | exact allSub_zero | exact allTags_nil | refine allSub_succ' ?_ (Ty.sub_any _) | refine allSub_succ' ?_ (Ty.sub_refl _))))
                    all_goals skip
            ·
              refine t_exit ?_
              refine i_then_exit ?_
              refine i_then_exit ?_
              refine i_block_exit rfl ?_
              refine i_then ?_
              refine t_seq ?_
              have hwr : wrongL b rings = false := wrong_none (by omega) m.2
              have hml : (mustL b).length ≤ b.lots.length := filtUp_len _ _
              have hs1 := hs.lots
              refine t_region ?_
              refine r_load_ppN rfl rfl rfl (by exact Nat.le_of_ble_eq_true rfl) ?_
              refine r_call (c_must b hs) rfl rfl rfl rfl rfl ?_
              refine r_len rfl rfl rfl ?_
              refine mvS rfl ?_
              refine r_len rfl rfl rfl ?_
              refine r_add rfl rfl (by omega) (by omega) ?_
              refine asI rfl ?_
              refine asI rfl ?_
              refine r_nil ?_
              refine i_then ?_
              refine t_ret ?_
              refine i_rp2 rfl rfl rfl ?_ ?_
              all_goals skip
              all_goals first | exact ret_eq rfl rfl (congrArg (fun z : Int × Int => Ty.int .i64 z.1) (showV_good hc1 (shows_ok hoff htw hwr)).symm) | exact ret_eq rfl rfl (congrArg (fun z : Int × Int => Ty.int .i64 z.2) (showV_good hc1 (shows_ok hoff htw hwr)).symm)
end Go.Proofs.Ytpnndljmhpepgaa

namespace Go.Proofs.Ytpnndljmhpepgaa
open Go Go.T
def noB : Barn := ⟨[], []⟩
def lotsTo (b : Barn) (t : Tur) : List Lot := b.lots.set t.lot.toNat { nth b.lots t.lot.toNat with inn := t.aim }
def turnedB (b : Barn) (t : Tur) : Barn × Int :=
  if (!b.lot t.lot || !b.bin t.aim) = true then (noB, 1) else if b.free t.aim = false then (noB, 5) else if b.hold t.aim t.lot = false then (noB, 9) else (⟨b.sizes, lotsTo b t⟩, 0)
theorem turned_1 {b : Barn} {t : Tur} (h : (!b.lot t.lot || !b.bin t.aim) = true) : turnedB b t = (noB, 1) := if_pos h
theorem turned_5 {b : Barn} {t : Tur} (h : (!b.lot t.lot || !b.bin t.aim) = false) (h2 : b.free t.aim = false) : turnedB b t = (noB, 5) := by unfold turnedB; rw [if_neg (by rw [h]; decide), if_pos h2]
theorem turned_9 {b : Barn} {t : Tur} (h : (!b.lot t.lot || !b.bin t.aim) = false) (h2 : b.free t.aim = true) (h3 : b.hold t.aim t.lot = false) : turnedB b t = (noB, 9) := by unfold turnedB; rw [if_neg (by rw [h]; decide), if_neg (by rw [h2]; decide), if_pos h3]
theorem turned_0 {b : Barn} {t : Tur} (h : (!b.lot t.lot || !b.bin t.aim) = false) (h2 : b.free t.aim = true) (h3 : b.hold t.aim t.lot = true) : turnedB b t = (⟨b.sizes, lotsTo b t⟩, 0) := by unfold turnedB; rw [if_neg (by rw [h]; decide), if_neg (by rw [h2]; decide), if_neg (by rw [h3]; decide)]
theorem known_rng {b : Barn} {t : Tur} (h : (!b.lot t.lot || !b.bin t.aim) = false) : (0 ≤ t.lot ∧ t.lot < b.lots.length) ∧ 0 ≤ t.aim ∧ t.aim < b.sizes.length := by
  simp only [Bool.or_eq_false_iff, Bool.not_eq_false', Barn.lot, Barn.bin, inB_true] at h; omega
theorem turned_err {b : Barn} {t : Tur} : (turnedB b t).2 = 0 → (0 ≤ t.lot ∧ t.lot < b.lots.length) ∧ (0 ≤ t.aim ∧ t.aim < b.sizes.length) ∧ b.free t.aim = true ∧ b.hold t.aim t.lot = true ∧ (turnedB b t).1 = ⟨b.sizes, lotsTo b t⟩ := by
  intro h
  cases h1 : (!b.lot t.lot || !b.bin t.aim) with
  | true => rw [turned_1 h1] at h; cases h
  | false =>
    cases h2 : b.free t.aim with
    | false => rw [turned_5 h1 h2] at h; cases h
    | true =>
      cases h3 : b.hold t.aim t.lot with
      | false => rw [turned_9 h1 h2 h3] at h; cases h
      | true => have := known_rng h1; rw [turned_0 h1 h2 h3]; exact ⟨this.1, this.2, rfl, rfl, rfl⟩
def doneGo (cur : Barn) (back : List Tur) : List Tur → Barn × List Tur × Int
  | [] => (cur, back.reverse, 0)
  | t :: l => if (turnedB cur t).2 = 0 then doneGo (turnedB cur t).1 (back ++ [⟨t.lot, (nth cur.lots t.lot.toNat).inn⟩]) l else (noB, [], (turnedB cur t).2)
def doneV (b : Barn) (plan : List Tur) : Barn × List Tur × Int :=
  if checkB b = 0 then if (plan.length : Int) > 6000 then (noB, [], 2) else doneGo b [] plan else (noB, [], checkB b)
structure DIx (b : Barn) (plan : List Tur) (k : Nat) (cur : Barn) (back : List Tur) : Prop where
  same : doneGo b [] plan = doneGo cur back (plan.drop k)
  sizes : cur.sizes = b.sizes
  lots : cur.lots.length = b.lots.length
  len : back.length = k
  le : k ≤ plan.length
theorem dix0 (b : Barn) (plan : List Tur) : DIx b plan 0 b [] := ⟨by rw [List.drop_zero], rfl, rfl, rfl, Nat.zero_le _⟩
section
variable {b : Barn} {plan : List Tur} {k : Nat} {cur : Barn} {back : List Tur} (h : DIx b plan k cur back)
include h
theorem DIx.small (hs : b.Small) : cur.Small := ⟨by rw [h.sizes]; exact hs.sizes, by rw [h.lots]; exact hs.lots⟩
theorem DIx.stop (hk : k < plan.length) (he : ¬ (turnedB cur (nth plan k)).2 = 0) : doneGo b [] plan = (noB, [], (turnedB cur (nth plan k)).2) := by
  rw [h.same, drop_nth hk]; exact if_neg he
theorem DIx.next (hk : k < plan.length) (he : (turnedB cur (nth plan k)).2 = 0) : DIx b plan (k + 1) (turnedB cur (nth plan k)).1 (back ++ [⟨(nth plan k).lot, (nth cur.lots (nth plan k).lot.toNat).inn⟩]) := by
  obtain ⟨_, _, _, _, e⟩ := turned_err he
  refine ⟨?_, by rw [e]; exact h.sizes, by rw [e]; show (lotsTo _ _).length = _; unfold lotsTo; rw [List.length_set]; exact h.lots, by rw [List.length_append, h.len]; rfl, by omega⟩
  rw [h.same, drop_nth hk]; exact if_pos he
theorem DIx.end (hk : plan.length ≤ k) : doneGo b [] plan = (cur, back.reverse, 0) := by
  rw [h.same, List.drop_of_length_le hk]; rfl
end
theorem doneV_bad {b : Barn} {plan : List Tur} (h : ¬ checkB b = 0) : doneV b plan = (noB, [], checkB b) := if_neg h
theorem doneV_long {b : Barn} {plan : List Tur} (h : checkB b = 0) (h2 : (plan.length : Int) > 6000) : doneV b plan = (noB, [], 2) := (if_pos h).trans (if_pos h2)
theorem doneV_go {b : Barn} {plan : List Tur} (h : checkB b = 0) (h2 : ¬ (plan.length : Int) > 6000) {x : Barn × List Tur × Int} (e : doneGo b [] plan = x) : doneV b plan = x := (if_pos h).trans ((if_neg h2).trans e)
def rightB (b : Barn) : Bool := b.lots.all fun l => decide (l.aim = -1) || decide (l.aim = l.inn)
def makesB (b : Barn) (plan : List Tur) : Bool := decide ((doneV b plan).2.2 = 0) && rightB (doneV b plan).1
def sumUp (b : Barn) (plan : List Tur) (k : Nat) : Int := costL (sackC b) (plan.take k)
end Go.Proofs.Ytpnndljmhpepgaa

namespace Go.Proofs.Ytpnndljmhpepgaa
open Go Go.T
set_option maxHeartbeats 4000000
theorem no_barn : (Ty.agg [Ty.ex (.slice none 0 0), Ty.ex (.slice none 0 0)]).Sub (barnT noB) := fun w M v ⟨cs, e, h⟩ => by
  obtain ⟨cs⟩ := cs
  match cs, h with
  | [_, _], ⟨h1, h2, _⟩ => exact ⟨_, e, Ty.nil_sl w M _ h1, Ty.nil_sl w M _ h2, trivial⟩
theorem ret_no {x : Barn} (h : x = noB) : RetSub (Ty.agg [Ty.ex (.slice none 0 0), Ty.ex (.slice none 0 0)]) (barnT x) := by subst h; exact ret_sub rfl rfl no_barn
attribute [local irreducible] dInt dBool dSl dPp dPtr dAgg dTup dClo dAny dEx dStr dGd dCells dVec dVs dRow dOp nth Tri Into TOps Ctr bodyPost Exit.then Exit.inBlock Code.wp Code.wpIn dWhen dPa dPe dAo dArr dMp dPm dMap dCJ CtrG CtrI OpY keepPost iterPost bodyPostM roundQ
set_option maxRecDepth 100000 in
theorem c_turned (b : Barn) (hs : b.Small) (t : Tur) : Ctr Try.prog 122 [barnT b, Ty.agg (TurE.tys t)] (Ty.tup [barnT (turnedB b t).1, Ty.int .i64 (turnedB b t).2]) := by
  refine fn_intro Try.func122 rfl (by decide) Try.ntmps122 (by exact Nat.le_of_ble_eq_true rfl) fun w0 M0 => ?_
  refine t_seq ?_
  refine t_region ?_
  refine r_box_agg rfl ?_
  refine r_box_agg rfl ?_
  refine r_alloc rfl (by exact List.cons_ne_nil _ _) rfl ?_
  refine asI rfl ?_
  refine r_nil ?_
  refine i_then ?_
  refine t_seq ?_
  refine t_block ?_
  refine t_seq ?_
  refine t_region ?_
  refine r_load_ppN rfl rfl rfl (by exact Nat.le_of_ble_eq_true rfl) ?_
  refine r_field_pp rfl rfl rfl rfl rfl (by decide) ?_
  refine r_load_pp rfl rfl rfl rfl ?_
  refine r_call (c_lot b hs _) rfl rfl rfl rfl rfl ?_
  refine r_not rfl ?_
  refine mvB rfl ?_
  apply r_guard (s := 13) rfl rfl rfl
  · intro hg; apply opT_of; (refine r_load_ppN rfl rfl rfl (by exact Nat.le_of_ble_eq_true rfl) ?_); refine r_nil ?_; exact rfl
  · exact rfl
  · exact rfl
  apply r_guard (s := 13) rfl rfl rfl
  · intro hg; apply opT_of; (refine r_field_pp rfl rfl rfl rfl rfl (by decide) ?_); refine r_nil ?_; exact rfl
  · exact rfl
  · exact rfl
  apply r_guard (s := 13) rfl rfl rfl
  · intro hg; apply opT_strip (s := 15) rfl (by (rw [hg]; rfl)); apply opT_of; (refine r_load_pp rfl rfl rfl rfl ?_); refine r_nil ?_; exact rfl
  · exact rfl
  · exact rfl
  apply r_guard (s := 13) rfl rfl rfl
  · intro hg; apply opT_strip (s := 14) rfl (by (rw [hg]; rfl)); apply opT_strip (s := 16) rfl (by (rw [hg]; rfl)); apply opT_of; (refine r_call (c_bin b hs _) rfl rfl rfl rfl rfl ?_); refine r_nil ?_; exact rfl
  · exact rfl
  · exact rfl
  apply r_guard (s := 13) rfl rfl rfl
  · intro hg; apply opT_strip (s := 17) rfl (by (rw [hg]; rfl)); apply opT_of; (refine r_not rfl ?_); refine r_nil ?_; exact rfl
  · exact rfl
  · exact rfl
  refine r_or rfl rfl ?_
  refine asB rfl ?_
  refine r_nil ?_
  refine i_then ?_
  refine t_cond rfl (fun hc1 => ?_) (fun hc1 => ?_)
  ·
    refine t_seq ?_
    refine t_region ?_
    refine r_build rfl rfl (by exact List.cons_ne_nil _ _) rfl (by repeat (exact (Parts.nil : Parts _ _ [] _))) (by exact (rfl : _ = some [_, _])) ?_
    refine r_storeN rfl rfl (by decide) rfl rfl rfl rfl rfl rfl ?_
    refine asI rfl ?_
    refine r_nil ?_
    refine i_then ?_
    refine t_ret ?_
    refine i_block_ret ?_
    refine i_then_ret ?_
    refine i_rcell2 rfl rfl rfl rfl rfl (by decide) rfl rfl rfl ?_ ?_
    all_goals skip
    all_goals first | exact ret_no (congrArg Prod.fst (turned_1 hc1)) | exact ret_eq rfl rfl (congrArg (fun z : Barn × Int => Ty.int .i64 z.2) (turned_1 hc1).symm)
  ·
    refine t_seq ?_
    refine t_region ?_
    refine r_load_ppN rfl rfl rfl (by exact Nat.le_of_ble_eq_true rfl) ?_
    refine r_field_pp rfl rfl rfl rfl rfl (by decide) ?_
    refine r_load_pp rfl rfl rfl rfl ?_
    refine r_call (c_free b _) rfl rfl rfl rfl rfl ?_
    refine r_not rfl ?_
    refine asB rfl ?_
    refine r_nil ?_
    refine i_then ?_
    refine t_cond rfl (fun hc2 => ?_) (fun hc2 => ?_)
    ·
      refine t_seq ?_
      refine t_region ?_
      refine r_build rfl rfl (by exact List.cons_ne_nil _ _) rfl (by repeat (exact (Parts.nil : Parts _ _ [] _))) (by exact (rfl : _ = some [_, _])) ?_
      refine r_storeN rfl rfl (by decide) rfl rfl rfl rfl rfl rfl ?_
      refine asI rfl ?_
      refine r_nil ?_
      refine i_then ?_
      refine t_ret ?_
      refine i_block_ret ?_
      refine i_then_ret ?_
      refine i_rcell2 rfl rfl rfl rfl rfl (by decide) rfl rfl rfl ?_ ?_
      all_goals skip
      all_goals first | exact ret_no (congrArg Prod.fst (turned_5 hc1 (not_b hc2))) | exact ret_eq rfl rfl (congrArg (fun z : Barn × Int => Ty.int .i64 z.2) (turned_5 hc1 (not_b hc2)).symm)
    ·
      refine t_seq ?_
      have hkn := known_rng hc1
      have hs1 := hs.lots
      refine t_region ?_
      refine r_load_ppN rfl rfl rfl (by exact Nat.le_of_ble_eq_true rfl) ?_
      refine r_field_pp rfl rfl rfl rfl rfl (by decide) ?_
      refine r_load_pp rfl rfl rfl rfl ?_
      refine r_field_pp rfl rfl rfl rfl rfl (by decide) ?_
      refine r_load_pp rfl rfl rfl rfl ?_
      refine r_call (c_holds b t.aim t.lot hkn.2 hkn.1) rfl rfl rfl rfl rfl ?_
      refine r_not rfl ?_
      refine asB rfl ?_
      refine r_nil ?_
      refine i_then ?_
      refine t_cond_ndec rfl (fun hc3 => ?_) (fun hc3 => ?_)
      ·
        refine t_seq ?_
        refine t_region ?_
        refine r_build rfl rfl (by exact List.cons_ne_nil _ _) rfl (by repeat (exact (Parts.nil : Parts _ _ [] _))) (by exact (rfl : _ = some [_, _])) ?_
        refine r_storeN rfl rfl (by decide) rfl rfl rfl rfl rfl rfl ?_
        refine asI rfl ?_
        refine r_nil ?_
        refine i_then ?_
        refine t_ret ?_
        refine i_block_ret ?_
        refine i_then_ret ?_
        refine i_rcell2 rfl rfl rfl rfl rfl (by decide) rfl rfl rfl ?_ ?_
        all_goals skip
        all_goals first | exact ret_no (congrArg Prod.fst (turned_9 hc1 (not_not_b hc2) (decide_eq_false hc3))) | exact ret_eq rfl rfl (congrArg (fun z : Barn × Int => Ty.int .i64 z.2) (turned_9 hc1 (not_not_b hc2) (decide_eq_false hc3)).symm)
      ·
        refine t_skip ?_
        refine i_block ?_
        refine i_then ?_
        refine t_seq ?_
        have hkn := known_rng hc1
        have hs1 := hs.lots
        refine t_region ?_
        refine r_field_pp rfl rfl rfl rfl rfl (by decide) ?_
        refine r_load_pp rfl rfl rfl rfl ?_
        refine r_len rfl rfl rfl ?_
        refine r_makeV (E := LotE) (x0 := ⟨0, 0, 0⟩) rfl rfl rfl rfl rfl rfl rfl (by decide) rfl (by omega) (by (dsimp only; omega)) (by omega) ?_
        refine asV rfl ?_
        refine r_nil ?_
        refine i_then ?_
        refine t_seq ?_
        refine t_region ?_
        refine mvV rfl ?_
        refine r_field_pp rfl rfl rfl rfl rfl (by decide) ?_
        refine r_load_pp rfl rfl rfl rfl ?_
        refine r_copyV rfl rfl rfl (by decide) rfl rfl rfl rfl (by (simp <;> omega)) (by omega) ?_
        refine r_nil ?_
        refine i_then ?_
        refine t_seq ?_
        refine t_asC (tg := 41) rfl (Cont.sub_vec (show b.lots ++ List.drop b.lots.length (List.replicate ((b.lots.length : Int)).toNat (⟨0, 0, 0⟩ : Lot)) = b.lots by rw [List.drop_of_length_le (by simp), List.append_nil])) ?_
        refine t_region ?_
        refine mvV rfl ?_
        refine r_field_pp rfl rfl rfl rfl rfl (by decide) ?_
        refine r_load_pp rfl rfl rfl rfl ?_
        refine r_field_pp rfl rfl rfl rfl rfl (by decide) ?_
        refine r_load_pp rfl rfl rfl rfl ?_
        refine r_index_vsI rfl rfl rfl rfl rfl hkn.1.1 (by omega) ?_
        refine r_field_ptr rfl rfl rfl rfl rfl (by decide) ?_
        refine r_store_vecC (E := LotE) (z := ⟨(nth b.lots t.lot.toNat).sacks, t.aim, (nth b.lots t.lot.toNat).aim⟩) rfl rfl rfl (by decide) rfl rfl (by exact (rfl : _ = Ty.int _ _)) rfl (by omega) (by decide) rfl rfl ?_
        refine r_nil ?_
        refine i_then ?_
        refine t_seq ?_
        refine t_pub (tg := 41) [(6, Ty.sl LotE (lotsTo b t))] (by decide) rfl ⟨pub_vs rfl rfl (by simp [lotsTo]) (by decide), trivial⟩ ?_
        refine t_region ?_
        refine r_field_pp rfl rfl rfl rfl rfl (by decide) ?_
        refine r_load_pp rfl rfl rfl rfl ?_
        refine mvS rfl ?_
        refine r_build rfl rfl (by exact List.cons_ne_nil _ _) rfl (by repeat (first | exact (Parts.nil : Parts _ _ [] _) | (show Parts _ _ ((_, _) :: _) _; apply Parts.one; (· exact (rfl : _ = Ty.sl _ _)); (· exact rfl)))) (by exact (rfl : _ = some [_, _])) ?_
        refine r_storeN rfl rfl (by decide) rfl rfl rfl rfl rfl rfl ?_
        refine asI rfl ?_
        refine r_nil ?_
        refine i_then ?_
        refine t_ret ?_
        refine i_rcell2 rfl rfl rfl rfl rfl (by decide) rfl rfl rfl ?_ ?_
        all_goals skip
        all_goals first | exact ret_eq rfl rfl (congrArg (fun z : Barn × Int => barnT z.1) (turned_0 hc1 (not_not_b hc2) (decide_eq_true (by omega))).symm) | exact ret_eq rfl rfl (congrArg (fun z : Barn × Int => Ty.int .i64 z.2) (turned_0 hc1 (not_not_b hc2) (decide_eq_true (by omega))).symm)
set_option maxRecDepth 100000 in
theorem c_done (b : Barn) (hs : b.Small) (plan : List Tur) (hp : plan.length ≤ 1000000) : Ctr Try.prog 81 [barnT b, Ty.sl TurE plan] (Ty.tup [barnT (doneV b plan).1, Ty.sl TurE (doneV b plan).2.1, Ty.int .i64 (doneV b plan).2.2]) := by
  refine fn_intro Try.func81 rfl (by decide) Try.ntmps81 (by exact Nat.le_of_ble_eq_true rfl) fun w0 M0 => ?_
  refine t_seq ?_
  refine t_region ?_
  refine r_box_agg rfl ?_
  refine r_alloc rfl (by exact List.cons_ne_nil _ _) rfl ?_
  refine asX rfl ?_
  refine asI rfl ?_
  refine r_nil ?_
  refine i_then ?_
  refine t_seq ?_
  refine t_seq ?_
  refine t_region ?_
  refine r_load_ppN rfl rfl rfl (by exact Nat.le_of_ble_eq_true rfl) ?_
  refine r_call (c_Check b hs) rfl rfl rfl rfl rfl ?_
  refine asI rfl ?_
  refine r_nil ?_
  refine i_then ?_
  refine t_seq ?_
  refine t_region ?_
  refine mvI rfl ?_
  refine r_bin rfl rfl rfl ?_
  refine r_nil ?_
  refine i_then ?_
  refine t_cond_ndec rfl (fun hc1 => ?_) (fun hc1 => ?_)
  ·
    refine t_seq ?_
    refine t_region ?_
    refine r_build rfl rfl (by exact List.cons_ne_nil _ _) rfl (by repeat (exact (Parts.nil : Parts _ _ [] _))) (by exact (rfl : _ = some [_, _])) ?_
    refine mvI rfl ?_
    refine r_storeN rfl rfl (by decide) rfl rfl rfl rfl rfl rfl ?_
    refine asX rfl ?_
    refine asI rfl ?_
    refine r_nil ?_
    refine i_then ?_
    refine t_ret ?_
    refine i_then_ret ?_
    refine i_rcell3 rfl rfl rfl rfl rfl rfl (by decide) rfl rfl rfl ?_ ?_ ?_
    all_goals skip
    all_goals first | exact ret_no (congrArg Prod.fst (doneV_bad hc1)) | exact ret_nil_eq (congrArg (fun z : Barn × List Tur × Int => z.2.1) (doneV_bad hc1)) | exact ret_eq rfl rfl (congrArg (fun z : Barn × List Tur × Int => Ty.int .i64 z.2.2) (doneV_bad hc1).symm)
  ·
    refine t_skip ?_
    refine i_then ?_
    refine t_seq ?_
    refine t_seq ?_
    refine t_region ?_
    refine mvS rfl ?_
    refine r_len rfl rfl rfl ?_
    refine r_bin rfl rfl rfl ?_
    refine r_nil ?_
    refine i_then ?_
    refine t_cond_dec rfl (fun hc2 => ?_) (fun hc2 => ?_)
    ·
      refine t_seq ?_
      refine t_region ?_
      refine r_build rfl rfl (by exact List.cons_ne_nil _ _) rfl (by repeat (exact (Parts.nil : Parts _ _ [] _))) (by exact (rfl : _ = some [_, _])) ?_
      refine r_storeN rfl rfl (by decide) rfl rfl rfl rfl rfl rfl ?_
      refine asX rfl ?_
      refine asI rfl ?_
      refine r_nil ?_
      refine i_then ?_
      refine t_ret ?_
      refine i_then_ret ?_
      refine i_rcell3 rfl rfl rfl rfl rfl rfl (by decide) rfl rfl rfl ?_ ?_ ?_
      all_goals skip
      all_goals first | exact ret_no (congrArg Prod.fst (doneV_long hc1 hc2)) | exact ret_nil_eq (congrArg (fun z : Barn × List Tur × Int => z.2.1) (doneV_long hc1 hc2)) | exact ret_eq rfl rfl (congrArg (fun z : Barn × List Tur × Int => Ty.int .i64 z.2.2) (doneV_long hc1 hc2).symm)
    ·
      refine t_skip ?_
      refine i_then ?_
      refine t_seq ?_
      refine t_region ?_
      refine asX rfl ?_
      refine r_nil ?_
      refine i_then ?_
      refine t_seq ?_
      refine t_draw mixed rfl ?_
      refine r_field_pp rfl rfl rfl rfl rfl (by decide) ?_
      refine r_load_pp rfl rfl rfl rfl ?_
      refine r_call (c_Clone_int b.sizes (by have := hs.sizes; omega)) rfl rfl rfl rfl rfl ?_
      refine r_field_pp rfl rfl rfl rfl rfl (by decide) ?_
      refine r_load_pp rfl rfl rfl rfl ?_
      refine r_call (c_Clone_lot b.lots (by have := hs.lots; omega)) rfl rfl rfl rfl rfl ?_
      refine r_build rfl rfl (by exact List.cons_ne_nil _ _) rfl (by repeat (first | exact (Parts.nil : Parts _ _ [] _) | (show Parts _ _ ((_, _) :: _) _; apply Parts.one; (· exact (rfl : _ = Ty.sl _ _)); (· exact rfl)))) (by exact (rfl : _ = some [_, _])) ?_
      refine r_alloc rfl (by exact List.cons_ne_nil _ _) rfl ?_
      refine r_storeN rfl rfl (by decide) rfl rfl rfl rfl rfl rfl ?_
      refine r_nil ?_
      refine ⟨by kernel_rfl, ?_⟩
      refine i_then ?_
      refine t_seq ?_
      refine t_seq ?_
      refine t_region ?_
      refine mvS rfl ?_
      refine r_len rfl rfl rfl ?_
      refine mvI rfl ?_
      refine r_nil ?_
      refine i_then ?_
      refine t_block ?_
      refine t_loop (fun (x : {x : Nat × Barn × List Tur // DIx b plan x.1 x.2.1 x.2.2}) => live [(4, Ty.ptr 5 0), (8, Ty.row TurE 55 60 x.1.2.2), (9, Ty.ptr 10 0), (31, Ty.sl TurE plan), (32, Ty.int .i64 plan.length), (33, Ty.int .i64 (x.1.1 : Nat))] [(5, Cont.cells 25 [Ty.ex (.slice none 0 0), Ty.ex (.slice none 0 0)]), (10, Cont.cells 25 (barnTys x.1.2.1))]) (fun x => plan.length - x.1.1) (⟨(0, b, []), dix0 b plan⟩) ?_ fun x => ?_
      · (refine Ent.mk' ?_ ?_ <;> (repeat' (first | exact allSub_zero | exact allTags_nil | refine allSub_succ' ?_ (Ty.sub_any _) | refine allSub_succ' ?_ (Ty.sub_refl _) | refine allSub_succ' ?_ Ty.nil_row | refine allTags_cons rfl (Cont.sub_refl _) ?_)))
      ·
        have hxl := x.2.len
        refine t_seq ?_
        refine t_region ?_
        refine r_bin rfl rfl rfl ?_
        refine r_nil ?_
        refine i_then ?_
        refine t_seq ?_
        refine t_cond_dec rfl (fun hc3 => ?_) (fun hc3 => ?_)
        ·
          refine t_skip ?_
          refine i_then ?_
          refine t_seq ?_
          refine t_block ?_
          refine t_seq ?_
          refine t_region ?_
          refine r_index_slN rfl rfl rfl rfl rfl rfl (by omega) ?_
          refine r_load_ppN rfl rfl rfl (by exact Nat.le_of_ble_eq_true rfl) ?_
          refine r_alloc rfl (by exact List.cons_ne_nil _ _) rfl ?_
          refine r_storeN rfl rfl (by decide) rfl rfl rfl rfl rfl rfl ?_
          refine r_nil ?_
          refine i_then ?_
          refine t_seq ?_
          refine t_region ?_
          refine r_load_ptrN rfl rfl (by decide) rfl rfl (by exact Nat.le_of_ble_eq_true rfl) ?_
          refine r_load_ptrN rfl rfl (by decide) rfl rfl (by exact Nat.le_of_ble_eq_true rfl) ?_
          refine r_call (c_turned x.1.2.1 (x.2.small hs) (nth plan x.1.1)) rfl rfl rfl rfl rfl ?_
          refine mvT rfl ?_
          refine r_extract rfl rfl ?_
          refine r_extract rfl rfl ?_
          refine r_alloc rfl (by exact List.cons_ne_nil _ _) rfl ?_
          refine r_storeN rfl rfl (by decide) rfl rfl rfl rfl rfl rfl ?_
          refine asI rfl ?_
          refine r_nil ?_
          refine i_then ?_
          refine t_seq ?_
          refine t_seq ?_
          refine t_region ?_
          refine mvI rfl ?_
          refine r_bin rfl rfl rfl ?_
          refine r_nil ?_
          refine i_then ?_
          refine t_cond_ndec rfl (fun hc4 => ?_) (fun hc4 => ?_)
          ·
            refine t_seq ?_
            refine t_region ?_
            refine r_build rfl rfl (by exact List.cons_ne_nil _ _) rfl (by repeat (exact (Parts.nil : Parts _ _ [] _))) (by exact (rfl : _ = some [_, _])) ?_
            refine mvI rfl ?_
            refine r_storeN rfl rfl (by decide) rfl rfl rfl rfl rfl rfl ?_
            refine asX rfl ?_
            refine asI rfl ?_
            refine r_nil ?_
            refine i_then ?_
            refine t_ret ?_
            refine i_then_ret ?_
            refine i_block_ret ?_
            refine i_then_ret ?_
            refine i_then_ret ?_
            refine i_block_ret ?_
            refine i_then_ret ?_
            refine i_rcell3 rfl rfl rfl rfl rfl rfl (by decide) rfl rfl rfl ?_ ?_ ?_
            all_goals skip
            all_goals first | exact ret_no (congrArg Prod.fst (doneV_go hc1 hc2 (x.2.stop (by omega) hc4))) | exact ret_nil_eq (congrArg (fun z : Barn × List Tur × Int => z.2.1) (doneV_go hc1 hc2 (x.2.stop (by omega) hc4))) | exact ret_eq rfl rfl (congrArg (fun z : Barn × List Tur × Int => Ty.int .i64 z.2.2) (doneV_go hc1 hc2 (x.2.stop (by omega) hc4)).symm)
          ·
            refine t_skip ?_
            refine i_then ?_
            refine t_seq ?_
            obtain ⟨hk1, hk2, hk3, hk4, hk5⟩ := turned_err hc4
            refine t_draw mixed rfl ?_
            refine mvR rfl ?_
            refine r_field_ptr rfl rfl rfl rfl rfl (by decide) ?_
            refine r_load_ptr rfl rfl (by decide) rfl rfl rfl ?_
            refine r_field_ptr rfl rfl rfl rfl rfl (by decide) ?_
            refine r_load_ptr rfl rfl (by decide) rfl rfl rfl ?_
            refine r_field_ptr rfl rfl rfl rfl rfl (by decide) ?_
            refine r_load_ptr rfl rfl (by decide) rfl rfl rfl ?_
            refine r_index_sl rfl rfl rfl rfl rfl rfl hk1.1 (by omega) ?_
            refine r_field_pp rfl rfl rfl rfl rfl (by decide) ?_
            refine r_load_pp rfl rfl rfl rfl ?_
            refine r_build rfl rfl (by exact List.cons_ne_nil _ _) rfl (by repeat (first | exact (Parts.nil : Parts _ _ [] _) | (show Parts _ _ ((_, _) :: _) _; apply Parts.one; (· exact (rfl : _ = Ty.int _ _)); (· exact rfl)))) (by exact (rfl : _ = some [_, _])) ?_
            refine r_buildSlice (E := TurE) (xs := [⟨(nth plan x.1.1).lot, (nth x.1.2.1.lots (nth plan x.1.1).lot.toNat).inn⟩]) rfl rfl rfl rfl rfl (by decide) (by decide) (by repeat (first | exact (Parts.nil : Parts _ _ [] _) | (show Parts _ _ ((_, _) :: _) _; apply Parts.agg; (· exact (rfl : _ = Ty.agg _))))) (by exact rfl) rfl ?_
            refine r_append rfl rfl (by decide) rfl rfl rfl rfl rfl rfl (by decide) (by (simp <;> omega)) (by (simp <;> omega)) ?_
            refine asR rfl ?_
            refine r_nil ?_
            refine ⟨by kernel_rfl, ?_⟩
            refine i_then ?_
            refine t_region ?_
            refine r_load_ptrN rfl rfl (by decide) rfl rfl (by exact Nat.le_of_ble_eq_true rfl) ?_
            refine r_storeN rfl rfl (by decide) rfl rfl rfl rfl rfl rfl ?_
            refine r_nil ?_
            refine i_block ?_
            refine i_then ?_
            refine t_region ?_
            refine r_add rfl rfl (by omega) (by omega) ?_
            refine mvI rfl ?_
            refine r_nil ?_
            refine i_round (⟨(x.1.1 + 1, (turnedB x.1.2.1 (nth plan x.1.1)).1, x.1.2.2 ++ [⟨(nth plan x.1.1).lot, (nth x.1.2.1.lots (nth plan x.1.1).lot.toNat).inn⟩]), x.2.next (by omega) hc4⟩) ?_ (by show plan.length - (x.1.1 + 1) < plan.length - x.1.1; omega)
            (refine Ent.mk' ?_ ?_ <;> (repeat' (first | exact allSub_zero | exact allTags_nil | refine allSub_succ' ?_ (Ty.sub_any _) | refine allSub_succ' ?_ (Ty.sub_refl _) | refine allTags_cons rfl (Cont.sub_refl _) ?_)))
            all_goals skip
        ·
          refine t_exit ?_
          refine i_then_exit ?_
          refine i_then_exit ?_
          refine i_block_exit rfl ?_
          refine i_then ?_
          refine t_seq ?_
          have hxe := x.2.le
          refine t_own (s := 8) rfl rfl ?_
          refine t_region ?_
          refine mvV rfl ?_
          refine r_callG [(60, 1000)] [] [(60, Cont.vec TurE 55 x.1.2.2.reverse)] (c_Reverse_tur x.1.2.2 (by omega)) rfl rfl (by repeat (first | exact cv_nil | refine cv_cons ?_ ?_ | exact cv_vs List.mem_cons_self)) (pre_cons (a := 60) (b := 1000) (by exact List.mem_cons_self) rfl (cc_vec (by exact List.mem_cons_self) rfl) pre_nil) (post_cons (a := 60) (b := 1000) (by exact List.mem_cons_self) rfl (cc_vec (by exact List.mem_cons_self) rfl) post_nil) (cv_pub rfl rfl) ?_
          refine r_nil ?_
          refine i_then ?_
          refine t_seq ?_
          refine t_pub (tg := 60) [(8, Ty.sl TurE x.1.2.2.reverse)] (by decide) rfl ⟨pub_vs rfl rfl (by rw [List.length_reverse]) (by decide), trivial⟩ ?_
          refine t_region ?_
          refine r_load_ptrN rfl rfl (by decide) rfl rfl (by exact Nat.le_of_ble_eq_true rfl) ?_
          refine mvS rfl ?_
          refine r_storeN rfl rfl (by decide) rfl rfl rfl rfl rfl rfl ?_
          refine asS rfl ?_
          refine asI rfl ?_
          refine r_nil ?_
          refine i_then ?_
          refine t_ret ?_
          refine i_rcell3 rfl rfl rfl rfl rfl rfl (by decide) rfl rfl rfl ?_ ?_ ?_
          all_goals skip
          all_goals first | exact ret_eq rfl rfl (congrArg (fun z : Barn × List Tur × Int => barnT z.1) (doneV_go hc1 hc2 (x.2.end (by omega))).symm) | exact ret_eq rfl rfl (congrArg (fun z : Barn × List Tur × Int => Ty.sl TurE z.2.1) (doneV_go hc1 hc2 (x.2.end (by omega))).symm) | exact ret_eq rfl rfl (congrArg (fun z : Barn × List Tur × Int => Ty.int .i64 z.2.2) (doneV_go hc1 hc2 (x.2.end (by omega))).symm)
set_option maxRecDepth 100000 in
theorem c_right1 (l : Lot) : Ctr Try.prog 124 [Ty.agg (LotE.tys l)] (Ty.bool (decide (l.aim = -1) || decide (l.aim = l.inn))) := by
  refine fn_intro Try.func124 rfl (by decide) Try.ntmps124 (by exact Nat.le_of_ble_eq_true rfl) fun w0 M0 => ?_
  refine t_seq ?_
  refine t_region ?_
  refine r_box_agg rfl ?_
  refine asB rfl ?_
  refine r_nil ?_
  refine i_then ?_
  refine t_seq ?_
  refine t_region ?_
  refine r_field_pp rfl rfl rfl rfl rfl (by decide) ?_
  refine r_load_pp rfl rfl rfl rfl ?_
  refine r_bin rfl rfl rfl ?_
  refine mvB rfl ?_
  apply r_guard (s := 6) rfl rfl rfl
  · intro hg; apply opT_of; (refine r_field_pp rfl rfl rfl rfl rfl (by decide) ?_); refine r_nil ?_; exact rfl
  · exact rfl
  · exact rfl
  apply r_guard (s := 6) rfl rfl rfl
  · intro hg; apply opT_strip (s := 7) rfl (by (rw [hg]; rfl)); apply opT_of; (refine r_load_pp rfl rfl rfl rfl ?_); refine r_nil ?_; exact rfl
  · exact rfl
  · exact rfl
  apply r_guard (s := 6) rfl rfl rfl
  · intro hg; apply opT_of; (refine r_field_pp rfl rfl rfl rfl rfl (by decide) ?_); refine r_nil ?_; exact rfl
  · exact rfl
  · exact rfl
  apply r_guard (s := 6) rfl rfl rfl
  · intro hg; apply opT_strip (s := 9) rfl (by (rw [hg]; rfl)); apply opT_of; (refine r_load_pp rfl rfl rfl rfl ?_); refine r_nil ?_; exact rfl
  · exact rfl
  · exact rfl
  apply r_guard (s := 6) rfl rfl rfl
  · intro hg; apply opT_strip (s := 8) rfl (by (rw [hg]; rfl)); apply opT_strip (s := 10) rfl (by (rw [hg]; rfl)); apply opT_of; (refine r_bin rfl rfl rfl ?_); refine r_nil ?_; exact rfl
  · exact rfl
  · exact rfl
  refine r_or rfl rfl ?_
  refine asB rfl ?_
  refine r_nil ?_
  refine i_then ?_
  refine t_ret ?_
  refine i_rp1 rfl rfl ?_
  all_goals exact ret_refl rfl rfl
set_option maxRecDepth 100000 in
theorem c_right (b : Barn) : Ctr Try.prog 82 [barnT b] (Ty.bool (rightB b)) := by
  refine fn_intro Try.func82 rfl (by decide) Try.ntmps82 (by exact Nat.le_of_ble_eq_true rfl) fun w0 M0 => ?_
  refine t_seq ?_
  refine t_region ?_
  refine r_box_agg rfl ?_
  refine asB rfl ?_
  refine r_nil ?_
  refine i_then ?_
  refine t_seq ?_
  refine t_region ?_
  refine r_field_pp rfl rfl rfl rfl rfl (by decide) ?_
  refine r_load_pp rfl rfl rfl rfl ?_
  refine r_call (c_every_lot b.lots (Ty.clo 124 []) rfl (fun l => decide (l.aim = -1) || decide (l.aim = l.inn)) rfl rfl fun x _ => cal_clo (c_right1 x) rfl rfl rfl rfl rfl rfl) rfl rfl rfl rfl rfl ?_
  refine asB rfl ?_
  refine r_nil ?_
  refine i_then ?_
  refine t_ret ?_
  refine i_rp1 rfl rfl ?_
  all_goals exact ret_refl rfl rfl
set_option maxRecDepth 100000 in
theorem c_Makes (b : Barn) (hs : b.Small) (plan : List Tur) (hp : plan.length ≤ 1000000) : Ctr Try.prog 31 [barnT b, Ty.sl TurE plan] (Ty.tup [Ty.bool (makesB b plan), Ty.int .i64 (doneV b plan).2.2]) := by
  refine fn_intro Try.func31 rfl (by decide) Try.ntmps31 (by exact Nat.le_of_ble_eq_true rfl) fun w0 M0 => ?_
  refine t_seq ?_
  refine t_region ?_
  refine r_box_agg rfl ?_
  refine asB rfl ?_
  refine asI rfl ?_
  refine r_nil ?_
  refine i_then ?_
  refine t_seq ?_
  refine t_region ?_
  refine r_load_ppN rfl rfl rfl (by exact Nat.le_of_ble_eq_true rfl) ?_
  refine mvS rfl ?_
  refine r_call (c_done b hs plan hp) rfl rfl rfl rfl rfl ?_
  refine mvT rfl ?_
  refine r_extract rfl rfl ?_
  refine r_extract rfl rfl ?_
  refine r_extract rfl rfl ?_
  refine r_alloc rfl (by exact List.cons_ne_nil _ _) rfl ?_
  refine r_storeN rfl rfl (by decide) rfl rfl rfl rfl rfl rfl ?_
  refine asS rfl ?_
  refine asI rfl ?_
  refine r_nil ?_
  refine i_then ?_
  refine t_seq ?_
  refine t_region ?_
  refine mvI rfl ?_
  refine r_bin rfl rfl rfl ?_
  refine mvB rfl ?_
  apply r_guard (s := 18) rfl rfl rfl
  · intro hg; apply opT_of; (refine r_load_ptrN rfl rfl (by decide) rfl rfl (by exact Nat.le_of_ble_eq_true rfl) ?_); refine r_nil ?_; exact rfl
  · exact rfl
  · exact rfl
  apply r_guard (s := 18) rfl rfl rfl
  · intro hg; apply opT_strip (s := 19) rfl (by (rw [hg]; rfl)); apply opT_of; (refine r_call (c_right _) rfl rfl rfl rfl rfl ?_); refine r_nil ?_; exact rfl
  · exact rfl
  · exact rfl
  refine r_and rfl rfl ?_
  refine mvI rfl ?_
  refine asB rfl ?_
  refine asI rfl ?_
  refine r_nil ?_
  refine i_then ?_
  refine t_ret ?_
  refine i_rp2 rfl rfl rfl ?_ ?_
  all_goals exact ret_refl rfl rfl
end Go.Proofs.Ytpnndljmhpepgaa

namespace Go.Proofs.Ytpnndljmhpepgaa
open Go Go.T
def three (l : List Int) : Barn := ⟨[50, 50, 50] ++ l, [⟨30, 0, 1⟩, ⟨20, 1, 0⟩, ⟨40, 2, 2⟩]⟩
def okRun (b : Barn) (c : Tur → Int) (all : Bool) (n : Nat) (P : Found → Bool) : Bool := match runN b c all n (st0 b) with
  | some f => P f
  | none => false
theorem run_ok {b : Barn} {c : Tur → Int} {all : Bool} {n : Nat} {P : Found → Bool} (h : okRun b c all n P = true) : P (searchM b c all) = true := by
  unfold okRun at h
  cases e : runN b c all n (st0 b) with
  | none => rw [e] at h; cases h
  | some f => rw [e] at h; rw [searchM_eq ⟨n, e⟩]; exact h
def okRunR (b : Barn) (g : Int) (n : Nat) (P : Found → Bool) : Bool := match runR b g n (rst0 b) with
  | some f => P f
  | none => false
theorem runR_ok {b : Barn} {g : Int} {n : Nat} {P : Found → Bool} (h : okRunR b g n P = true) : P (roundsM b g) = true := by
  unfold okRunR at h
  cases e : runR b g n (rst0 b) with
  | none => rw [e] at h; cases h
  | some f => rw [e] at h; rw [roundsM_eq ⟨n, e⟩]; exact h
theorem three_ok1 : checkB (three [50]) = 0 := by decide
theorem three_ok2 : checkB (three [15]) = 0 := by decide
theorem ex1 : okRun (three [50]) oneC false 100 (fun f => f.is && decide (((mget f.ways f.last).getD way0).all = 3)) = true := by kernel_rfl
theorem ex2 : okRun (three [50]) (sackC (three [50])) false 400 (fun f => f.is && decide (((mget f.ways f.last).getD way0).all = 70)) = true := by kernel_rfl
theorem ex3 : okRun (three [15]) oneC false 100 (fun f => !f.is) = true := by kernel_rfl
theorem ex4 : okRun (three [15]) oneC true 100 (fun f => decide (f.ways.length = 1)) = true := by kernel_rfl
def chainF (ways : List (Pl × Way)) (first : Pl) : Nat → Pl → Option (List (List Tur))
  | 0, p => if p = first then some [] else none
  | n + 1, p => if p = first then some [] else match mget ways p with
    | none => none
    | some w => (chainF ways first n w.frm).map fun A => A ++ [w.byT]
theorem chainF_spec {ways : List (Pl × Way)} {first : Pl} : ∀ {n : Nat} {p : Pl} {A : List (List Tur)}, chainF ways first n p = some A → Chain ways first p A
  | 0, p, A, h => by
    unfold chainF at h
    by_cases e : p = first
    · rw [if_pos e] at h; injection h with h; subst h; subst e; exact .nil
    · rw [if_neg e] at h; cases h
  | n + 1, p, A, h => by
    unfold chainF at h
    by_cases e : p = first
    · rw [if_pos e] at h; injection h with h; subst h; subst e; exact .nil
    · rw [if_neg e] at h
      cases hw : mget ways p with
      | none => rw [hw] at h; cases h
      | some w =>
        rw [hw] at h
        obtain ⟨B, hB, rfl⟩ := Option.map_eq_some_iff.1 h
        exact .snoc e hw (chainF_spec hB)
def lenIs (b : Barn) (f : Found) (n : Nat) : Bool := match chainF f.ways (firstP b) 20 f.last with
  | some A => decide (A.length = n)
  | none => false
theorem lenIs_spec {b : Barn} {f : Found} {n : Nat} (h : lenIs b f n = true) : (chainM f.ways (firstP b) f.last).length = n := by
  unfold lenIs at h
  cases e : chainF f.ways (firstP b) 20 f.last with
  | none => rw [e] at h; cases h
  | some A => rw [e] at h; rw [chainM_spec (chainF_spec e)]; exact of_decide_eq_true h
theorem ex5 : okRunR (three [50, 50]) 2 200 (fun f => f.is && lenIs (three [50, 50]) f 2) = true := by kernel_rfl
theorem two_of {a b : Bool} (h : (a && b) = true) : a = true ∧ b = true := by simpa using h
theorem aw1 : costR (three [50]) oneC = 3 := by
  have h := two_of (run_ok ex1)
  unfold costR costV; rw [if_pos three_ok1, if_pos h.1]; exact of_decide_eq_true h.2
theorem aw2 : planE (three [50]) oneC = 0 := by
  have h := two_of (run_ok ex1)
  unfold planE; rw [if_pos three_ok1, if_pos h.1]
theorem aw3 : costR (three [50]) (sackC (three [50])) = 70 := by
  have h := two_of (run_ok ex2)
  unfold costR costV; rw [if_pos three_ok1, if_pos h.1]; exact of_decide_eq_true h.2
theorem aw4 : planE (three [50]) (sackC (three [50])) = 0 := by
  have h := two_of (run_ok ex2)
  unfold planE; rw [if_pos three_ok1, if_pos h.1]
theorem aw5 : planE (three [15]) oneC = 7 := by
  have h := run_ok ex3
  unfold planE; rw [if_pos three_ok2, if_neg (by simpa using h)]
theorem aw6 : placesV (three [15]) = 1 := by
  have h := run_ok ex4
  unfold placesV; rw [if_pos three_ok2, of_decide_eq_true h]; rfl
theorem aw7 : showV (three [50]) [[1, 0]] = (3, 0) := by kernel_rfl
theorem aw8 : ((roundsV (three [50, 50]) 2).length : Int) = 2 := by
  have h := two_of (runR_ok ex5)
  have ha : askE (three [50, 50]) 2 = 0 := by decide
  unfold roundsV; rw [if_pos ha, if_pos h.1, lenIs_spec h.2]; rfl
theorem aw9 : roundsE (three [50, 50]) 2 = 0 := by
  have h := two_of (runR_ok ex5)
  have ha : askE (three [50, 50]) 2 = 0 := by decide
  unfold roundsE; rw [if_pos ha, if_pos h.1]
def exPlan : List Tur := [⟨1, 3⟩, ⟨0, 1⟩, ⟨1, 0⟩]
theorem aw10 : makesB (three [25]) exPlan = true := by kernel_rfl
theorem aw11 : (doneV (three [25]) exPlan).2.2 = 0 := by kernel_rfl
theorem three_small {l : List Int} (h : l.length ≤ 9) : (three l).Small := ⟨by show ([50, 50, 50] ++ l).length ≤ 12; rw [List.length_append]; simp; omega, by show 3 ≤ 10; decide⟩
end Go.Proofs.Ytpnndljmhpepgaa

namespace Go.Proofs.Ytpnndljmhpepgaa
open Go Go.T
set_option maxHeartbeats 4000000
attribute [local irreducible] costR planE placesV showV roundsV roundsE makesB doneV planR sackC
attribute [local irreducible] dInt dBool dSl dPp dPtr dAgg dTup dClo dAny dEx dStr dGd dCells dVec dVs dRow dOp nth Tri Into TOps Ctr bodyPost Exit.then Exit.inBlock Code.wp Code.wpIn dWhen dPa dPe dAo dArr dMp dPm dMap dCJ CtrG CtrI OpY keepPost iterPost bodyPostM roundQ
set_option maxRecDepth 100000 in
theorem c_Three (l : List Int) (h : l.length ≤ 9) : Ctr Try.prog 67 [Ty.sl I64 l] (barnT (three l)) := by
  refine fn_intro Try.func67 rfl (by decide) Try.ntmps67 (by exact Nat.le_of_ble_eq_true rfl) fun w0 M0 => ?_
  refine t_seq ?_
  refine t_region ?_
  refine r_alloc rfl (by exact List.cons_ne_nil _ _) rfl ?_
  refine r_nil ?_
  refine i_then ?_
  refine t_seq ?_
  refine t_region ?_
  refine r_buildRowN (E := I64) (xs := [50, 50, 50]) rfl rfl rfl rfl rfl (by decide) (by decide) (by repeat (first | exact (Parts.nil : Parts _ _ [] _) | (show Parts _ _ ((_, _) :: _) _; apply Parts.one; (· exact (rfl : _ = Ty.int _ _)); (· exact rfl)))) (by exact rfl) rfl rfl ?_
  refine mvS rfl ?_
  refine r_append rfl rfl (by decide) rfl rfl rfl rfl rfl rfl (by decide) (by (simp <;> omega)) (by (simp <;> omega)) ?_
  refine r_build rfl rfl (by exact List.cons_ne_nil _ _) rfl (by repeat (first | exact (Parts.nil : Parts _ _ [] _) | (show Parts _ _ ((_, _) :: _) _; apply Parts.one; (· exact (rfl : _ = Ty.int _ _)); (· exact rfl)))) (by exact (rfl : _ = some [_, _, _])) ?_
  refine r_build rfl rfl (by exact List.cons_ne_nil _ _) rfl (by repeat (first | exact (Parts.nil : Parts _ _ [] _) | (show Parts _ _ ((_, _) :: _) _; apply Parts.one; (· exact (rfl : _ = Ty.int _ _)); (· exact rfl)))) (by exact (rfl : _ = some [_, _, _])) ?_
  refine r_build rfl rfl (by exact List.cons_ne_nil _ _) rfl (by repeat (first | exact (Parts.nil : Parts _ _ [] _) | (show Parts _ _ ((_, _) :: _) _; apply Parts.one; (· exact (rfl : _ = Ty.int _ _)); (· exact rfl)))) (by exact (rfl : _ = some [_, _, _])) ?_
  refine r_buildSlice (E := LotE) (xs := [⟨30, 0, 1⟩, ⟨20, 1, 0⟩, ⟨40, 2, 2⟩]) rfl rfl rfl rfl rfl (by decide) (by decide) (by repeat (first | exact (Parts.nil : Parts _ _ [] _) | (show Parts _ _ ((_, _) :: _) _; apply Parts.agg; (· exact (rfl : _ = Ty.agg _))))) (by exact rfl) rfl ?_
  refine r_build rfl rfl (by exact List.cons_ne_nil _ _) rfl (by repeat (first | exact (Parts.nil : Parts _ _ [] _) | (show Parts _ _ ((_, _) :: _) _; apply Parts.one; (· first | exact (rfl : _ = Ty.sl _ _) | exact (rfl : _ = Ty.row _ _ _ _)); (· exact rfl)))) (by exact (rfl : _ = some [_, _])) ?_
  refine r_storeN rfl rfl (by decide) rfl rfl rfl rfl rfl rfl ?_
  refine r_nil ?_
  refine i_then ?_
  refine t_ret ?_
  refine i_rcell rfl rfl rfl rfl (by decide) rfl rfl rfl ?_
  exact ret_agg ⟨ret_row_eq (by decide) rfl, ret_eq rfl rfl rfl, trivial⟩
set_option maxRecDepth 100000 in
theorem c_awake : Ctr Try.prog 14 [] (Ty.bool true) := by
  refine fn_intro Try.func14 rfl (by decide) Try.ntmps14 (by exact Nat.le_of_ble_eq_true rfl) fun w0 M0 => ?_
  refine t_seq ?_
  refine t_region ?_
  refine asB rfl ?_
  refine r_nil ?_
  refine i_then ?_
  refine t_seq ?_
  refine t_region ?_
  refine r_buildSlice (E := I64) (xs := [_]) rfl rfl rfl rfl rfl (by decide) (by decide) (by repeat (first | exact (Parts.nil : Parts _ _ [] _) | (show Parts _ _ ((_, _) :: _) _; apply Parts.one; (· exact (rfl : _ = Ty.int _ _)); (· exact rfl)))) (by exact rfl) rfl ?_
  refine r_call (c_Three [50] (by decide)) rfl rfl rfl rfl rfl ?_
  refine r_call (c_Fewest (three [50]) (three_small (by decide))) rfl rfl rfl rfl rfl ?_
  refine mvT rfl ?_
  refine r_extract rfl rfl ?_
  refine r_extract rfl rfl ?_
  refine asI rfl ?_
  refine asI rfl ?_
  refine r_nil ?_
  refine i_then ?_
  refine t_seq ?_
  refine t_region ?_
  refine r_buildSlice (E := I64) (xs := [_]) rfl rfl rfl rfl rfl (by decide) (by decide) (by repeat (first | exact (Parts.nil : Parts _ _ [] _) | (show Parts _ _ ((_, _) :: _) _; apply Parts.one; (· exact (rfl : _ = Ty.int _ _)); (· exact rfl)))) (by exact rfl) rfl ?_
  refine r_call (c_Three [50] (by decide)) rfl rfl rfl rfl rfl ?_
  refine r_call (c_Lightest (three [50]) (three_small (by decide))) rfl rfl rfl rfl rfl ?_
  refine mvT rfl ?_
  refine r_extract rfl rfl ?_
  refine r_extract rfl rfl ?_
  refine r_extract rfl rfl ?_
  refine asS rfl ?_
  refine asI rfl ?_
  refine asI rfl ?_
  refine r_nil ?_
  refine i_then ?_
  refine t_seq ?_
  refine t_region ?_
  refine r_buildSlice (E := I64) (xs := [_]) rfl rfl rfl rfl rfl (by decide) (by decide) (by repeat (first | exact (Parts.nil : Parts _ _ [] _) | (show Parts _ _ ((_, _) :: _) _; apply Parts.one; (· exact (rfl : _ = Ty.int _ _)); (· exact rfl)))) (by exact rfl) rfl ?_
  refine r_call (c_Three [15] (by decide)) rfl rfl rfl rfl rfl ?_
  refine r_call (c_Fewest (three [15]) (three_small (by decide))) rfl rfl rfl rfl rfl ?_
  refine mvT rfl ?_
  refine r_extract rfl rfl ?_
  refine r_extract rfl rfl ?_
  refine asI rfl ?_
  refine asI rfl ?_
  refine r_nil ?_
  refine i_then ?_
  refine t_seq ?_
  refine t_region ?_
  refine r_buildSlice (E := I64) (xs := [_]) rfl rfl rfl rfl rfl (by decide) (by decide) (by repeat (first | exact (Parts.nil : Parts _ _ [] _) | (show Parts _ _ ((_, _) :: _) _; apply Parts.one; (· exact (rfl : _ = Ty.int _ _)); (· exact rfl)))) (by exact rfl) rfl ?_
  refine r_call (c_Three [15] (by decide)) rfl rfl rfl rfl rfl ?_
  refine r_call (c_Places (three [15]) (three_small (by decide))) rfl rfl rfl rfl rfl ?_
  refine mvT rfl ?_
  refine r_extract rfl rfl ?_
  refine r_extract rfl rfl ?_
  refine asI rfl ?_
  refine asI rfl ?_
  refine r_nil ?_
  refine i_then ?_
  refine t_seq ?_
  refine t_region ?_
  refine r_buildSlice (E := I64) (xs := [_]) rfl rfl rfl rfl rfl (by decide) (by decide) (by repeat (first | exact (Parts.nil : Parts _ _ [] _) | (show Parts _ _ ((_, _) :: _) _; apply Parts.one; (· exact (rfl : _ = Ty.int _ _)); (· exact rfl)))) (by exact rfl) rfl ?_
  refine r_call (c_Three [50] (by decide)) rfl rfl rfl rfl rfl ?_
  refine r_buildSlice (E := I64) (xs := [_, _]) rfl rfl rfl rfl rfl (by decide) (by decide) (by repeat (first | exact (Parts.nil : Parts _ _ [] _) | (show Parts _ _ ((_, _) :: _) _; apply Parts.one; (· exact (rfl : _ = Ty.int _ _)); (· exact rfl)))) (by exact rfl) rfl ?_
  refine r_buildSlice (E := RowE) (xs := [[1, 0]]) rfl rfl rfl rfl rfl (by decide) (by decide) (by repeat (first | exact (Parts.nil : Parts _ _ [] _) | (show Parts _ _ ((_, _) :: _) _; apply Parts.one; (· exact (rfl : _ = Ty.sl _ _)); (· exact rfl)))) (by exact rfl) rfl ?_
  refine r_call (c_Shows (three [50]) (three_small (by decide)) [[1, 0]] (by decide) (by decide)) rfl rfl rfl rfl rfl ?_
  refine mvT rfl ?_
  refine r_extract rfl rfl ?_
  refine r_extract rfl rfl ?_
  refine asI rfl ?_
  refine asI rfl ?_
  refine r_nil ?_
  refine i_then ?_
  refine t_seq ?_
  refine t_region ?_
  refine r_buildSlice (E := I64) (xs := [_, _]) rfl rfl rfl rfl rfl (by decide) (by decide) (by repeat (first | exact (Parts.nil : Parts _ _ [] _) | (show Parts _ _ ((_, _) :: _) _; apply Parts.one; (· exact (rfl : _ = Ty.int _ _)); (· exact rfl)))) (by exact rfl) rfl ?_
  refine r_call (c_Three [50, 50] (by decide)) rfl rfl rfl rfl rfl ?_
  refine r_call (c_Least (three [50, 50]) (three_small (by decide)) 2) rfl rfl rfl rfl rfl ?_
  refine mvT rfl ?_
  refine r_extract rfl rfl ?_
  refine r_extract rfl rfl ?_
  refine asI rfl ?_
  refine asI rfl ?_
  refine r_nil ?_
  refine i_then ?_
  refine t_seq ?_
  refine t_region ?_
  refine r_buildSlice (E := I64) (xs := [_]) rfl rfl rfl rfl rfl (by decide) (by decide) (by repeat (first | exact (Parts.nil : Parts _ _ [] _) | (show Parts _ _ ((_, _) :: _) _; apply Parts.one; (· exact (rfl : _ = Ty.int _ _)); (· exact rfl)))) (by exact rfl) rfl ?_
  refine r_call (c_Three [25] (by decide)) rfl rfl rfl rfl rfl ?_
  refine r_build rfl rfl (by exact List.cons_ne_nil _ _) rfl (by repeat (first | exact (Parts.nil : Parts _ _ [] _) | (show Parts _ _ ((_, _) :: _) _; apply Parts.one; (· exact (rfl : _ = Ty.int _ _)); (· exact rfl)))) (by exact (rfl : _ = some [_, _])) ?_
  refine r_build rfl rfl (by exact List.cons_ne_nil _ _) rfl (by repeat (first | exact (Parts.nil : Parts _ _ [] _) | (show Parts _ _ ((_, _) :: _) _; apply Parts.one; (· exact (rfl : _ = Ty.int _ _)); (· exact rfl)))) (by exact (rfl : _ = some [_, _])) ?_
  refine r_build rfl rfl (by exact List.cons_ne_nil _ _) rfl (by repeat (first | exact (Parts.nil : Parts _ _ [] _) | (show Parts _ _ ((_, _) :: _) _; apply Parts.one; (· exact (rfl : _ = Ty.int _ _)); (· exact rfl)))) (by exact (rfl : _ = some [_, _])) ?_
  refine r_buildSlice (E := TurE) (xs := exPlan) rfl rfl rfl rfl rfl (by decide) (by decide) (by repeat (first | exact (Parts.nil : Parts _ _ [] _) | (show Parts _ _ ((_, _) :: _) _; apply Parts.agg; (· exact (rfl : _ = Ty.agg _))))) (by exact rfl) rfl ?_
  refine r_call (c_Makes (three [25]) (three_small (by decide)) exPlan (by decide)) rfl rfl rfl rfl rfl ?_
  refine mvT rfl ?_
  refine r_extract rfl rfl ?_
  refine r_extract rfl rfl ?_
  refine asB rfl ?_
  refine asI rfl ?_
  refine r_nil ?_
  refine i_then ?_
  refine t_seq ?_
  refine t_as (s := 1) rfl (Ty.sub_int aw1) ?_
  refine t_as (s := 2) rfl (Ty.sub_int aw2) ?_
  refine t_as (s := 4) rfl (Ty.sub_int aw3) ?_
  refine t_as (s := 5) rfl (Ty.sub_int aw4) ?_
  refine t_as (s := 7) rfl (Ty.sub_int aw5) ?_
  refine t_as (s := 8) rfl (Ty.sub_int aw6) ?_
  refine t_as (s := 9) rfl (Ty.sub_int three_ok2) ?_
  refine t_as (s := 10) rfl (Ty.sub_int (congrArg Prod.fst aw7)) ?_
  refine t_as (s := 11) rfl (Ty.sub_int (congrArg Prod.snd aw7)) ?_
  refine t_as (s := 12) rfl (Ty.sub_int aw8) ?_
  refine t_as (s := 13) rfl (Ty.sub_int aw9) ?_
  refine t_as (s := 14) rfl (Ty.sub_bool aw10) ?_
  refine t_as (s := 15) rfl (Ty.sub_int aw11) ?_
  refine t_forget (B := live [(1, Ty.int .i64 3), (2, Ty.int .i64 0), (4, Ty.int .i64 70), (5, Ty.int .i64 0), (7, Ty.int .i64 7), (8, Ty.int .i64 1), (9, Ty.int .i64 0), (10, Ty.int .i64 3), (11, Ty.int .i64 0), (12, Ty.int .i64 2), (13, Ty.int .i64 0), (14, Ty.bool true), (15, Ty.int .i64 0)] []) ?_ ?_
  · (refine Ent.mk' ?_ ?_ <;> (repeat' (first | exact allSub_zero | exact allTags_nil | refine allSub_succ' ?_ (Ty.sub_any _) | refine allSub_succ' ?_ (Ty.sub_refl _))))
  refine t_region ?_
  refine mvI rfl ?_
  refine r_bin rfl rfl rfl ?_
  refine mvB rfl ?_
  apply r_guard (s := 67) rfl rfl rfl
  · intro hg; apply opT_of; (refine mvI rfl ?_); refine r_nil ?_; exact rfl
  · exact rfl
  · exact rfl
  apply r_guard (s := 67) rfl rfl rfl
  · intro hg; apply opT_strip (s := 68) rfl (by exact hg); apply opT_of; (refine r_bin rfl rfl rfl ?_); refine r_nil ?_; exact rfl
  · exact rfl
  · exact rfl
  refine r_and rfl rfl ?_
  refine mvB rfl ?_
  apply r_guard (s := 71) rfl rfl rfl
  · intro hg; apply opT_of; (refine mvI rfl ?_); refine r_nil ?_; exact rfl
  · exact rfl
  · exact rfl
  apply r_guard (s := 71) rfl rfl rfl
  · intro hg; apply opT_strip (s := 72) rfl (by exact hg); apply opT_of; (refine r_bin rfl rfl rfl ?_); refine r_nil ?_; exact rfl
  · exact rfl
  · exact rfl
  refine r_and rfl rfl ?_
  refine mvB rfl ?_
  apply r_guard (s := 75) rfl rfl rfl
  · intro hg; apply opT_of; (refine mvI rfl ?_); refine r_nil ?_; exact rfl
  · exact rfl
  · exact rfl
  apply r_guard (s := 75) rfl rfl rfl
  · intro hg; apply opT_strip (s := 76) rfl (by exact hg); apply opT_of; (refine r_bin rfl rfl rfl ?_); refine r_nil ?_; exact rfl
  · exact rfl
  · exact rfl
  refine r_and rfl rfl ?_
  refine mvB rfl ?_
  apply r_guard (s := 79) rfl rfl rfl
  · intro hg; apply opT_of; (refine mvI rfl ?_); refine r_nil ?_; exact rfl
  · exact rfl
  · exact rfl
  apply r_guard (s := 79) rfl rfl rfl
  · intro hg; apply opT_strip (s := 80) rfl (by exact hg); apply opT_of; (refine r_bin rfl rfl rfl ?_); refine r_nil ?_; exact rfl
  · exact rfl
  · exact rfl
  refine r_and rfl rfl ?_
  refine mvB rfl ?_
  apply r_guard (s := 83) rfl rfl rfl
  · intro hg; apply opT_of; (refine mvI rfl ?_); refine r_nil ?_; exact rfl
  · exact rfl
  · exact rfl
  apply r_guard (s := 83) rfl rfl rfl
  · intro hg; apply opT_strip (s := 84) rfl (by exact hg); apply opT_of; (refine r_bin rfl rfl rfl ?_); refine r_nil ?_; exact rfl
  · exact rfl
  · exact rfl
  refine r_and rfl rfl ?_
  refine mvB rfl ?_
  apply r_guard (s := 87) rfl rfl rfl
  · intro hg; apply opT_of; (refine mvI rfl ?_); refine r_nil ?_; exact rfl
  · exact rfl
  · exact rfl
  apply r_guard (s := 87) rfl rfl rfl
  · intro hg; apply opT_strip (s := 88) rfl (by exact hg); apply opT_of; (refine r_bin rfl rfl rfl ?_); refine r_nil ?_; exact rfl
  · exact rfl
  · exact rfl
  refine r_and rfl rfl ?_
  refine mvB rfl ?_
  apply r_guard (s := 91) rfl rfl rfl
  · intro hg; apply opT_of; (refine mvI rfl ?_); refine r_nil ?_; exact rfl
  · exact rfl
  · exact rfl
  apply r_guard (s := 91) rfl rfl rfl
  · intro hg; apply opT_strip (s := 92) rfl (by exact hg); apply opT_of; (refine r_bin rfl rfl rfl ?_); refine r_nil ?_; exact rfl
  · exact rfl
  · exact rfl
  refine r_and rfl rfl ?_
  refine mvB rfl ?_
  apply r_guard (s := 95) rfl rfl rfl
  · intro hg; apply opT_of; (refine mvI rfl ?_); refine r_nil ?_; exact rfl
  · exact rfl
  · exact rfl
  apply r_guard (s := 95) rfl rfl rfl
  · intro hg; apply opT_strip (s := 96) rfl (by exact hg); apply opT_of; (refine r_bin rfl rfl rfl ?_); refine r_nil ?_; exact rfl
  · exact rfl
  · exact rfl
  refine r_and rfl rfl ?_
  refine mvB rfl ?_
  apply r_guard (s := 99) rfl rfl rfl
  · intro hg; apply opT_of; (refine mvI rfl ?_); refine r_nil ?_; exact rfl
  · exact rfl
  · exact rfl
  apply r_guard (s := 99) rfl rfl rfl
  · intro hg; apply opT_strip (s := 100) rfl (by exact hg); apply opT_of; (refine r_bin rfl rfl rfl ?_); refine r_nil ?_; exact rfl
  · exact rfl
  · exact rfl
  refine r_and rfl rfl ?_
  refine mvB rfl ?_
  apply r_guard (s := 103) rfl rfl rfl
  · intro hg; apply opT_of; (refine mvI rfl ?_); refine r_nil ?_; exact rfl
  · exact rfl
  · exact rfl
  apply r_guard (s := 103) rfl rfl rfl
  · intro hg; apply opT_strip (s := 104) rfl (by exact hg); apply opT_of; (refine r_bin rfl rfl rfl ?_); refine r_nil ?_; exact rfl
  · exact rfl
  · exact rfl
  refine r_and rfl rfl ?_
  refine mvB rfl ?_
  apply r_guard (s := 107) rfl rfl rfl
  · intro hg; apply opT_of; (refine mvI rfl ?_); refine r_nil ?_; exact rfl
  · exact rfl
  · exact rfl
  apply r_guard (s := 107) rfl rfl rfl
  · intro hg; apply opT_strip (s := 108) rfl (by exact hg); apply opT_of; (refine r_bin rfl rfl rfl ?_); refine r_nil ?_; exact rfl
  · exact rfl
  · exact rfl
  refine r_and rfl rfl ?_
  refine mvB rfl ?_
  apply r_guard (s := 111) rfl rfl rfl
  · intro hg; apply opT_of; (refine mvB rfl ?_); refine r_nil ?_; exact rfl
  · exact rfl
  · exact rfl
  refine r_and rfl rfl ?_
  refine asB rfl ?_
  refine r_nil ?_
  refine i_then ?_
  refine t_ret ?_
  refine i_rp1 rfl rfl ?_
  all_goals exact ret_refl rfl rfl
  skip
end Go.Proofs.Ytpnndljmhpepgaa

namespace Go.Proofs.Ytpnndljmhpepgaa
open Go Go.T
structure Sk where
  grain : List Int
  taken : Int
  mixed : Int
def U8 : El Int := El.mk' 1 (fun n => [Ty.int .u8 n]) (fun _ => rfl) (fun _ => ⟨rfl, rfl, rfl⟩)
def skTys (s : Sk) : List Ty := [Ty.sl U8 s.grain, Ty.int .i64 s.taken, Ty.int .u32 s.mixed]
def mixB (s : Sk) : Int := IntKind.u32.wrap (bits .xor .u32 s.mixed (IntKind.u32.wrap (nth s.grain (s.taken.tmod s.grain.length).toNat)) * 16777619)
def skMix1 (s : Sk) : Sk := if (s.grain.length : Int) > 0 then { s with mixed := mixB s } else s
def skTake (s : Sk) : Sk := { s with taken := s.taken + 1 }
def mixC (s : Sk) : Int := IntKind.u32.wrap (IntKind.u32.wrap (s.mixed * 1664525) + 1013904223)
def skMix2 (s : Sk) : Sk := if s.taken > (s.grain.length : Int) then { s with mixed := mixC s } else s
theorem skMix2_pos {s : Sk} (h : (s.grain.length : Int) < s.taken) : skMix2 s = { s with mixed := mixC s } := if_pos h
theorem skMix2_neg {s : Sk} (h : ¬ (s.grain.length : Int) < s.taken) : skMix2 s = s := if_neg h
def skNext (s : Sk) : Sk := skMix2 (skTake (skMix1 s))
theorem skNext_neg {s : Sk} (h : ¬ ((skMix1 s).grain.length : Int) < (skMix1 s).taken + 1) : (skMix1 s).mixed = (skNext s).mixed := (congrArg Sk.mixed (skMix2_neg (s := skTake (skMix1 s)) h)).symm
def skVal (s : Sk) : Int := IntKind.i64.wrap (bits .and .u32 (bits .xor .u32 s.mixed (s.mixed / 2 ^ (15 : Int).toNat) / 2 ^ (8 : Int).toNat) 65535)
def Sk.Ok (s : Sk) (n : Int) : Prop := 0 ≤ s.taken ∧ s.taken + n ≤ 4611686018427387904
theorem skMix1_pos {s : Sk} (h : (0 : Int) < s.grain.length) : skMix1 s = { s with mixed := mixB s } := if_pos h
theorem skMix1_neg {s : Sk} (h : ¬ (0 : Int) < s.grain.length) : skMix1 s = s := if_neg h
theorem tmod_in {a b : Int} (ha : 0 ≤ a) (hb : 0 < b) : 0 ≤ a.tmod b ∧ a.tmod b < b := by
  rw [Int.tmod_eq_emod_of_nonneg ha]
  exact ⟨Int.emod_nonneg _ (by omega), Int.emod_lt_of_pos _ hb⟩
theorem skMix1_taken (s : Sk) : (skMix1 s).taken = s.taken := by unfold skMix1; split <;> rfl
theorem skMix1_grain (s : Sk) : (skMix1 s).grain = s.grain := by unfold skMix1; split <;> rfl
theorem skMix2_taken (s : Sk) : (skMix2 s).taken = s.taken := by unfold skMix2; split <;> rfl
theorem skMix2_grain (s : Sk) : (skMix2 s).grain = s.grain := by unfold skMix2; split <;> rfl
theorem skNext_taken (s : Sk) : (skNext s).taken = s.taken + 1 := by unfold skNext; rw [skMix2_taken, skTake, skMix1_taken]
theorem bits_and_ffff (a : Int) : 0 ≤ bits .and .u32 a 65535 ∧ bits .and .u32 a 65535 ≤ 65535 := by
  have e : bits .and .u32 a 65535 = IntKind.u32.wrap (((BitVec.ofInt 32 a &&& BitVec.ofInt 32 65535).toNat : Nat) : Int) := rfl
  have h1 : (BitVec.ofInt 32 a &&& BitVec.ofInt 32 65535).toNat ≤ 65535 := by
    rw [BitVec.toNat_and]
    exact Nat.and_le_right
  rw [e]
  generalize (BitVec.ofInt 32 a &&& BitVec.ofInt 32 65535).toNat = n at h1
  have : IntKind.u32.wrap (n : Int) = (n : Int) % 4294967296 := rfl
  rw [this]; omega
theorem skVal_bound (s : Sk) : 0 ≤ skVal s ∧ skVal s ≤ 65535 := by
  have h := bits_and_ffff (bits .xor .u32 s.mixed (s.mixed / 2 ^ (15 : Int).toNat) / 2 ^ (8 : Int).toNat)
  unfold skVal
  rw [IntWalk.i64_in _ (by omega)]; exact h
def skBelow (s : Sk) (n : Int) : Int := (skVal (skNext s)).tmod (max 1 n)
theorem skBelow_bound (s : Sk) (n : Int) : 0 ≤ skBelow s n ∧ skBelow s n < max 1 n ∧ skBelow s n ≤ 65535 := by
  have h := skVal_bound (skNext s)
  unfold skBelow
  have h1 : (skVal (skNext s)).tmod (max 1 n) = skVal (skNext s) % max 1 n := Int.tmod_eq_emod_of_nonneg h.1
  have h2 := Int.emod_lt_of_pos (skVal (skNext s)) (show 0 < max 1 n by omega)
  have h3 := Int.emod_nonneg (skVal (skNext s)) (show max 1 n ≠ 0 by omega)
  have h4 : skVal (skNext s) % max 1 n ≤ skVal (skNext s) := by
    have := Int.mul_ediv_add_emod (skVal (skNext s)) (max 1 n)
    have hq : 0 ≤ skVal (skNext s) / max 1 n := Int.ediv_nonneg h.1 (by omega)
    have : 0 ≤ max 1 n * (skVal (skNext s) / max 1 n) := Int.mul_nonneg (by omega) hq
    omega
  omega
def skAmong (s : Sk) (lo hi : Int) : Int := lo + skBelow s (hi - lo + 1)
def skRare (s : Sk) (n : Int) : Bool := decide (skBelow s n = 0)
def skFill (grain : List Int) : Sk := ⟨grain, 0, bits .xor .u32 2166136261 (IntKind.u32.wrap grain.length)⟩
theorem skFill_ok (g : List Int) : (skFill g).Ok 4000000000000000000 := by unfold skFill Sk.Ok; simp
def modM (v n : Int) : Int := if n < 1 then 0 else (v.tmod n + n).tmod n
def insL (xs : List Int) (i : Nat) (k : Int) : List Int := xs.take i ++ k :: xs.drop i
theorem insL_len {xs : List Int} {i : Nat} (h : i ≤ xs.length) (k : Int) : (insL xs i k).length = xs.length + 1 := by simp [insL]; omega
theorem insL_mem {xs : List Int} {i : Nat} {k x : Int} : x ∈ insL xs i k ↔ x = k ∨ x ∈ xs := by
  unfold insL
  rw [List.mem_append, List.mem_cons]
  constructor
  · rintro (h | rfl | h)
    · exact .inr (List.mem_of_mem_take h)
    · exact .inl rfl
    · exact .inr (List.mem_of_mem_drop h)
  · rintro (rfl | h)
    · exact .inr (.inl rfl)
    · rw [← List.take_append_drop i xs, List.mem_append] at h
      exact h.imp id .inr
theorem insL_nodup {xs : List Int} {i : Nat} {k : Int} (h : xs.Nodup) (hk : k ∉ xs) : (insL xs i k).Nodup := by
  unfold insL
  have h2 : (xs.take i ++ xs.drop i).Nodup := by rw [List.take_append_drop]; exact h
  rw [List.nodup_append] at h2 ⊢
  obtain ⟨a, b, c⟩ := h2
  refine ⟨a, List.nodup_cons.2 ⟨fun h => hk (List.mem_of_mem_drop h), b⟩, fun x hx y hy => ?_⟩
  rcases List.mem_cons.1 hy with rfl | hy
  · rintro rfl; exact hk (List.mem_of_mem_take hx)
  · exact c x hx y hy
def shufUp (s : Sk) : Nat → List Int × Sk
  | 0 => ([], s)
  | k + 1 => (insL (shufUp s k).1 (skBelow (shufUp s k).2 ((k : Int) + 1)).toNat k, skNext (shufUp s k).2)
theorem shuf_spec (s : Sk) : ∀ k, (shufUp s k).1.length = k ∧ (shufUp s k).1.Nodup ∧ (∀ x, x ∈ (shufUp s k).1 ↔ 0 ≤ x ∧ x < (k : Int)) ∧ (shufUp s k).2.taken = s.taken + k
  | 0 => ⟨rfl, List.nodup_nil, fun x => ⟨fun h => (by cases h), fun h => by omega⟩, by simp [shufUp]⟩
  | k + 1 => by
    obtain ⟨h1, h2, h3, h4⟩ := shuf_spec s k
    have hb := skBelow_bound (shufUp s k).2 ((k : Int) + 1)
    refine ⟨?_, insL_nodup h2 (fun h => by have := (h3 _).1 h; omega), fun x => ?_, ?_⟩
    · show (insL _ _ _).length = _
      rw [insL_len (by omega), h1]
    · show x ∈ insL _ _ _ ↔ _
      rw [insL_mem, h3]; omega
    · show (skNext _).taken = _
      rw [skNext_taken, h4]; omega
end Go.Proofs.Ytpnndljmhpepgaa

namespace Go.Proofs.Ytpnndljmhpepgaa
open Go Go.T
set_option maxHeartbeats 2000000
attribute [local irreducible] dInt dBool dSl dPp dPtr dAgg dTup dClo dAny dEx dStr dGd dCells dVec dVs dRow dOp nth Tri Into TOps Ctr bodyPost Exit.then Exit.inBlock Code.wp Code.wpIn dWhen dPa dPe dAo dArr dMp dPm dMap dCJ CtrG CtrI OpY keepPost iterPost bodyPostM roundQ
set_option maxRecDepth 100000 in
theorem c_handful (s : Sk) (h : s.Ok 1) : CtrG Try.prog 132 [1000] [(1000, Cont.cells 141 (skTys s))] [Ty.ptr 1000 0] [(1000, Cont.cells 141 (skTys (skNext s)))] (Ty.int .i64 (skVal (skNext s))) := by
  refine fnG_intro Try.func132 rfl (by decide) Try.ntmps132 (by exact Nat.le_of_ble_eq_true rfl) fun w0 M0 => ?_
  have h0 : 0 ≤ s.taken ∧ s.taken + 1 ≤ 4611686018427387904 := h
  refine t_seq ?_
  refine t_region ?_
  refine asI rfl ?_
  refine r_nil ?_
  refine i_then ?_
  refine t_join (J := live [(0, Ty.ptr 1000 0)] [(1000, Cont.cells 141 (skTys (skMix1 s)))]) ?_ ?_
  ·
    refine t_seq ?_
    refine t_region ?_
    refine mvO rfl ?_
    refine r_nilCheck_ptr rfl ?_
    refine r_field_ptr rfl rfl rfl rfl rfl (by decide) ?_
    refine r_load_ptr rfl rfl (by decide) rfl rfl rfl ?_
    refine r_len rfl rfl rfl ?_
    refine asI rfl ?_
    refine r_nil ?_
    refine i_then ?_
    refine t_seq ?_
    refine t_region ?_
    refine mvI rfl ?_
    refine r_bin rfl rfl rfl ?_
    refine r_nil ?_
    refine i_then ?_
    refine t_cond_dec rfl (fun hc1 => ?_) (fun hc1 => ?_)
    ·
      have hm := tmod_in (a := s.taken) (b := s.grain.length) h0.1 (by omega)
      refine t_draw mixed rfl ?_
      refine mvO rfl ?_
      refine mvO rfl ?_
      refine r_nilCheck_ptr rfl ?_
      refine r_field_ptr rfl rfl rfl rfl rfl (by decide) ?_
      refine r_load_ptr rfl rfl (by decide) rfl rfl rfl ?_
      refine mvO rfl ?_
      refine r_nilCheck_ptr rfl ?_
      refine r_field_ptr rfl rfl rfl rfl rfl (by decide) ?_
      refine r_load_ptr rfl rfl (by decide) rfl rfl rfl ?_
      refine mvO rfl ?_
      refine r_nilCheck_ptr rfl ?_
      refine r_field_ptr rfl rfl rfl rfl rfl (by decide) ?_
      refine r_load_ptr rfl rfl (by decide) rfl rfl rfl ?_
      refine mvI rfl ?_
      refine r_rem rfl rfl (by omega) ?_
      refine r_index_sl rfl rfl rfl rfl rfl rfl (by omega) (by omega) ?_
      refine r_load_pp rfl rfl rfl rfl ?_
      refine r_conv rfl rfl rfl rfl ?_
      refine r_bin rfl rfl rfl ?_
      refine r_bin rfl rfl rfl ?_
      refine r_nilCheck_ptr rfl ?_
      refine r_field_ptr rfl rfl rfl rfl rfl (by decide) ?_
      refine r_store1 rfl rfl (by decide) rfl rfl (by exact (rfl : _ = Ty.int _ _)) rfl (by exact Nat.le_of_ble_eq_true rfl) rfl rfl (by exact rfl) ?_
      refine r_nil ?_
      refine ⟨by kernel_rfl, ?_⟩
      refine i_join ?_
      (refine Ent.mk' ?_ ?_ <;> (repeat' (first | exact allSub_zero | exact allTags_nil | exact subs_nil | refine allSub_succ' ?_ (Ty.sub_any _) | refine allSub_succ' ?_ (Ty.sub_refl _) | refine allTags_cons rfl (Cont.sub_subs ?_) ?_ | refine subs_cons ?_ ?_)))
      all_goals first | exact Ty.sub_int (congrArg Sk.mixed (skMix1_pos hc1).symm) | exact Ty.sub_int (skMix1_taken s).symm | exact Ty.sub_sl (skMix1_grain s).symm
    ·
      refine t_skip ?_
      refine i_join ?_
      (refine Ent.mk' ?_ ?_ <;> (repeat' (first | exact allSub_zero | exact allTags_nil | exact subs_nil | refine allSub_succ' ?_ (Ty.sub_any _) | refine allSub_succ' ?_ (Ty.sub_refl _) | refine allTags_cons rfl (Cont.sub_subs ?_) ?_ | refine subs_cons ?_ ?_)))
      all_goals first | exact Ty.sub_int (congrArg Sk.mixed (skMix1_neg hc1).symm) | exact Ty.sub_int (skMix1_taken s).symm | exact Ty.sub_sl (skMix1_grain s).symm
  ·
    refine t_seq ?_
    have h1 := skMix1_taken s
    refine t_region ?_
    refine mvO rfl ?_
    refine r_nilCheck_ptr rfl ?_
    refine r_field_ptr rfl rfl rfl rfl rfl (by decide) ?_
    refine r_load_ptr rfl rfl (by decide) rfl rfl rfl ?_
    refine r_add rfl rfl (by omega) (by omega) ?_
    refine r_nilCheck_ptr rfl ?_
    refine r_field_ptr rfl rfl rfl rfl rfl (by decide) ?_
    refine r_store1 rfl rfl (by decide) rfl rfl (by exact (rfl : _ = Ty.int _ _)) rfl (by exact Nat.le_of_ble_eq_true rfl) rfl rfl (by exact rfl) ?_
    refine r_nil ?_
    refine i_then ?_
    refine t_join (J := live [(0, Ty.ptr 1000 0)] [(1000, Cont.cells 141 (skTys (skNext s)))]) ?_ ?_
    ·
      refine t_seq ?_
      refine t_draw mixed rfl ?_
      refine mvO rfl ?_
      refine r_nilCheck_ptr rfl ?_
      refine r_field_ptr rfl rfl rfl rfl rfl (by decide) ?_
      refine r_load_ptr rfl rfl (by decide) rfl rfl rfl ?_
      refine mvO rfl ?_
      refine r_nilCheck_ptr rfl ?_
      refine r_field_ptr rfl rfl rfl rfl rfl (by decide) ?_
      refine r_load_ptr rfl rfl (by decide) rfl rfl rfl ?_
      refine r_len rfl rfl rfl ?_
      refine r_bin rfl rfl rfl ?_
      refine r_nil ?_
      refine ⟨by kernel_rfl, ?_⟩
      refine i_then ?_
      refine t_cond_dec rfl (fun hc2 => ?_) (fun hc2 => ?_)
      ·
        refine t_region ?_
        refine mvO rfl ?_
        refine mvO rfl ?_
        refine r_nilCheck_ptr rfl ?_
        refine r_field_ptr rfl rfl rfl rfl rfl (by decide) ?_
        refine r_load_ptr rfl rfl (by decide) rfl rfl rfl ?_
        refine r_bin rfl rfl rfl ?_
        refine r_bin rfl rfl rfl ?_
        refine r_nilCheck_ptr rfl ?_
        refine r_field_ptr rfl rfl rfl rfl rfl (by decide) ?_
        refine r_store1 rfl rfl (by decide) rfl rfl (by exact (rfl : _ = Ty.int _ _)) rfl (by exact Nat.le_of_ble_eq_true rfl) rfl rfl (by exact rfl) ?_
        refine r_nil ?_
        refine i_join ?_
        (refine Ent.mk' ?_ ?_ <;> (repeat' (first | exact allSub_zero | exact allTags_nil | exact subs_nil | refine allSub_succ' ?_ (Ty.sub_any _) | refine allSub_succ' ?_ (Ty.sub_refl _) | refine allTags_cons rfl (Cont.sub_subs ?_) ?_ | refine subs_cons ?_ ?_)))
        all_goals first | exact Ty.sub_int (congrArg Sk.mixed (skMix2_pos (s := skTake (skMix1 s)) hc2).symm) | exact Ty.sub_int (skMix2_taken (skTake (skMix1 s))).symm | exact Ty.sub_sl (skMix2_grain (skTake (skMix1 s))).symm
      ·
        refine t_skip ?_
        refine i_join ?_
        (refine Ent.mk' ?_ ?_ <;> (repeat' (first | exact allSub_zero | exact allTags_nil | exact subs_nil | refine allSub_succ' ?_ (Ty.sub_any _) | refine allSub_succ' ?_ (Ty.sub_refl _) | refine allTags_cons rfl (Cont.sub_subs ?_) ?_ | refine subs_cons ?_ ?_)))
        all_goals first | exact Ty.sub_int (skNext_neg hc2) | exact Ty.sub_int (skMix2_taken (skTake (skMix1 s))).symm | exact Ty.sub_sl (skMix2_grain (skTake (skMix1 s))).symm
    ·
      refine t_seq ?_
      refine t_draw mixed rfl ?_
      refine mvO rfl ?_
      refine r_nilCheck_ptr rfl ?_
      refine r_field_ptr rfl rfl rfl rfl rfl (by decide) ?_
      refine r_load_ptr rfl rfl (by decide) rfl rfl rfl ?_
      refine mvO rfl ?_
      refine r_nilCheck_ptr rfl ?_
      refine r_field_ptr rfl rfl rfl rfl rfl (by decide) ?_
      refine r_load_ptr rfl rfl (by decide) rfl rfl rfl ?_
      refine r_shr rfl rfl (by omega) (by decide) ?_
      refine r_bin rfl rfl rfl ?_
      refine r_shr rfl rfl (by omega) (by decide) ?_
      refine r_bin rfl rfl rfl ?_
      refine r_conv rfl rfl rfl rfl ?_
      refine asI rfl ?_
      refine r_nil ?_
      refine ⟨by kernel_rfl, ?_⟩
      refine i_then ?_
      refine t_ret ?_
      refine g_ret1 [1000] rfl rfl (by decide) (by repeat (first | exact rc_nil | refine rc_cons rfl (cc_cells_eq (by decide) rfl rfl rfl) ?_)) ?_
      all_goals exact rg_cv (cv_pub rfl rfl)
      all_goals exact rg_cv (cv_eq rfl rfl rfl)
set_option maxRecDepth 100000 in
theorem c_Below (s : Sk) (h : s.Ok 1) (n : Int) : CtrG Try.prog 106 [1000] [(1000, Cont.cells 141 (skTys s))] [Ty.ptr 1000 0, Ty.int .i64 n] [(1000, Cont.cells 141 (skTys (skNext s)))] (Ty.int .i64 (skBelow s n)) := by
  refine fnG_intro Try.func106 rfl (by decide) Try.ntmps106 (by exact Nat.le_of_ble_eq_true rfl) fun w0 M0 => ?_
  refine t_seq ?_
  refine t_region ?_
  refine asI rfl ?_
  refine r_nil ?_
  refine i_then ?_
  refine t_seq ?_
  refine t_region ?_
  refine mvO rfl ?_
  refine r_callG [(1000, 1000)] [] [(1000, Cont.cells 141 (skTys (skNext s)))] (c_handful s h) rfl rfl (by repeat (first | exact cv_nil | refine cv_cons ?_ ?_ | exact cv_ptr List.mem_cons_self)) (pre_cons (a := 1000) (b := 1000) (by exact List.mem_cons_self) rfl (cc_cells_eq (by exact List.mem_cons_self) rfl rfl rfl) pre_nil) (post_cons (a := 1000) (b := 1000) (by exact List.mem_cons_self) rfl (cc_cells_eq (by exact List.mem_cons_self) rfl rfl rfl) post_nil) (cv_pub rfl rfl) ?_
  refine mvI rfl ?_
  refine r_max rfl rfl ?_
  refine r_rem rfl rfl (by omega) ?_
  refine asI rfl ?_
  refine r_nil ?_
  refine i_then ?_
  refine t_ret ?_
  refine g_ret1 [1000] rfl rfl (by decide) (by repeat (first | exact rc_nil | refine rc_cons rfl (cc_cells_eq (by decide) rfl rfl rfl) ?_)) ?_
  all_goals exact rg_cv (cv_pub rfl rfl)
set_option maxRecDepth 100000 in
theorem c_Among (s : Sk) (h : s.Ok 1) (lo hi : Int) (hlo : -1000000 ≤ lo ∧ lo ≤ 1000000) (hhi : -1000000 ≤ hi ∧ hi ≤ 1000000) : CtrG Try.prog 105 [1000] [(1000, Cont.cells 141 (skTys s))] [Ty.ptr 1000 0, Ty.int .i64 lo, Ty.int .i64 hi] [(1000, Cont.cells 141 (skTys (skNext s)))] (Ty.int .i64 (skAmong s lo hi)) := by
  refine fnG_intro Try.func105 rfl (by decide) Try.ntmps105 (by exact Nat.le_of_ble_eq_true rfl) fun w0 M0 => ?_
  have hb := skBelow_bound s (hi - lo + 1)
  refine t_seq ?_
  refine t_region ?_
  refine asI rfl ?_
  refine r_nil ?_
  refine i_then ?_
  refine t_seq ?_
  refine t_region ?_
  refine mvI rfl ?_
  refine mvO rfl ?_
  refine mvI rfl ?_
  refine mvI rfl ?_
  refine r_sub rfl rfl (by omega) (by omega) ?_
  refine r_add rfl rfl (by omega) (by omega) ?_
  refine r_callG [(1000, 1000)] [] [(1000, Cont.cells 141 (skTys (skNext s)))] (c_Below s h _) rfl rfl (by repeat (first | exact cv_nil | refine cv_cons ?_ ?_ | exact cv_ptr List.mem_cons_self | exact cv_pub rfl rfl)) (pre_cons (a := 1000) (b := 1000) (by exact List.mem_cons_self) rfl (cc_cells_eq (by exact List.mem_cons_self) rfl rfl rfl) pre_nil) (post_cons (a := 1000) (b := 1000) (by exact List.mem_cons_self) rfl (cc_cells_eq (by exact List.mem_cons_self) rfl rfl rfl) post_nil) (cv_pub rfl rfl) ?_
  refine r_add rfl rfl (by omega) (by omega) ?_
  refine asI rfl ?_
  refine r_nil ?_
  refine i_then ?_
  refine t_ret ?_
  refine g_ret1 [1000] rfl rfl (by decide) (by repeat (first | exact rc_nil | refine rc_cons rfl (cc_cells_eq (by decide) rfl rfl rfl) ?_)) ?_
  all_goals exact rg_cv (cv_pub rfl rfl)
set_option maxRecDepth 100000 in
theorem c_Rare (s : Sk) (h : s.Ok 1) (n : Int) : CtrG Try.prog 107 [1000] [(1000, Cont.cells 141 (skTys s))] [Ty.ptr 1000 0, Ty.int .i64 n] [(1000, Cont.cells 141 (skTys (skNext s)))] (Ty.bool (skRare s n)) := by
  refine fnG_intro Try.func107 rfl (by decide) Try.ntmps107 (by exact Nat.le_of_ble_eq_true rfl) fun w0 M0 => ?_
  refine t_seq ?_
  refine t_region ?_
  refine asB rfl ?_
  refine r_nil ?_
  refine i_then ?_
  refine t_seq ?_
  refine t_region ?_
  refine mvO rfl ?_
  refine mvI rfl ?_
  refine r_callG [(1000, 1000)] [] [(1000, Cont.cells 141 (skTys (skNext s)))] (c_Below s h n) rfl rfl (by repeat (first | exact cv_nil | refine cv_cons ?_ ?_ | exact cv_ptr List.mem_cons_self | exact cv_pub rfl rfl)) (pre_cons (a := 1000) (b := 1000) (by exact List.mem_cons_self) rfl (cc_cells_eq (by exact List.mem_cons_self) rfl rfl rfl) pre_nil) (post_cons (a := 1000) (b := 1000) (by exact List.mem_cons_self) rfl (cc_cells_eq (by exact List.mem_cons_self) rfl rfl rfl) post_nil) (cv_pub rfl rfl) ?_
  refine r_bin rfl rfl rfl ?_
  refine asB rfl ?_
  refine r_nil ?_
  refine i_then ?_
  refine t_ret ?_
  refine g_ret1 [1000] rfl rfl (by decide) (by repeat (first | exact rc_nil | refine rc_cons rfl (cc_cells_eq (by decide) rfl rfl rfl) ?_)) ?_
  all_goals exact rg_cv (cv_pub rfl rfl)
set_option maxRecDepth 100000 in
theorem c_Fill (g : List Int) : CtrG Try.prog 51 [] [] [Ty.sl U8 g] [(10, Cont.cells 141 (skTys (skFill g)))] (Ty.ptr 10 0) := by
  refine fnG_intro Try.func51 rfl (by decide) Try.ntmps51 (by exact Nat.le_of_ble_eq_true rfl) fun w0 M0 => ?_
  refine t_seq ?_
  refine t_region ?_
  refine asX rfl ?_
  refine r_nil ?_
  refine i_then ?_
  refine t_seq ?_
  skip
  refine t_region ?_
  refine mvS rfl ?_
  refine mvS rfl ?_
  refine r_len rfl rfl rfl ?_
  refine r_conv rfl rfl rfl rfl ?_
  refine r_bin rfl rfl rfl ?_
  refine r_build rfl rfl (by exact List.cons_ne_nil _ _) rfl (by repeat (first | exact (Parts.nil : Parts _ _ [] _) | (show Parts _ _ ((_, _) :: _) _; apply Parts.one; (· first | exact (rfl : _ = Ty.int _ _) | exact (rfl : _ = Ty.sl _ _)); (· exact rfl)))) (by exact (rfl : _ = some [_, _, _])) ?_
  refine r_box_own rfl rfl rfl ?_
  refine asO rfl ?_
  refine r_nil ?_
  refine i_then ?_
  refine t_ret ?_
  refine g_ret1 [10] rfl rfl (by decide) (by repeat (first | exact rc_nil | refine rc_cons rfl (cc_cells_eq (by decide) rfl rfl rfl) ?_)) ?_
  all_goals skip
  exact rg_cv (cv_ptr (by exact List.mem_cons_self))
end Go.Proofs.Ytpnndljmhpepgaa

namespace Go.Proofs.Ytpnndljmhpepgaa
open Go Go.T Go.RowKit Go.Shelf
def rhoI : Ren := ⟨fun n => if n = 21 then 109 else if n = 27 then 133 else if n = 28 then 134 else if n = 35 then 149 else if n = 39 then 152 else n, fun n => n, fun n => n⟩
theorem aggI {t : Nat} {D : TypeDesc} (h : Try.prog.underlying t = some D) (hd : (match D with | .struct _ => false | .array _ _ => false | _ => true) = true) : ∀ w, (isAgg t).run Try.prog w = .ok false w := fun w => by
  cases D <;> simp_all [isAgg, run_underlying h]
set_option maxRecDepth 100000 in
theorem laidI : Lays2.n21 Try.prog rhoI where
  mixed := by kernel_rfl
  f21 := by kernel_rfl
  f27 := by kernel_rfl
  f28 := by kernel_rfl
  f35 := by kernel_rfl
  f39 := by kernel_rfl
  t0 := by kernel_rfl
  a0 := aggI (D := TypeDesc.tuple #[]) (by kernel_rfl) rfl
  z0 := fun w => run_sizeOf' (P := Try.prog) (t := 0) rfl w
  v0 := fun w => run_zeroOf (by kernel_rfl) w
  t3 := by kernel_rfl
  a3 := aggI (D := TypeDesc.int IntKind.i64) (by kernel_rfl) rfl
  z3 := fun w => run_sizeOf' (P := Try.prog) (t := 3) rfl w
  v3 := fun w => run_zeroOf (by kernel_rfl) w
  t4 := by kernel_rfl
  a4 := aggI (D := TypeDesc.bool) (by kernel_rfl) rfl
  z4 := fun w => run_sizeOf' (P := Try.prog) (t := 4) rfl w
  v4 := fun w => run_zeroOf (by kernel_rfl) w
  t22 := by kernel_rfl
  a22 := aggI (D := TypeDesc.slice 3) (by kernel_rfl) rfl
  z22 := fun w => run_sizeOf' (P := Try.prog) (t := 22) rfl w
  v22 := fun w => run_zeroOf (by kernel_rfl) w
  i3 := by kernel_rfl
def putL (l : List Value) (o : Nat) (vs : List Value) : List Value := l.take o ++ vs ++ l.drop (o + vs.length)
theorem putL_len {l : List Value} {o : Nat} {vs : List Value} (h : o + vs.length ≤ l.length) : (putL l o vs).length = l.length := by
  simp [putL]; omega
theorem putL_cons {l : List Value} {o : Nat} {v : Value} {vs : List Value} (h : o < l.length) : putL (l.set o v) (o + 1) vs = putL l o (v :: vs) := by
  have e : l.set o v = l.take o ++ v :: l.drop (o + 1) := by rw [List.set_eq_take_append_cons_drop, if_pos h]
  have h1 : (l.take o).length = o := by simp; omega
  unfold putL
  rw [e]
  have t1 : (l.take o ++ v :: l.drop (o + 1)).take (o + 1) = l.take o ++ [v] := by
    rw [List.take_append, h1, show o + 1 - o = 1 by omega, List.take_of_length_le (by omega)]; rfl
  have t2 : (l.take o ++ v :: l.drop (o + 1)).drop (o + 1 + vs.length) = l.drop (o + (v :: vs).length) := by
    rw [List.drop_append, h1, List.drop_eq_nil_of_le (by omega), List.nil_append, show o + 1 + vs.length - o = vs.length + 1 by omega, List.drop_succ_cons, List.drop_drop, List.length_cons]
    congr 1; omega
  rw [t1, t2]; simp
theorem size_put {c d : Array Value} {o : Nat} {vs : List Value} (h : d.toList = putL c.toList o vs) (hb : o + vs.length ≤ c.size) : d.size = c.size := by
  have := congrArg List.length h
  rw [putL_len (by simpa using hb)] at this
  simpa using this
theorem set_cells {b T : Nat} : ∀ (vs : List Value) (o : Nat) (w : World) (cs : Array Value), w.heap[b]? = some (.cells cs T (0, 0)) → o + vs.length ≤ cs.size →
    ∃ cs' : Array Value, (w.setCells b o vs).heap[b]? = some (.cells cs' T (0, 0)) ∧ cs'.toList = putL cs.toList o vs ∧ (w.setCells b o vs).heap.size = w.heap.size ∧
      (w.setCells b o vs).os = w.os ∧ (w.setCells b o vs).tape = w.tape ∧ (w.setCells b o vs).output = w.output ∧ ∀ k, k ≠ b → (w.setCells b o vs).heap[k]? = w.heap[k]?
  | [], o, w, cs, h, _ => ⟨cs, h, by simp [putL], rfl, rfl, rfl, rfl, fun _ _ => rfl⟩
  | v :: vs, o, w, cs, h, hl => by
    have hl : o + (vs.length + 1) ≤ cs.size := hl
    have hb : b < w.heap.size := (Array.getElem?_eq_some_iff.1 h).1
    have e := setCell_block (off := o) h v
    have h1 : (w.setCell ⟨b, o, none⟩ v).heap[b]? = some (.cells (cs.setIfInBounds o v) T (0, 0)) := by rw [e]; simp [hb]
    obtain ⟨cs', g1, g2, g3, g4, g5, g6, g7⟩ := set_cells vs (o + 1) (w.setCell ⟨b, o, none⟩ v) (cs.setIfInBounds o v) h1 (by simp; omega)
    refine ⟨cs', g1, ?_, g3.trans (by rw [e]; simp), g4.trans (by rw [e]), g5.trans (by rw [e]), g6.trans (by rw [e]), fun k hk => (g7 k hk).trans ?_⟩
    · rw [g2, Array.toList_setIfInBounds, putL_cons (by simp; omega)]
    · rw [e]; exact Array.getElem?_setIfInBounds_ne (Ne.symm hk)
def dPx (T : Nat) (cs : Array Value) (w : World) (M : Tags) (v : Value) : Prop := ∃ b, v = .slice (some ⟨b, 0, none⟩) cs.size cs.size ∧ M b = none ∧ w.heap[b]? = some (.cells cs T (0, 0))
def pxTy (T : Nat) (cs : Array Value) : Ty := { den := dPx T cs, mono := fun le _ _ ⟨b, e, h1, h2⟩ => let ⟨h3, h4⟩ := le.pub b (Array.getElem?_eq_some_iff.1 h2).1 h1; ⟨b, e, h3, h4.trans h2⟩ }
def ints (l : List Int) : List Value := l.map fun n => .int .i64 n
theorem dens_ints {w : World} {M : Tags} : ∀ {xs : List Int} {cs : List Value}, dens w M (xs.flatMap I64.tys) cs → cs = ints xs
  | [], [], _ => rfl
  | x :: xs, c :: cs, ⟨h, h'⟩ => by
    have h : c = .int .i64 x := h
    rw [dens_ints h', h]; rfl
theorem ints_dens {w : World} {M : Tags} : ∀ xs : List Int, dens w M (xs.flatMap I64.tys) (ints xs)
  | [] => trivial
  | _ :: xs => ⟨rfl, ints_dens xs⟩
def InsDone (w w' : World) (v v' : Value) (l : List Value) : Prop :=
  w'.ownsRow 0 3 1 v' l.length l ∧ w.grownBy w' v.ownBlock ∧ (v'.ownBlock = v.ownBlock ∨ v'.ownBlock = some w.heap.size)
theorem one_ints (l : List Int) : ∀ v ∈ ints l, v.oneCell' = true := fun v hv => by obtain ⟨n, _, rfl⟩ := List.mem_map.1 hv; rfl
theorem own_of {w : World} {g c : Nat} {cs : Array Value} {l : List Value} (h : w.heap[g]? = some (.cells cs 3 (0, 0))) (hs : cs.size = c) (hl : cs.toList.take l.length = l) (hc : l.length ≤ c) (hm : c ≤ maxLen) : w.ownsRow 0 3 1 (.slice (some ⟨g, 0, none⟩) l.length c) l.length l :=
  ⟨(Nat.mul_one _).symm, .inr ⟨g, c, cs, rfl, Nat.zero_le _, h, hc, hm, by rw [hs, Nat.mul_one], by rw [Nat.mul_one]; exact hl⟩⟩
theorem cell_of {w : World} {b T : Nat} {cs : Array Value} (h : w.heap[b]? = some (.cells cs T (0, 0))) {j : Nat} {v : Value} (hj : cs.toList[j]? = some v) : w.cell? ⟨b, j, none⟩ = some v := by
  simpa [World.cell?, h] using hj
theorem froz_of {w : World} {b T : Nat} {cs : Array Value} (h : w.heap[b]? = some (.cells cs T (0, 0))) (j : Nat) : w.frozen? ⟨b, j, none⟩ = false := by simp [World.frozen?, h]
theorem shape_of {w : World} {b T : Nat} {cs : Array Value} (h : w.heap[b]? = some (.cells cs T (0, 0))) : w.shape? b = some (T, cs.size) := by simp [World.shape?, h]
theorem new_row {w : World} {v : Value} {l : List Value} {cs : Array Value} {c : Nat} (hs : cs.size = c) (hl : cs.toList.take l.length = l) (hc : l.length ≤ c) (hm : c ≤ maxLen) : InsDone w (w.drew.alloc (.cells cs 3)) v (.slice (some ⟨w.heap.size, 0, none⟩) l.length c) l :=
  ⟨own_of (alloc_new w.drew _) hs hl hc hm, ⟨rfl, rfl, rfl, by show w.heap.size ≤ (w.heap.push _).size; simp, fun k hk _ => Below.heap_alloc w.drew _ k hk⟩, .inr rfl⟩
theorem ints_ins (xs : List Int) (i : Nat) (k : Int) : ints (insL xs i k) = (ints xs).take i ++ .int .i64 k :: (ints xs).drop i := by simp [ints, insL]
theorem ints_len (l : List Int) : (ints l).length = l.length := by simp [ints]
set_option maxRecDepth 100000 in
theorem ins_run {w : World} {M : Tags} {tg : Nat} {xs : List Int} {v u : Value} {i : Nat} {k : Int} (_ : 1 ≤ tg) (hrow : dRow I64 3 tg xs w M v) (hu : dPx 3 #[.int .i64 k] w M u) (hi : i ≤ xs.length) (hlen : xs.length ≤ 1000000) :
    Calls Try.prog 109 #[v, .int .i64 i, u] w fun e w' => ∃ v', e = .returned v' ∧ InsDone w w' v v' (ints (insL xs i k)) := by
  obtain ⟨vb, rfl, hM, hvb⟩ := hu
  obtain ⟨cs, ⟨hcl, hown⟩, hd, hg⟩ := hrow
  obtain rfl := dens_ints hd
  have hil := insL_len hi k
  have hiL : (ints (insL xs i k)).length = xs.length + 1 := by rw [ints_len, hil]
  have hmax : (1000001 : Nat) ≤ maxLen := by simp [maxLen]
  have hvs : ∀ j x, [Value.int .i64 k][j]? = some x → w.cell? ⟨vb, 0 + j, none⟩ = some x := fun j x hj => by rw [Nat.zero_add]; exact cell_of hvb (by simpa using hj)
  have h1v : ∀ x ∈ [Value.int .i64 k], x.oneCell' = true := fun x hx => by rw [List.mem_singleton.1 hx]; rfl
  have hgrow : ∀ (base : Option Addr) (c : Nat), xs.length ≤ c → c < xs.length + 1 → i = xs.length → (base = none → xs.length = 0) → (∀ a, base = some a → ∀ j x, (ints xs)[j]? = some x → w.cell? (a.add j) = some x) →
      Calls Try.prog 109 #[.slice base xs.length c, .int .i64 i, .slice (some ⟨vb, 0, none⟩) 1 1] w fun e w' => ∃ v', e = .returned v' ∧ InsDone w w' (.slice base xs.length c) v' (ints (insL xs i k)) := by
    intro base c hnc hroom hin hnil hcs
    subst hin
    refine (Any2.slices_Insert_int_end_grow laidI base xs.length c vb 0 1 1 (ints xs) [.int .i64 k] w (by omega) hnc hroom (by omega) (ints_len xs) rfl hnil hcs hvs h1v).mono fun e w' ⟨he, hw⟩ => ?_
    refine ⟨_, he, ?_⟩
    have hge := grownCap_ge w (xs.length + 1) c (rhoI.t 3)
    have hle := grownCap_le_maxLen w (xs.length + 1) c (rhoI.t 3) (by omega)
    generalize grownCap w (xs.length + 1) c (rhoI.t 3) = C at *
    have hz : ∀ n, (Builtin.zeroCells (Value.int .i64 0).cells n).size = n := fun n => by rw [size_zeroCells]; simp [Value.cells]
    have hsz : ((ints xs ++ [Value.int .i64 k]).toArray ++ Builtin.zeroCells (Value.int .i64 0).cells (C - (xs.length + 1))).size = C := by
      rw [Array.size_append, hz, List.size_toArray, List.length_append, ints_len, List.length_singleton]; omega
    have l2 := ints_len xs
    have hnr := new_row (w := w) (v := .slice base xs.length c) (l := ints (insL xs xs.length k)) hsz (by rw [hiL, ints_ins, Array.toList_append, List.take_append_of_le_length (by simp [l2]), List.take_of_length_le (by simp [l2]), List.take_of_length_le (l := ints xs) (by omega), List.drop_of_length_le (l := ints xs) (by omega)]) (by omega) hle
    rw [hiL] at hnr
    rw [hw]; exact hnr
  rcases hown with ⟨rfl, hn⟩ | ⟨g, c, cur, rfl, _, hh, hnc, hcm, hsz, htk⟩
  · have := hgrow none 0 (by omega) (by omega) (by omega) (fun _ => hn) (fun a ha => by cases ha)
    rw [hn] at this; exact this
  · have h64 : I64.size = 1 := rfl
    rw [h64, Nat.mul_one] at hsz htk
    have hMg : M g = some tg := hg g rfl
    have hne : vb ≠ g := fun e => by rw [e, hMg] at hM; cases hM
    have hcell : ∀ j x, (ints xs)[j]? = some x → w.cell? ⟨g, 0 + j, none⟩ = some x := fun j x hj => by
      rw [Nat.zero_add]
      refine cell_of hh ?_
      rw [← htk, List.getElem?_take] at hj
      split at hj
      · exact hj
      · cases hj
    by_cases hroom : xs.length + 1 ≤ c
    · have hspare : ∀ j, j < c → (w.cell? ⟨g, 0 + j, none⟩).isSome = true := fun j hj => by simp [World.cell?, hh, hsz, hj]
      have hdone : ∀ (w' : World) (cur' : Array Value), w'.heap[g]? = some (.cells cur' 3 (0, 0)) → cur'.size = c → cur'.toList.take (xs.length + 1) = ints (insL xs i k) → w.grownBy w' (some g) → InsDone w w' (.slice (some ⟨g, 0, none⟩) xs.length c) (.slice (some ⟨g, 0, none⟩) (xs.length + 1) c) (ints (insL xs i k)) := fun w' cur' e1 e2 e3 e4 => by
        rw [← hiL] at e3 ⊢
        exact ⟨own_of e1 e2 e3 (by omega) hcm, e4, .inl rfl⟩
      have hc63 : c ≤ 9223372036854775807 := by simpa [maxLen] using hcm
      by_cases hlt : i < xs.length
      · refine (Any2.slices_Insert_int_shift laidI g 0 xs.length c i vb 0 1 1 (ints xs) [.int .i64 k] w hlt (by omega) hroom hc63 hne (ints_len xs) rfl hcell (fun j hj => hspare j (by omega)) (fun j _ => froz_of hh _) hvs (one_ints xs) h1v 3 3 1 c (shape_of hvb) (by rw [shape_of hh, hsz]) (by omega) (froz_of hvb _) (froz_of hvb _)).mono fun e w' ⟨he, hw⟩ => ?_
        refine ⟨_, he, ?_⟩
        have hdl : (List.drop i (ints xs)).length = xs.length - i := by rw [List.length_drop, ints_len]
        obtain ⟨c1, a1, a2, a3, a4, a5, a6, a7⟩ := set_cells (b := g) (T := 3) ((ints xs).drop i) (0 + (i + 1)) w.drew cur hh (by rw [hdl]; omega)
        have hs1 : c1.size = c := by rw [size_put a2 (by rw [hdl]; omega), hsz]
        obtain ⟨c2, b1, b2, b3, b4, b5, b6, b7⟩ := set_cells (b := g) (T := 3) [.int .i64 k] (0 + i) (w.drew.setCells g (0 + (i + 1)) ((ints xs).drop i)) c1 a1 (by rw [hs1]; simp; omega)
        rw [hw]
        refine hdone _ c2 b1 (by rw [size_put b2 (by rw [hs1]; simp; omega), hs1]) ?_ ⟨b4.trans a4, b5.trans a5, b6.trans a6, by rw [b3, a3]; exact Nat.le_refl _, fun j hj hne' => ?_⟩
        · have hcu : cur.toList.length = c := by rw [Array.length_toList, hsz]
          have ht : cur.toList.take i = (ints xs).take i := by rw [← htk, List.take_take, Nat.min_eq_left (by omega)]
          rw [b2, a2, ints_ins]
          unfold putL
          simp only [Nat.zero_add, hdl, List.length_singleton]
          have l1 : (cur.toList.take (i + 1)).length = i + 1 := by rw [List.length_take, hcu]; omega
          have e1 : ((cur.toList.take (i + 1) ++ (ints xs).drop i ++ cur.toList.drop (i + 1 + (xs.length - i)))).take i = (ints xs).take i := by
            rw [List.append_assoc, List.take_append_of_le_length (by omega), List.take_take, Nat.min_eq_left (by omega), ht]
          have e2 : ((cur.toList.take (i + 1) ++ (ints xs).drop i ++ cur.toList.drop (i + 1 + (xs.length - i)))).drop (i + 1) = (ints xs).drop i ++ cur.toList.drop (i + 1 + (xs.length - i)) := by
            rw [List.append_assoc, List.drop_append_of_le_length (by omega), List.drop_of_length_le (by omega), List.nil_append]
          rw [e1, e2]
          have l2 : ((ints xs).take i).length = i := by rw [List.length_take, ints_len]; omega
          rw [← List.append_assoc, List.take_append_of_le_length (by simp only [List.length_append, l2, hdl, List.length_singleton]; omega), List.take_of_length_le (by simp only [List.length_append, l2, hdl, List.length_singleton]; omega), List.append_assoc]; rfl
        · have hj' : j ≠ g := fun e => hne' (by rw [e])
          rw [b7 j hj', a7 j hj']; rfl
      · obtain rfl : i = xs.length := by omega
        refine (Any2.slices_Insert_int_end_room laidI g 0 xs.length c vb 0 1 1 [.int .i64 k] w (by omega) hroom hc63 rfl (fun j hj => by rw [Nat.add_assoc]; exact hspare _ (by omega)) (fun j _ => froz_of hh _) hvs h1v).mono fun e w' ⟨he, hw⟩ => ?_
        refine ⟨_, he, ?_⟩
        obtain ⟨c1, a1, a2, a3, a4, a5, a6, a7⟩ := set_cells (b := g) (T := 3) [.int .i64 k] (0 + xs.length) w cur hh (by simp; omega)
        rw [hw]
        refine hdone _ c1 a1 (by rw [size_put a2 (by simp; omega), hsz]) ?_ ⟨a4, a5, a6, by rw [a3]; exact Nat.le_refl _, fun j hj hne' => a7 j fun e => hne' (by rw [e])⟩
        have l2 : (ints xs).length = xs.length := ints_len xs
        rw [a2, ints_ins]
        unfold putL
        simp only [Nat.zero_add, List.length_singleton]
        rw [htk, List.take_of_length_le (l := ints xs) (by omega), List.drop_of_length_le (l := ints xs) (by omega), List.take_append_of_le_length (by simp; omega), List.take_of_length_le (by simp; omega)]
    · by_cases hlt : i < xs.length
      · refine (Any2.slices_Insert_int_grow laidI g 0 xs.length c i vb 0 1 1 (ints xs) [.int .i64 k] w hlt (by omega) hnc (by omega) (by omega) (ints_len xs) rfl hcell hvs (one_ints xs) h1v).mono fun e w' ⟨he, hw⟩ => ?_
        refine ⟨_, he, ?_⟩
        have hge := grownCap_ge w (xs.length + 1) c (rhoI.t 3)
        have hle := grownCap_le_maxLen w (xs.length + 1) c (rhoI.t 3) (by omega)
        generalize grownCap w (xs.length + 1) c (rhoI.t 3) = C at *
        have hz : ∀ n, (Builtin.zeroCells (Value.int .i64 0).cells n).size = n := fun n => by rw [size_zeroCells]; simp [Value.cells]
        have hdl : (List.drop i (ints xs)).length = xs.length - i := by rw [List.length_drop, ints_len]
        have htl : (List.take i (ints xs)).length = i := by rw [List.length_take, ints_len]; omega
        obtain ⟨nb, hnb⟩ : ∃ nb, nb = ((ints xs).take i).toArray ++ Builtin.zeroCells (Value.int .i64 0).cells (xs.length + 1 - i) ++ Builtin.zeroCells (Value.int .i64 0).cells (C - (xs.length + 1)) := ⟨_, rfl⟩
        have hns : nb.size = C := by rw [hnb]; simp only [Array.size_append, hz]; simp only [List.size_toArray, htl]; omega
        have hnt : nb.toList.take i = (ints xs).take i := by rw [hnb]; simp only [Array.toList_append, List.append_assoc]; rw [List.take_append_of_le_length (by simp only [htl]; exact Nat.le_refl _), List.take_of_length_le (by simp only [htl]; exact Nat.le_refl _)]
        rw [← hnb] at hw
        have h0 : (w.alloc (.cells nb 3)).drew.heap[w.heap.size]? = some (.cells nb 3 (0, 0)) := alloc_new w _
        obtain ⟨c1, a1, a2, a3, a4, a5, a6, a7⟩ := set_cells (b := w.heap.size) (T := 3) [.int .i64 k] i (w.alloc (.cells nb 3)).drew nb h0 (by rw [hns]; simp; omega)
        have hs1 : c1.size = C := by rw [size_put a2 (by rw [hns]; simp; omega), hns]
        obtain ⟨c2, b1, b2, b3, b4, b5, b6, b7⟩ := set_cells (b := w.heap.size) (T := 3) ((ints xs).drop i) (i + 1) ((w.alloc (.cells nb 3)).drew.setCells w.heap.size i [.int .i64 k]).drew c1 a1 (by rw [hs1, hdl]; omega)
        rw [hw, ← hiL]
        rw [← hiL] at hge
        have hal : (w.alloc (.cells nb 3)).drew.heap.size = w.heap.size + 1 := by show (w.heap.push _).size = _; simp
        refine ⟨own_of b1 (by rw [size_put b2 (by rw [hs1, hdl]; omega), hs1]) ?_ hge hle, ⟨b4.trans a4, b5.trans a5, b6.trans a6, ?_, fun j hj _ => ?_⟩, .inr rfl⟩
        · have hcu : nb.toList.length = C := by rw [Array.length_toList, hns]
          rw [hiL, b2, a2, ints_ins]
          unfold putL
          simp only [hdl, List.length_singleton]
          have l1 : (nb.toList.take i).length = i := by rw [List.length_take, hcu]; omega
          have e1 : ((nb.toList.take i ++ [Value.int .i64 k] ++ nb.toList.drop (i + 1))).take (i + 1) = (ints xs).take i ++ [.int .i64 k] := by
            rw [List.take_append_of_le_length (by simp; omega), List.take_of_length_le (by simp; omega), hnt]
          rw [e1]
          rw [List.take_append_of_le_length (by simp only [List.length_append, htl, hdl, List.length_singleton]; omega), List.take_of_length_le (by simp only [List.length_append, htl, hdl, List.length_singleton]; omega), List.append_assoc]; rfl
        · exact Nat.le_trans (Nat.le_succ _) (Nat.le_of_eq (b3.trans (a3.trans hal)).symm)
        · have hjn : j ≠ w.heap.size := by omega
          exact (b7 j hjn).trans ((a7 j hjn).trans (Below.heap_alloc w _ j hj))
      · refine hgrow (some ⟨g, 0, none⟩) c hnc (by omega) (by omega) (fun h => by cases h) (fun a ha j x hj => ?_)
        obtain rfl := Option.some.inj ha
        rw [Addr.add_lit]
        exact hcell j x hj
end Go.Proofs.Ytpnndljmhpepgaa

namespace Go.Proofs.Ytpnndljmhpepgaa
open Go Go.T Go.RowKit
theorem own_len {w : World} {v : Value} {n m : Nat} {l : List Value} (e : n = m) (h1 : l.length = n * 1) (h2 : (v = .slice none 0 0 ∧ n = 0) ∨ ∃ g cap cur, v = .slice (some ⟨g, 0, none⟩) n cap ∧ 0 ≤ g ∧ w.heap[g]? = some (.cells cur 3 (0, 0)) ∧ n ≤ cap ∧ cap ≤ maxLen ∧ cur.size = cap * 1 ∧ cur.toList.take (n * 1) = l) : w.ownsRow 0 3 1 v m l := e ▸ ⟨h1, h2⟩
section
variable {fr : Fr} {ops : Array Oper} {A : As} {rest : List Oper} {K : As → List (As × Fx) → Prop} {d : Nat} {t ty' : TypeId} {p : String} {e : Array Edge} {x y z : Operand}
theorem run_callIns (vs : Array Value) (w : World) : (callFunc 109 vs).run Try.prog w = .ok (.enter 109 vs) w := by
  have hn' : Try.f109.name ≠ "runtime.NumGoroutine" := by
    have h : (Try.f109.name == "runtime.NumGoroutine") = false := by kernel_rfl
    simpa using h
  have hb' : Try.f109.body ≠ none := fun h => by
    have hb : Try.f109.body.isNone = false := by kernel_rfl
    rw [h] at hb; cases hb
  simp [callFunc, Try.func109, hn', hb']
theorem r_insert (tg : Nat) {xs : List Int} {i : Nat} {k : Int} {ats : Array TypeId} (hx : (A.op fr x).Sub (.row I64 3 tg xs)) (hy : A.op fr y = .int .i64 (i : Nat)) (hz : A.op fr z = pxTy 3 #[.int .i64 k]) (hi : i ≤ xs.length) (hl : xs.length ≤ 1000000) (h1 : 1 ≤ tg) (hp : fr.pass.contains tg = false)
    (h : TOps Try.prog fr ops rest (A.after { d := some d, ty := .row I64 3 tg (insL xs i k), K := [tg], rs := opR x ++ (opR y ++ opR z) }) fun A' l => K A' ((A, { d := some d, ty := .row I64 3 tg (insL xs i k), K := [tg], rs := opR x ++ (opR y ++ opR z) }) :: l)) :
    TOps Try.prog fr ops (⟨some d, .call ⟨.value (.func 109), #[x, y, z], ats⟩, t, p, e, none⟩ :: rest) A K := by
  refine ⟨_, ⟨rfl, by simp, by simp, by simp only [List.mem_singleton]; intro u hu; subst hu; exact ⟨h1, by simpa using hp⟩, fun a w M wf _ hrd _ => ?_⟩, h⟩
  rw [if_pos (by simp [Region.wanted])]
  have hdx := op_den (x := x) (fun _ h => List.mem_append_left _ h) hrd
  have hdy := op_den (x := y) (fun _ h => List.mem_append_right _ (List.mem_append_left _ h)) hrd
  have hdz := op_den (x := z) (fun _ h => List.mem_append_right _ (List.mem_append_right _ h)) hrd
  rw [hy] at hdy
  rw [hz] at hdz
  have ey : a.eval y = .int .i64 (i : Nat) := hdy
  have hrow : dRow I64 3 tg xs w M (a.eval x) := hx _ _ _ hdx
  have hc := ins_run h1 hrow hdz hi hl
  have hrun : (execOp a.eval ⟨some d, .call ⟨.value (.func 109), #[x, y, z], ats⟩, t, p, e, none⟩).run Try.prog w = .ok (.enter 109 #[a.eval x, .int .i64 i, a.eval z]) w := by
    rw [← ey]
    simp [execOp, resolve, Act.eval, Deferred.ofValue, invoke]
  refine wp_in_enter hrun ?_
  refine hc.mono fun en w' ⟨v', he, hown, hgr, hob⟩ => ?_
  obtain ⟨cs0, _, _, hM⟩ := hrow
  have hb : ∀ b, v'.ownBlock = some b → b < w'.heap.size := by
    intro b hb
    rcases hown.2 with ⟨rfl, _⟩ | ⟨g, cap, cur, rfl, _, hh, _⟩
    · simp [Value.ownBlock] at hb
    · simp [Value.ownBlock] at hb; subst hb; exact (Array.getElem?_eq_some_iff.1 hh).1
  have hle := retag_le (t := tg) (g := v'.ownBlock) hgr.size hgr.os hgr.tape hgr.output (fun b hb hlt => by
      rcases hob with e | e
      · exact hM b (e ▸ hb)
      · exact absurd hlt (by rw [← Option.some.inj (e.symm.trans hb)]; exact Nat.lt_irrefl _)) (fun b hlt hne => hgr.block b hlt (fun e => hne (hM b e.symm))) wf
  refine ⟨v', he, v', rfl, retag M tg v'.ownBlock, retag_wf wf hgr.size hb, hle, ⟨ints (insL xs i k), ?_, ints_dens _, fun g hg => by simp [retag, hg]⟩, by simp⟩
  exact own_len (ints_len _) hown.1 hown.2
theorem r_buildPx {k : Int} (hx : A.op fr x = .int .i64 k)
    (h : TOps Try.prog fr ops rest (A.set d (pxTy 3 #[.int .i64 k])) fun A' l' => K A' ((A, { d := some d, ty := pxTy 3 #[.int .i64 k], rs := opR x }) :: l')) : TOps Try.prog fr ops (⟨some d, .buildSlice 22 1 #[(0, x)], t, p, e, none⟩ :: rest) A K := by
  refine ⟨_, opT_mem (f := { d := some d, ty := pxTy 3 #[.int .i64 k], rs := opR x }) rfl rfl (by simp) (by simp) (by simp) fun a w M wf hr _ => ?_, h⟩
  have hd := op_den (x := x) (fun _ h => h) hr
  rw [hx] at hd
  have ex : a.eval x = .int .i64 k := hd
  obtain ⟨h3, h4, h5⟩ := le_new wf (.cells #[.int .i64 k] 3)
  refine ⟨.slice (some ⟨w.heap.size, 0, none⟩) 1 1, w.alloc (.cells #[.int .i64 k] 3), ?_, M, h3, h4, ⟨w.heap.size, rfl, h5, alloc_new _ _⟩, by simp⟩
  have hu : Try.prog.underlying 22 = some (.slice 3) := by kernel_rfl
  have hz : ∀ w, (zeroValue 3).run Try.prog w = .ok (.int .i64 0) w := fun w => run_zeroOf (by kernel_rfl) w
  have hs : ∀ w, (sizeOf 3).run Try.prog w = .ok 1 w := fun w => run_sizeOf' (P := Try.prog) (t := 3) rfl w
  simp [execOp, Instr.buildSlice, run_underlying hu, hs, hz, ex, newRow, newObj, Sem.run, Value.cells, Instr.fill, show Array.range 1 = #[0] from rfl]
end
end Go.Proofs.Ytpnndljmhpepgaa

namespace Go.Proofs.Ytpnndljmhpepgaa
open Go Go.T
set_option maxHeartbeats 2000000
attribute [local irreducible] dInt dBool dSl dPp dPtr dAgg dTup dClo dAny dEx dStr dGd dCells dVec dVs dRow dOp nth Tri Into TOps Ctr bodyPost Exit.then Exit.inBlock Code.wp Code.wpIn dWhen dPa dPe dAo dArr dMp dPm dMap dCJ CtrG CtrI OpY keepPost iterPost bodyPostM roundQ
set_option maxRecDepth 100000 in
theorem c_Shuffle (s : Sk) (n : Nat) (hn : n ≤ 1000) (h : s.Ok (n + 1)) : CtrG Try.prog 54 [1000] [(1000, Cont.cells 141 (skTys s))] [Ty.ptr 1000 0, Ty.int .i64 (n : Nat)] [(1000, Cont.cells 141 (skTys (shufUp s n).2))] (Ty.sl I64 (shufUp s n).1) := by
  refine fnG_intro Try.func54 rfl (by decide) Try.ntmps54 (by exact Nat.le_of_ble_eq_true rfl) fun w0 M0 => ?_
  have h0 : 0 ≤ s.taken ∧ s.taken + (n + 1) ≤ 4611686018427387904 := h
  refine t_seq ?_
  refine t_region ?_
  refine asX rfl ?_
  refine r_nil ?_
  refine i_then ?_
  refine t_seq ?_
  refine t_region ?_
  refine asX rfl ?_
  refine r_nil ?_
  refine i_then ?_
  refine t_seq ?_
  refine t_seq ?_
  refine t_region ?_
  refine mvI rfl ?_
  refine mvI rfl ?_
  refine r_nil ?_
  refine i_then ?_
  refine t_block ?_
  refine t_loop (fun (k : {k : Nat // k ≤ n}) => live [(0, Ty.ptr 1000 0), (5, Ty.row I64 3 19 (shufUp s k.1).1), (7, Ty.int .i64 (n : Nat)), (8, Ty.int .i64 (k.1 : Nat))] [(1000, Cont.cells 141 (skTys (shufUp s k.1).2))]) (fun k => n - k.1) (⟨0, by omega⟩) ?_ fun k => ?_
  · (refine Ent.mk' ?_ ?_ <;> (repeat' (first | exact allSub_zero | exact allTags_nil | refine allSub_succ' ?_ (Ty.sub_any _) | refine allSub_succ' ?_ (Ty.sub_refl _) | refine allSub_succ' ?_ Ty.nil_row | refine allTags_cons rfl (Cont.sub_refl _) ?_)))
  ·
    obtain ⟨hs1, _, _, hs4⟩ := shuf_spec s k.1
    have hk2 := k.2
    refine t_seq ?_
    refine t_region ?_
    refine r_bin rfl rfl rfl ?_
    refine r_nil ?_
    refine i_then ?_
    refine t_seq ?_
    refine t_cond_dec rfl (fun hc1 => ?_) (fun hc1 => ?_)
    ·
      refine t_skip ?_
      refine i_then ?_
      refine t_seq ?_
      refine t_block ?_
      refine t_seq ?_
      refine t_region ?_
      refine mvI rfl ?_
      refine asI rfl ?_
      refine r_nil ?_
      refine i_then ?_
      have hok : (shufUp s k.1).2.Ok 1 := ⟨by omega, by omega⟩
      have hb := skBelow_bound (shufUp s k.1).2 ((k.1 : Int) + 1)
      refine t_region ?_
      refine mvR rfl ?_
      refine mvO rfl ?_
      refine mvI rfl ?_
      refine r_add rfl rfl (by omega) (by omega) ?_
      refine r_callG [(1000, 1000)] [] [(1000, Cont.cells 141 (skTys (skNext (shufUp s k.1).2)))] (c_Below (shufUp s k.1).2 hok _) rfl rfl (by repeat (first | exact cv_nil | refine cv_cons ?_ ?_ | exact cv_ptr List.mem_cons_self | exact cv_pub rfl rfl)) (pre_cons (a := 1000) (b := 1000) (by exact List.mem_cons_self) rfl (cc_cells_eq (by exact List.mem_cons_self) rfl rfl rfl) pre_nil) (post_cons (a := 1000) (b := 1000) (by exact List.mem_cons_self) rfl (cc_cells_eq (by exact List.mem_cons_self) rfl rfl rfl) post_nil) (cv_pub rfl rfl) ?_
      refine mvI rfl ?_
      refine r_buildPx rfl ?_
      refine r_insert 19 (i := (skBelow (shufUp s k.1).2 ((k.1 : Int) + 1)).toNat) (k := (k.1 : Nat)) (Ty.sub_refl _) (congrArg (Ty.int .i64) (Int.toNat_of_nonneg hb.1).symm) rfl (by omega) (by omega) (by decide) rfl ?_
      refine asR rfl ?_
      refine r_nil ?_
      refine i_block ?_
      refine i_then ?_
      refine t_region ?_
      refine r_add rfl rfl (by omega) (by omega) ?_
      refine mvI rfl ?_
      refine r_nil ?_
      refine i_round (⟨k.1 + 1, by omega⟩) ?_ (by show n - (k.1 + 1) < n - k.1; omega)
      (refine Ent.mk' ?_ ?_ <;> (repeat' (first | exact allSub_zero | exact allTags_nil | refine allSub_succ' ?_ (Ty.sub_any _) | refine allSub_succ' ?_ (Ty.sub_refl _) | refine allTags_cons rfl (Cont.sub_refl _) ?_)))
      all_goals skip
    ·
      refine t_exit ?_
      refine i_then_exit ?_
      refine i_then_exit ?_
      refine i_block_exit rfl ?_
      refine i_then ?_
      refine t_seq ?_
      obtain ⟨k, hk⟩ := k
      obtain rfl : k = n := by have h1 : ¬ (k : Int) < (n : Int) := hc1; have h2 : k ≤ n := hk; omega
      refine t_region ?_
      refine mvR rfl ?_
      refine asR rfl ?_
      refine r_nil ?_
      refine i_then ?_
      refine t_ret ?_
      refine g_ret1 [1000] rfl rfl (by decide) (by repeat (first | exact rc_nil | refine rc_cons rfl (cc_cells_eq (by decide) rfl rfl rfl) ?_)) ?_
      all_goals exact rg_row (by decide) rfl rfl
      all_goals exact rg_row (by decide) rfl rfl
end Go.Proofs.Ytpnndljmhpepgaa

namespace Go.Proofs.Ytpnndljmhpepgaa
open Go Go.T
theorem skAmong_in (s : Sk) {lo hi : Int} (h : lo ≤ hi) : lo ≤ skAmong s lo hi ∧ skAmong s lo hi ≤ hi := by
  have := skBelow_bound s (hi - lo + 1)
  unfold skAmong; omega
theorem right_check {b : Barn} (h : b.Right) : checkB b = 0 := by
  have hb := h.bins
  have h1 : manyB b = false := by
    unfold manyB
    rw [Bool.or_eq_false_iff, Bool.not_eq_false', inB_true, decide_eq_false_iff_not]
    have := h.lots; omega
  have h2 : rangeB b = false := by
    unfold rangeB
    rw [Bool.or_eq_false_iff, Bool.not_eq_false', Bool.not_eq_false', List.all_eq_true, List.all_eq_true]
    exact ⟨fun n hn => inB_true.2 (h.size n hn), fun l hl => inB_true.2 (h.sacks l hl)⟩
  have h3 : notB b = false := by
    unfold notB
    rw [Bool.not_eq_false', List.all_eq_true]
    intro l hl
    have e1 := h.inn l hl
    have e2 := h.aim l hl
    simp only [Bool.and_eq_true, Bool.or_eq_true, decide_eq_true_eq, Barn.bin, inB_true]
    omega
  have h4 : twiceB b = false := by
    unfold twiceB
    rw [any_range_false]
    intro i hi
    unfold twiceI
    rw [List.any_eq_false]
    intro x hx
    rw [List.mem_take_iff_getElem] at hx
    obtain ⟨k, hk, rfl⟩ := hx
    rw [← nth_lt]
    obtain ⟨e1, e2⟩ := h.apart i k (by omega) hi
    simp only [clashL, Bool.or_eq_true, Bool.and_eq_true, decide_eq_true_eq, Bool.not_eq_true', decide_eq_false_iff_not, not_or, not_and]
    exact ⟨e1, fun e => by have := e2 e; omega⟩
  have h5 : fullB b = false := by
    unfold fullB
    rw [any_range_false]
    intro i hi
    obtain ⟨e1, e2⟩ := h.holds i hi
    simp only [fullI, Barn.hold, Bool.or_eq_false_iff, Bool.not_eq_false', decide_eq_true_eq, Bool.and_eq_false_iff, Int.toNat_natCast]
    refine ⟨e1, ?_⟩
    by_cases e : (nth b.lots i).aim = -1
    · exact .inl e
    · exact .inr (e2 e)
  unfold checkB
  rw [if_neg (by rw [h1]; decide), if_neg (by rw [h2]; decide), if_neg (by rw [h3]; decide), if_neg (by rw [h4]; decide), if_neg (by rw [h5]; decide)]
def sizeUp (s : Sk) : Nat → List Int × Sk
  | 0 => ([], s)
  | k + 1 => ((sizeUp s k).1 ++ [skAmong (sizeUp s k).2 20 60], skNext (sizeUp s k).2)
theorem sizeUp_ok (s : Sk) : ∀ k, (sizeUp s k).1.length = k ∧ (∀ x ∈ (sizeUp s k).1, 20 ≤ x ∧ x ≤ 60) ∧ (sizeUp s k).2.taken = s.taken + k
  | 0 => ⟨rfl, fun x h => (by cases h), by simp [sizeUp]⟩
  | k + 1 => by
    obtain ⟨h1, h2, h3⟩ := sizeUp_ok s k
    refine ⟨by show ((sizeUp s k).1 ++ [_]).length = _; rw [List.length_append, h1]; rfl, fun x hx => ?_, by show (skNext _).taken = _; rw [skNext_taken, h3]; omega⟩
    rcases List.mem_append.1 (show x ∈ (sizeUp s k).1 ++ [skAmong (sizeUp s k).2 20 60] from hx) with hx | hx
    · exact h2 x hx
    · rw [List.mem_singleton.1 hx]; exact skAmong_in _ (by omega)
structure Md where
  s : Sk
  bins : Int
  lots : Int
def Md.n (d : Md) : Nat := (skAmong d.s 2 d.bins).toNat
def Md.up (d : Md) (k : Nat) : List Int × Sk := sizeUp (skNext d.s) k
def Md.sizes (d : Md) : List Int := (d.up d.n).1
def Md.many (d : Md) : Nat := (skBelow (d.up d.n).2 (min d.lots (d.n : Nat) + 1)).toNat
def Md.to (d : Md) : List Int × Sk := shufUp (skNext (d.up d.n).2) d.n
def Md.ks (d : Md) : List Int × Sk := shufUp d.to.2 d.n
def Md.aimV (d : Md) (s : Sk) (k : Nat) : Int := if skRare (skNext s) 4 = true then -1 else nth d.to.1 k
def Md.sackV (d : Md) (s : Sk) (k : Nat) : Int := skAmong s 1 (nth d.sizes (nth d.ks.1 k).toNat)
def Md.lotV (d : Md) (s : Sk) (k : Nat) : Lot := ⟨if d.aimV s k ≠ -1 ∧ nth d.sizes (d.aimV s k).toNat < d.sackV s k then nth d.sizes (d.aimV s k).toNat else d.sackV s k, nth d.ks.1 k, d.aimV s k⟩
def Md.lt (d : Md) : Nat → List Lot × Sk
  | 0 => ([], d.ks.2)
  | k + 1 => ((d.lt k).1 ++ [d.lotV (d.lt k).2 k], skNext (skNext (d.lt k).2))
def Md.barn (d : Md) : Barn := ⟨d.sizes, (d.lt d.many).1⟩
def Md.sk (d : Md) : Sk := (d.lt d.many).2
structure Md.Ok (d : Md) : Prop where
  bins : 2 ≤ d.bins ∧ d.bins ≤ 7
  lots : 0 ≤ d.lots ∧ d.lots ≤ 6
variable {d : Md}
theorem Md.n_in (h : d.Ok) : 2 ≤ d.n ∧ d.n ≤ 7 ∧ (d.n : Int) ≤ d.bins ∧ (d.n : Int) = skAmong d.s 2 d.bins := by
  have h1 := skAmong_in d.s h.bins.1
  have h2 := h.bins
  unfold Md.n; omega
theorem Md.sizes_ok (d : Md) : d.sizes.length = d.n ∧ (∀ x ∈ d.sizes, 20 ≤ x ∧ x ≤ 60) := ⟨(sizeUp_ok _ _).1, (sizeUp_ok _ _).2.1⟩
theorem Md.up_taken (d : Md) (k : Nat) : (d.up k).2.taken = d.s.taken + 1 + k := by
  have := (sizeUp_ok (skNext d.s) k).2.2
  rw [skNext_taken] at this; exact this
theorem Md.many_in (h : d.Ok) : d.many ≤ d.n ∧ (d.many : Int) ≤ d.lots ∧ (d.many : Int) = skBelow (d.up d.n).2 (min d.lots (d.n : Nat) + 1) := by
  have h1 := skBelow_bound (d.up d.n).2 (min d.lots (d.n : Nat) + 1)
  have h2 := h.lots
  unfold Md.many; omega
theorem Md.to_ok (d : Md) : d.to.1.length = d.n ∧ d.to.1.Nodup ∧ (∀ x ∈ d.to.1, 0 ≤ x ∧ x < (d.n : Int)) ∧ d.to.2.taken = d.s.taken + 2 + 2 * d.n := by
  obtain ⟨h1, h2, h3, h4⟩ := shuf_spec (skNext (d.up d.n).2) d.n
  refine ⟨h1, h2, fun x hx => (h3 x).1 hx, ?_⟩
  show (shufUp _ _).2.taken = _
  rw [h4, skNext_taken, d.up_taken]; omega
theorem Md.ks_ok (d : Md) : d.ks.1.length = d.n ∧ d.ks.1.Nodup ∧ (∀ x ∈ d.ks.1, 0 ≤ x ∧ x < (d.n : Int)) ∧ d.ks.2.taken = d.s.taken + 2 + 3 * d.n := by
  obtain ⟨h1, h2, h3, h4⟩ := shuf_spec d.to.2 d.n
  refine ⟨h1, h2, fun x hx => (h3 x).1 hx, ?_⟩
  show (shufUp _ _).2.taken = _
  rw [h4, d.to_ok.2.2.2]; omega
theorem Md.lt_len (d : Md) : ∀ k, (d.lt k).1.length = k ∧ (d.lt k).2.taken = d.s.taken + 2 + 3 * d.n + 2 * k
  | 0 => ⟨rfl, by show d.ks.2.taken = _; rw [d.ks_ok.2.2.2]; simp⟩
  | k + 1 => by
    obtain ⟨h1, h2⟩ := d.lt_len k
    refine ⟨by show ((d.lt k).1 ++ [_]).length = _; rw [List.length_append, h1]; rfl, ?_⟩
    show (skNext (skNext _)).taken = _
    rw [skNext_taken, skNext_taken, h2]; omega
theorem Md.lt_nth (d : Md) : ∀ k i, i < k → nth (d.lt k).1 i = d.lotV (d.lt i).2 i
  | 0, i, h => by omega
  | k + 1, i, h => by
    have hl := (d.lt_len k).1
    show nth ((d.lt k).1 ++ [d.lotV (d.lt k).2 k]) i = _
    unfold nth
    by_cases e : i < k
    · rw [List.getD_eq_getElem?_getD, List.getElem?_append_left (by omega), ← List.getD_eq_getElem?_getD]
      exact d.lt_nth k i e
    · have e : i = k := by omega
      subst e
      rw [List.getD_eq_getElem?_getD, List.getElem?_append_right (by omega), hl]; simp
theorem Md.size_at (d : Md) {x : Int} (h : 0 ≤ x ∧ x < (d.n : Int)) : 20 ≤ nth d.sizes x.toNat ∧ nth d.sizes x.toNat ≤ 60 := d.sizes_ok.2 _ (nth_mem (by rw [d.sizes_ok.1]; omega))
theorem nodup_nth {l : List Int} (h : l.Nodup) {i k : Nat} (hi : i < l.length) (hk : k < l.length) (e : nth l i = nth l k) : i = k := by
  rw [nth_lt hi, nth_lt hk] at e
  rw [List.nodup_iff_pairwise_ne, List.pairwise_iff_getElem] at h
  rcases Nat.lt_trichotomy i k with c | c | c
  · exact absurd e (h i k hi hk c)
  · exact c
  · exact absurd e.symm (h k i hk hi c)
theorem Md.lot_ok (d : Md) (s : Sk) {k : Nat} (hk : k < d.n) : (0 ≤ nth d.ks.1 k ∧ nth d.ks.1 k < (d.n : Int)) ∧ (d.aimV s k = -1 ∨ (d.aimV s k = nth d.to.1 k ∧ 0 ≤ nth d.to.1 k ∧ nth d.to.1 k < (d.n : Int))) ∧ 1 ≤ d.sackV s k ∧ d.sackV s k ≤ nth d.sizes (nth d.ks.1 k).toNat := by
  have h1 := d.ks_ok.2.2.1 _ (nth_mem (xs := d.ks.1) (k := k) (by rw [d.ks_ok.1]; exact hk))
  have h2 := d.to_ok.2.2.1 _ (nth_mem (xs := d.to.1) (k := k) (by rw [d.to_ok.1]; exact hk))
  have h3 := d.size_at h1
  refine ⟨h1, ?_, ?_⟩
  · unfold Md.aimV
    by_cases e : skRare (skNext s) 4 = true
    · exact .inl (if_pos e)
    · exact .inr ⟨if_neg e, h2⟩
  · exact skAmong_in s (by omega)
theorem Md.right (h : d.Ok) : d.barn.Right := by
  have hn := d.n_in h
  have hm := d.many_in h
  have hs := d.sizes_ok
  have hl := (d.lt_len d.many).1
  have hlots : d.barn.lots.length = d.many := hl
  have hsz : d.barn.sizes.length = d.n := hs.1
  have key : ∀ l ∈ d.barn.lots, ∃ i, i < d.many ∧ l = d.lotV (d.lt i).2 i := fun l hl' => by
    obtain ⟨i, hi, rfl⟩ := mem_nth hl'
    rw [hlots] at hi
    exact ⟨i, hi, d.lt_nth _ i hi⟩
  have hlo := h.lots
  have hsack : ∀ i, i < d.many → 1 ≤ (d.lotV (d.lt i).2 i).sacks ∧ (d.lotV (d.lt i).2 i).sacks ≤ nth d.sizes (nth d.ks.1 i).toNat ∧ ((d.lotV (d.lt i).2 i).aim ≠ -1 → (d.lotV (d.lt i).2 i).sacks ≤ nth d.sizes (d.lotV (d.lt i).2 i).aim.toNat) := fun i hi => by
    obtain ⟨e1, e2, e3, e4⟩ := d.lot_ok (d.lt i).2 (k := i) (by omega)
    unfold Md.lotV
    show 1 ≤ ite _ _ _ ∧ ite _ _ _ ≤ _ ∧ (d.aimV _ _ ≠ -1 → ite _ _ _ ≤ _)
    by_cases c : d.aimV (d.lt i).2 i ≠ -1 ∧ nth d.sizes (d.aimV (d.lt i).2 i).toNat < d.sackV (d.lt i).2 i
    · rw [if_pos c]
      rcases e2 with e2 | ⟨e2, e5⟩
      · exact absurd e2 c.1
      · have := d.size_at (x := d.aimV (d.lt i).2 i) (by omega)
        exact ⟨by omega, by omega, fun _ => Int.le_refl _⟩
    · rw [if_neg c]
      refine ⟨e3, e4, fun hne => ?_⟩
      show d.sackV (d.lt i).2 i ≤ nth d.sizes (d.aimV (d.lt i).2 i).toNat
      · by_cases c2 : nth d.sizes (d.aimV (d.lt i).2 i).toNat < d.sackV (d.lt i).2 i
        · exact absurd ⟨hne, c2⟩ c
        · omega
  refine ⟨by omega, by omega, fun x hx => by have := hs.2 x hx; omega, fun l hl' => ?_, fun l hl' => ?_, fun l hl' => ?_, fun i k hk hi => ?_, fun i hi => ?_⟩
  · obtain ⟨i, hi, rfl⟩ := key l hl'
    have h1 := hsack i hi
    have h2 := d.size_at (d.lot_ok (d.lt i).2 (k := i) (by omega)).1
    omega
  · obtain ⟨i, hi, rfl⟩ := key l hl'
    have h2 := (d.lot_ok (d.lt i).2 (k := i) (by omega)).1
    show 0 ≤ nth d.ks.1 i ∧ nth d.ks.1 i < _
    rw [hsz]; exact h2
  · obtain ⟨i, hi, rfl⟩ := key l hl'
    have h2 := (d.lot_ok (d.lt i).2 (k := i) (by omega)).2.1
    show -1 ≤ d.aimV _ _ ∧ d.aimV _ _ < _
    rw [hsz]; omega
  · rw [hlots] at hi
    have e1 : nth d.barn.lots i = d.lotV (d.lt i).2 i := d.lt_nth _ i hi
    have e2 : nth d.barn.lots k = d.lotV (d.lt k).2 k := d.lt_nth _ k (by omega)
    rw [e1, e2]
    refine ⟨fun e => ?_, fun e => ?_⟩
    · have := nodup_nth d.ks_ok.2.1 (i := i) (k := k) (by rw [d.ks_ok.1]; omega) (by rw [d.ks_ok.1]; omega) e
      omega
    · have e : d.aimV (d.lt i).2 i = d.aimV (d.lt k).2 k := e
      show d.aimV (d.lt i).2 i = -1
      rcases (d.lot_ok (d.lt i).2 (k := i) (by omega)).2.1 with h1 | ⟨h1, h1'⟩
      · exact h1
      · rcases (d.lot_ok (d.lt k).2 (k := k) (by omega)).2.1 with h2 | ⟨h2, h2'⟩
        · omega
        · have := nodup_nth d.to_ok.2.1 (i := i) (k := k) (by rw [d.to_ok.1]; omega) (by rw [d.to_ok.1]; omega) (by omega)
          omega
  · rw [hlots] at hi
    have e1 : nth d.barn.lots i = d.lotV (d.lt i).2 i := d.lt_nth _ i hi
    rw [e1]
    exact ⟨(hsack i hi).2.1, (hsack i hi).2.2⟩
end Go.Proofs.Ytpnndljmhpepgaa

namespace Go.Proofs.Ytpnndljmhpepgaa
open Go Go.T
set_option maxHeartbeats 4000000
attribute [local irreducible] dInt dBool dSl dPp dPtr dAgg dTup dClo dAny dEx dStr dGd dCells dVec dVs dRow dOp nth Tri Into TOps Ctr bodyPost Exit.then Exit.inBlock Code.wp Code.wpIn dWhen dPa dPe dAo dArr dMp dPm dMap dCJ CtrG CtrI OpY keepPost iterPost bodyPostM roundQ
theorem c_Shuffle_at (s : Sk) (n m : Nat) (e : m = n) (hn : n ≤ 1000) (h : s.Ok (n + 1)) : CtrG Try.prog 54 [1000] [(1000, Cont.cells 141 (skTys s))] [Ty.ptr 1000 0, Ty.int .i64 (m : Nat)] [(1000, Cont.cells 141 (skTys (shufUp s n).2))] (Ty.sl I64 (shufUp s n).1) := by
  subst e; exact c_Shuffle s m hn h
theorem aim_in {d : Md} {s : Sk} {i : Nat} (hi : i < d.n) (h : (!decide (d.aimV s i = -1)) = true) : 0 ≤ d.aimV s i ∧ (d.aimV s i).toNat < d.sizes.length := by
  have h1 := (d.lot_ok s hi).2.1
  have h2 := d.sizes_ok.1
  simp only [Bool.not_eq_true', decide_eq_false_iff_not] at h
  omega
theorem aim_rare {d : Md} {s : Sk} {i : Nat} (h : skRare (skNext s) 4 = true) : -1 = d.aimV s i := (if_pos h).symm
theorem aim_not {d : Md} {s : Sk} {i : Nat} (h : skRare (skNext s) 4 = false) : nth d.to.1 i = d.aimV s i := (if_neg (by rw [h]; decide)).symm
theorem less_yes {a b c : Int} (h : (!decide (a = -1) && decide (b < c)) = true) : a ≠ -1 ∧ b < c := by simpa using h
theorem less_no {a b c : Int} (h : (!decide (a = -1) && decide (b < c)) = false) : ¬ (a ≠ -1 ∧ b < c) := fun ⟨h1, h2⟩ => by rw [decide_eq_false h1, decide_eq_true h2] at h; cases h
theorem sack_less {d : Md} {s : Sk} {i : Nat} (h : (!decide (d.aimV s i = -1) && decide (nth d.sizes (d.aimV s i).toNat < d.sackV s i)) = true) : nth d.sizes (d.aimV s i).toNat = (d.lotV s i).sacks := (if_pos (less_yes h)).symm
theorem sack_same {d : Md} {s : Sk} {i : Nat} (h : (!decide (d.aimV s i = -1) && decide (nth d.sizes (d.aimV s i).toNat < d.sackV s i)) = false) : d.sackV s i = (d.lotV s i).sacks := (if_neg (less_no h)).symm
theorem up_zero (d : Md) : d.up 0 = ([], skNext d.s) := rfl
theorem up_succ (d : Md) (k : Nat) : d.up (k + 1) = ((d.up k).1 ++ [skAmong (d.up k).2 20 60], skNext (d.up k).2) := rfl
theorem lt_zero (d : Md) : d.lt 0 = ([], d.ks.2) := rfl
theorem lt_succ (d : Md) (k : Nat) : d.lt (k + 1) = ((d.lt k).1 ++ [d.lotV (d.lt k).2 k], skNext (skNext (d.lt k).2)) := rfl
theorem to_eq (d : Md) : shufUp (skNext (d.up d.n).2) d.n = d.to := rfl
theorem ks_eq (d : Md) : shufUp d.to.2 d.n = d.ks := rfl
attribute [local irreducible] Md.up Md.to Md.ks Md.lt Md.aimV Md.sackV shufUp Md.n Md.many Md.sizes
set_option maxRecDepth 100000 in
theorem c_Made (d : Md) (hd : d.Ok) (h : d.s.Ok 1000) : CtrG Try.prog 50 [1000] [(1000, Cont.cells 141 (skTys d.s))] [Ty.ptr 1000 0, Ty.int .i64 d.bins, Ty.int .i64 d.lots, Ty.bool false] [(1000, Cont.cells 141 (skTys d.sk))] (barnT d.barn) := by
  refine fnG_intro Try.func50 rfl (by decide) Try.ntmps50 (by exact Nat.le_of_ble_eq_true rfl) fun w0 M0 => ?_
  have h0 : 0 ≤ d.s.taken ∧ d.s.taken + 1000 ≤ 4611686018427387904 := h
  have hdb := hd.bins
  have hdl := hd.lots
  have hn := d.n_in hd
  have hm := d.many_in hd
  have hsz := d.sizes_ok
  have hto := d.to_ok
  have hks := d.ks_ok
  have hs1 := skNext_taken d.s
  have hup : ∀ k, (d.up k).1.length = k ∧ (d.up k).2.taken = d.s.taken + 1 + k := fun k => ⟨by unfold Md.up; exact (sizeUp_ok _ k).1, d.up_taken k⟩
  refine t_seq ?_
  refine t_region ?_
  refine r_alloc rfl (by exact List.cons_ne_nil _ _) rfl ?_
  refine r_nil ?_
  refine i_then ?_
  refine t_seq ?_
  refine t_region ?_
  refine r_alloc rfl (by exact List.cons_ne_nil _ _) rfl ?_
  refine r_nil ?_
  refine i_then ?_
  refine t_seq ?_
  refine t_seq ?_
  refine t_region ?_
  refine mvO rfl ?_
  refine mvI rfl ?_
  refine r_callG [(1000, 1000)] [] [(1000, Cont.cells 141 (skTys (skNext d.s)))] (c_Among d.s ⟨by omega, by omega⟩ 2 d.bins (by omega) (by omega)) rfl rfl (by repeat (first | exact cv_nil | refine cv_cons ?_ ?_ | exact cv_ptr List.mem_cons_self | exact cv_pub rfl rfl)) (pre_cons (a := 1000) (b := 1000) (by exact List.mem_cons_self) rfl (cc_cells_eq (by exact List.mem_cons_self) rfl rfl rfl) pre_nil) (post_cons (a := 1000) (b := 1000) (by exact List.mem_cons_self) rfl (cc_cells_eq (by exact List.mem_cons_self) rfl rfl rfl) post_nil) (cv_pub rfl rfl) ?_
  refine mvI rfl ?_
  refine r_nil ?_
  refine i_then ?_
  refine t_block ?_
  refine t_loop (fun (k : {k : Nat // k ≤ d.n}) => live [(0, Ty.ptr 1000 0), (2, Ty.int .i64 d.lots), (3, Ty.bool false), (8, Ty.ptr 9 0), (9, Ty.ptr 10 0), (18, Ty.int .i64 (d.n : Nat)), (19, Ty.int .i64 (k.1 : Nat))] [(9, Cont.cells 25 [Ty.ex (.slice none 0 0), Ty.ex (.slice none 0 0)]), (10, Cont.cells 25 [Ty.row I64 3 27 (d.up k.1).1, Ty.ex (.slice none 0 0)]), (1000, Cont.cells 141 (skTys (d.up k.1).2))]) (fun k => d.n - k.1) (⟨0, by omega⟩) ?_ fun k => ?_
  · (refine Ent.mk' ?_ ?_ <;> (repeat' (first | exact allSub_zero | exact allTags_nil | exact subs_nil | refine allSub_succ' ?_ (Ty.sub_any _) | refine allSub_succ' ?_ (Ty.sub_refl _) | refine allTags_cons rfl (Cont.sub_refl _) ?_ | refine allTags_cons rfl (Cont.sub_subs ?_) ?_ | refine subs_cons ?_ (Ty.sub_refl _) | refine subs_cons ?_ ?_ | refine allSub_succ' ?_ ?_)))
    all_goals first | exact Ty.sub_int hn.2.2.2.symm | exact Ty.sub_int (congrArg (fun p : List Int × Sk => p.2.mixed) (up_zero d).symm) | exact Ty.sub_int (congrArg (fun p : List Int × Sk => p.2.taken) (up_zero d).symm) | exact Ty.sub_sl (congrArg (fun p : List Int × Sk => p.2.grain) (up_zero d).symm) | exact nil_row_eq (congrArg Prod.fst (up_zero d).symm)
  ·
    have hk := k.2
    have hul := (hup k.1).1
    have hut := (hup k.1).2
    refine t_seq ?_
    refine t_region ?_
    refine r_bin rfl rfl rfl ?_
    refine r_nil ?_
    refine i_then ?_
    refine t_seq ?_
    refine t_cond_dec rfl (fun hc1 => ?_) (fun hc1 => ?_)
    ·
      refine t_skip ?_
      refine i_then ?_
      refine t_seq ?_
      refine t_block ?_
      refine t_draw mixed rfl ?_
      refine r_field_ptr rfl rfl rfl rfl rfl (by decide) ?_
      refine r_load_ptr rfl rfl (by decide) rfl rfl rfl ?_
      refine mvO rfl ?_
      refine r_callG [(1000, 1000)] [] [(1000, Cont.cells 141 (skTys (skNext (d.up k.1).2)))] (c_Among (d.up k.1).2 ⟨by omega, by omega⟩ 20 60 (by omega) (by omega)) rfl rfl (by repeat (first | exact cv_nil | refine cv_cons ?_ ?_ | exact cv_ptr List.mem_cons_self | exact cv_pub rfl rfl)) (pre_cons (a := 1000) (b := 1000) (by exact List.mem_cons_self) rfl (cc_cells_eq (by exact List.mem_cons_self) rfl rfl rfl) pre_nil) (post_cons (a := 1000) (b := 1000) (by exact List.mem_cons_self) rfl (cc_cells_eq (by exact List.mem_cons_self) rfl rfl rfl) post_nil) (cv_pub rfl rfl) ?_
      refine r_buildSlice (E := I64) (xs := [_]) rfl rfl rfl rfl rfl (by decide) (by decide) (by repeat (first | exact (Parts.nil : Parts _ _ [] _) | (show Parts _ _ ((_, _) :: _) _; apply Parts.one; (· exact (rfl : _ = Ty.int _ _)); (· exact rfl)))) (by exact rfl) rfl ?_
      refine r_append rfl rfl (by decide) rfl rfl rfl rfl rfl rfl (by decide) (by (simp <;> omega)) (by (simp <;> omega)) ?_
      refine r_field_ptr rfl rfl rfl rfl rfl (by decide) ?_
      refine r_store1 rfl rfl (by decide) rfl rfl (by exact (rfl : _ = Ty.row _ _ _ _)) rfl (by exact Nat.le_of_ble_eq_true rfl) rfl rfl (by exact rfl) ?_
      refine r_nil ?_
      refine ⟨by kernel_rfl, ?_⟩
      refine i_block ?_
      refine i_then ?_
      refine t_region ?_
      refine r_add rfl rfl (by omega) (by omega) ?_
      refine mvI rfl ?_
      refine r_nil ?_
      refine i_round (⟨k.1 + 1, by omega⟩) ?_ (by show d.n - (k.1 + 1) < d.n - k.1; omega)
      (refine Ent.mk' ?_ ?_ <;> (repeat' (first | exact allSub_zero | exact allTags_nil | exact subs_nil | refine allSub_succ' ?_ (Ty.sub_any _) | refine allSub_succ' ?_ (Ty.sub_refl _) | refine allTags_cons rfl (Cont.sub_refl _) ?_ | refine allTags_cons rfl (Cont.sub_subs ?_) ?_ | refine subs_cons ?_ (Ty.sub_refl _) | refine subs_cons ?_ ?_)))
      all_goals skip
      all_goals first | exact Ty.sub_row (congrArg Prod.fst (up_succ d _)).symm | exact Ty.sub_int (congrArg (fun p : List Int × Sk => p.2.mixed) (up_succ d _).symm) | exact Ty.sub_int (congrArg (fun p : List Int × Sk => p.2.taken) (up_succ d _).symm) | exact Ty.sub_sl (congrArg (fun p : List Int × Sk => p.2.grain) (up_succ d _).symm)
    ·
      refine t_exit ?_
      refine i_then_exit ?_
      refine i_then_exit ?_
      refine i_block_exit rfl ?_
      refine i_then ?_
      refine t_seq ?_
      obtain ⟨k, hk⟩ := k
      obtain rfl : k = d.n := by have h1 : ¬ (k : Int) < (d.n : Int) := hc1; have h2 : k ≤ d.n := hk; omega
      have hun := (hup d.n).1
      have hut := (hup d.n).2
      refine t_region ?_
      refine mvO rfl ?_
      refine mvI rfl ?_
      refine r_field_ptr rfl rfl rfl rfl rfl (by decide) ?_
      refine r_load_ptr rfl rfl (by decide) rfl rfl rfl ?_
      refine r_len_row rfl rfl rfl ?_
      refine r_min rfl rfl ?_
      refine r_add rfl rfl (by omega) (by omega) ?_
      refine r_callG [(1000, 1000)] [] [(1000, Cont.cells 141 (skTys (skNext (d.up d.n).2)))] (c_Below (d.up d.n).2 ⟨by omega, by omega⟩ _) rfl rfl (by repeat (first | exact cv_nil | refine cv_cons ?_ ?_ | exact cv_ptr List.mem_cons_self | exact cv_pub rfl rfl)) (pre_cons (a := 1000) (b := 1000) (by exact List.mem_cons_self) rfl (cc_cells_eq (by exact List.mem_cons_self) rfl rfl rfl) pre_nil) (post_cons (a := 1000) (b := 1000) (by exact List.mem_cons_self) rfl (cc_cells_eq (by exact List.mem_cons_self) rfl rfl rfl) post_nil) (cv_pub rfl rfl) ?_
      refine asI rfl ?_
      refine r_nil ?_
      refine i_then ?_
      refine t_seq ?_
      refine t_seq ?_
      refine t_region ?_
      refine mvB rfl ?_
      refine r_nil ?_
      refine i_then ?_
      refine t_cond_ff rfl (rfl) ?_
      refine t_skip ?_
      refine i_then ?_
      refine t_seq ?_
      have hsn : skNext (d.up d.n).2 = skNext (d.up d.n).2 := rfl
      have hst := skNext_taken (d.up d.n).2
      refine t_as (s := 10) rfl (Ty.sub_int (show skBelow (d.up d.n).2 (min d.lots ((d.up d.n).1.length : Nat) + 1) = (d.many : Nat) by rw [hun]; exact hm.2.2.symm)) ?_
      refine t_asC (tg := 10) rfl (Cont.sub_cells (congrArg (fun l => [Ty.row I64 3 27 l, Ty.ex (.slice none 0 0)]) (show (d.up d.n).1 = d.sizes by unfold Md.sizes; rfl))) ?_
      refine t_pubC (tg := 27) [] [(10, Cont.cells 25 [Ty.sl I64 d.sizes, Ty.ex (.slice none 0 0)])] (by decide) rfl trivial ⟨pubC_cells rfl rfl ⟨pubTy_row, pubTy_same rfl, trivial⟩, trivial⟩ ?_
      refine t_forget (B := live [(0, Ty.ptr 1000 0), (8, Ty.ptr 9 0), (9, Ty.ptr 10 0), (10, Ty.int .i64 (d.many : Nat))] [(9, Cont.cells 25 [Ty.ex (.slice none 0 0), Ty.ex (.slice none 0 0)]), (10, Cont.cells 25 [Ty.sl I64 d.sizes, Ty.ex (.slice none 0 0)]), (1000, Cont.cells 141 (skTys (skNext (d.up d.n).2)))]) ?_ ?_
      · (refine Ent.mk' ?_ ?_ <;> (repeat' (first | exact allSub_zero | exact allTags_nil | refine allSub_succ' ?_ (Ty.sub_any _) | refine allSub_succ' ?_ (Ty.sub_refl _) | refine allTags_cons rfl (Cont.sub_refl _) ?_)))
      refine t_region ?_
      refine mvO rfl ?_
      refine r_field_ptr rfl rfl rfl rfl rfl (by decide) ?_
      refine r_load_ptr rfl rfl (by decide) rfl rfl rfl ?_
      refine r_len rfl rfl rfl ?_
      refine r_callG [(1000, 1000)] [] [(1000, Cont.cells 141 (skTys d.to.2))] (c_Shuffle_at (skNext (d.up d.n).2) d.n d.sizes.length hsz.1 (by omega) ⟨by omega, by omega⟩) rfl rfl (by repeat (first | exact cv_nil | refine cv_cons ?_ ?_ | exact cv_ptr List.mem_cons_self | exact cv_pub rfl rfl)) (pre_cons (a := 1000) (b := 1000) (by exact List.mem_cons_self) rfl (cc_cells_eq (by exact List.mem_cons_self) rfl rfl rfl) pre_nil) (post_cons (a := 1000) (b := 1000) (by exact List.mem_cons_self) rfl (cc_cells_eq (by exact List.mem_cons_self) rfl rfl (by rw [to_eq])) post_nil) (cv_pub rfl rfl) ?_
      refine asS rfl ?_
      refine r_nil ?_
      refine i_then ?_
      refine t_seq ?_
      refine t_seq ?_
      refine t_as (s := 12) rfl (Ty.sub_sl (show (shufUp (skNext (d.up d.n).2) d.n).1 = d.to.1 by rw [to_eq])) ?_
      have hkl : d.many ≤ (shufUp d.to.2 d.n).1.length := by rw [ks_eq, hks.1]; omega
      refine t_region ?_
      refine mvO rfl ?_
      refine r_field_ptr rfl rfl rfl rfl rfl (by decide) ?_
      refine r_load_ptr rfl rfl (by decide) rfl rfl rfl ?_
      refine r_len rfl rfl rfl ?_
      refine r_callG [(1000, 1000)] [] [(1000, Cont.cells 141 (skTys d.ks.2))] (c_Shuffle_at d.to.2 d.n d.sizes.length hsz.1 (by omega) ⟨by omega, by omega⟩) rfl rfl (by repeat (first | exact cv_nil | refine cv_cons ?_ ?_ | exact cv_ptr List.mem_cons_self | exact cv_pub rfl rfl)) (pre_cons (a := 1000) (b := 1000) (by exact List.mem_cons_self) rfl (cc_cells_eq (by exact List.mem_cons_self) rfl rfl rfl) pre_nil) (post_cons (a := 1000) (b := 1000) (by exact List.mem_cons_self) rfl (cc_cells_eq (by exact List.mem_cons_self) rfl rfl (by rw [ks_eq])) post_nil) (cv_pub rfl rfl) ?_
      refine mvI rfl ?_
      refine r_cut_hi rfl rfl rfl rfl rfl rfl hkl ?_
      refine r_len rfl rfl rfl ?_
      refine mvI rfl ?_
      refine r_nil ?_
      refine i_then ?_
      refine t_as (s := 66) rfl (Ty.sub_sl (show (shufUp d.to.2 d.n).1.take d.many = d.ks.1.take d.many by rw [ks_eq])) ?_
      refine t_as (s := 67) rfl (Ty.sub_int (show (((shufUp d.to.2 d.n).1.take d.many).length : Int) = (d.many : Nat) by rw [ks_eq, List.length_take, hks.1]; omega)) ?_
      refine t_block ?_
      refine t_loop (fun (i : {i : Nat // i ≤ d.many}) => live [(0, Ty.ptr 1000 0), (8, Ty.ptr 9 0), (9, Ty.ptr 10 0), (12, Ty.sl I64 d.to.1), (66, Ty.sl I64 (d.ks.1.take d.many)), (67, Ty.int .i64 (d.many : Nat)), (68, Ty.int .i64 (i.1 : Nat))] [(9, Cont.cells 25 [Ty.ex (.slice none 0 0), Ty.ex (.slice none 0 0)]), (10, Cont.cells 25 [Ty.sl I64 d.sizes, Ty.row LotE 57 115 (d.lt i.1).1]), (1000, Cont.cells 141 (skTys (d.lt i.1).2))]) (fun i => d.many - i.1) (⟨0, by omega⟩) ?_ fun i => ?_
      · (refine Ent.mk' ?_ ?_ <;> (repeat' (first | exact allSub_zero | exact allTags_nil | exact subs_nil | refine allSub_succ' ?_ (Ty.sub_any _) | refine allSub_succ' ?_ (Ty.sub_refl _) | refine allTags_cons rfl (Cont.sub_refl _) ?_ | refine allTags_cons rfl (Cont.sub_subs ?_) ?_ | refine subs_cons ?_ (Ty.sub_refl _) | refine subs_cons ?_ ?_)))
        all_goals first | exact Ty.sub_int (congrArg (fun p : List Lot × Sk => p.2.mixed) (lt_zero d).symm) | exact Ty.sub_int (congrArg (fun p : List Lot × Sk => p.2.taken) (lt_zero d).symm) | exact Ty.sub_sl (congrArg (fun p : List Lot × Sk => p.2.grain) (lt_zero d).symm) | exact nil_row_eq (congrArg Prod.fst (lt_zero d).symm)
      ·
        have hi := i.2
        have hll := (d.lt_len i.1).1
        have hlt := (d.lt_len i.1).2
        have hkt : (d.ks.1.take d.many).length = d.many := by rw [List.length_take, hks.1]; omega
        refine t_seq ?_
        refine t_region ?_
        refine r_bin rfl rfl rfl ?_
        refine r_nil ?_
        refine i_then ?_
        refine t_seq ?_
        refine t_cond_dec rfl (fun hc3 => ?_) (fun hc3 => ?_)
        ·
          refine t_skip ?_
          refine i_then ?_
          refine t_seq ?_
          refine t_block ?_
          refine t_seq ?_
          refine t_region ?_
          refine mvI rfl ?_
          refine r_index_slN rfl rfl rfl rfl rfl rfl (by omega) ?_
          refine r_load_pp rfl rfl rfl rfl ?_
          refine asI rfl ?_
          refine asI rfl ?_
          refine r_nil ?_
          refine i_then ?_
          refine t_seq ?_
          have hlo := d.lot_ok (d.lt i.1).2 (k := i.1) (by omega)
          have hlk := hlo.1
          have hlz := d.size_at hlk
          refine t_as (s := 14) rfl (Ty.sub_int (show nth (d.ks.1.take d.many) i.1 = nth d.ks.1 i.1 by rw [nth_lt (by omega), nth_lt (by rw [hks.1]; omega), List.getElem_take])) ?_
          refine t_draw mixed rfl ?_
          refine mvO rfl ?_
          refine r_field_ptr rfl rfl rfl rfl rfl (by decide) ?_
          refine r_load_ptr rfl rfl (by decide) rfl rfl rfl ?_
          refine mvI rfl ?_
          refine r_index_sl rfl rfl rfl rfl rfl rfl hlk.1 (by rw [hsz.1]; omega) ?_
          refine r_load_pp rfl rfl rfl rfl ?_
          refine r_callG [(1000, 1000)] [] [(1000, Cont.cells 141 (skTys (skNext (d.lt i.1).2)))] (c_Among (d.lt i.1).2 ⟨by omega, by omega⟩ 1 (nth d.sizes (nth d.ks.1 i.1).toNat) (by omega) (by omega)) rfl rfl (by repeat (first | exact cv_nil | refine cv_cons ?_ ?_ | exact cv_ptr List.mem_cons_self | exact cv_pub rfl rfl)) (pre_cons (a := 1000) (b := 1000) (by exact List.mem_cons_self) rfl (cc_cells_eq (by exact List.mem_cons_self) rfl rfl rfl) pre_nil) (post_cons (a := 1000) (b := 1000) (by exact List.mem_cons_self) rfl (cc_cells_eq (by exact List.mem_cons_self) rfl rfl rfl) post_nil) (cv_pub rfl rfl) ?_
          refine mvI rfl ?_
          refine mvS rfl ?_
          refine mvI rfl ?_
          refine r_index_slN rfl rfl rfl rfl rfl rfl (by rw [hto.1]; omega) ?_
          refine r_load_pp rfl rfl rfl rfl ?_
          refine r_build rfl rfl (by exact List.cons_ne_nil _ _) rfl (by repeat (first | exact (Parts.nil : Parts _ _ [] _) | (show Parts _ _ ((_, _) :: _) _; apply Parts.one; (· exact (rfl : _ = Ty.int _ _)); (· exact rfl)))) (by exact (rfl : _ = some [_, _, _])) ?_
          refine r_alloc rfl (by exact List.cons_ne_nil _ _) rfl ?_
          refine r_storeN rfl rfl (by decide) rfl rfl rfl rfl rfl rfl ?_
          refine r_nil ?_
          refine ⟨by kernel_rfl, ?_⟩
          refine i_then ?_
          refine t_join (J := live [(0, Ty.ptr 1000 0), (8, Ty.ptr 9 0), (9, Ty.ptr 10 0), (12, Ty.sl I64 d.to.1), (15, Ty.ptr 16 0), (66, Ty.sl I64 (d.ks.1.take d.many)), (67, Ty.int .i64 (d.many : Nat)), (68, Ty.int .i64 (i.1 : Nat))] [(9, Cont.cells 25 [Ty.ex (.slice none 0 0), Ty.ex (.slice none 0 0)]), (10, Cont.cells 25 [Ty.sl I64 d.sizes, Ty.row LotE 57 115 (d.lt i.1).1]), (16, Cont.cells 57 [Ty.int .i64 (d.sackV (d.lt i.1).2 i.1), Ty.int .i64 (nth d.ks.1 i.1), Ty.int .i64 (d.aimV (d.lt i.1).2 i.1)]), (1000, Cont.cells 141 (skTys (skNext (skNext (d.lt i.1).2))))]) ?_ ?_
          ·
            refine t_seq ?_
            have hst2 := skNext_taken (d.lt i.1).2
            refine t_region ?_
            refine mvO rfl ?_
            refine r_callG [(1000, 1000)] [] [(1000, Cont.cells 141 (skTys (skNext (skNext (d.lt i.1).2))))] (c_Rare (skNext (d.lt i.1).2) ⟨by omega, by omega⟩ 4) rfl rfl (by repeat (first | exact cv_nil | refine cv_cons ?_ ?_ | exact cv_ptr List.mem_cons_self | exact cv_pub rfl rfl)) (pre_cons (a := 1000) (b := 1000) (by exact List.mem_cons_self) rfl (cc_cells_eq (by exact List.mem_cons_self) rfl rfl rfl) pre_nil) (post_cons (a := 1000) (b := 1000) (by exact List.mem_cons_self) rfl (cc_cells_eq (by exact List.mem_cons_self) rfl rfl rfl) post_nil) (cv_pub rfl rfl) ?_
            refine r_nil ?_
            refine i_then ?_
            refine t_cond_dec rfl (fun hc4 => ?_) (fun hc4 => ?_)
            ·
              refine t_region ?_
              refine r_field_ptr rfl rfl rfl rfl rfl (by decide) ?_
              refine r_store1 rfl rfl (by decide) rfl rfl (by exact (rfl : _ = Ty.int _ _)) rfl (by exact Nat.le_of_ble_eq_true rfl) rfl rfl (by exact rfl) ?_
              refine r_nil ?_
              refine i_join ?_
              (refine Ent.mk' ?_ ?_ <;> (repeat' (first | exact allSub_zero | exact allTags_nil | exact subs_nil | refine allSub_succ' ?_ (Ty.sub_any _) | refine allSub_succ' ?_ (Ty.sub_refl _) | refine allTags_cons rfl (Cont.sub_refl _) ?_ | refine allTags_cons rfl (Cont.sub_subs ?_) ?_ | refine subs_cons ?_ (Ty.sub_refl _) | refine subs_cons ?_ ?_)))
              all_goals first | exact Ty.sub_int (aim_rare (decide_eq_true hc4)) | exact Ty.sub_int (by unfold Md.sackV; rfl)
            ·
              refine t_skip ?_
              refine i_join ?_
              (refine Ent.mk' ?_ ?_ <;> (repeat' (first | exact allSub_zero | exact allTags_nil | exact subs_nil | refine allSub_succ' ?_ (Ty.sub_any _) | refine allSub_succ' ?_ (Ty.sub_refl _) | refine allTags_cons rfl (Cont.sub_refl _) ?_ | refine allTags_cons rfl (Cont.sub_subs ?_) ?_ | refine subs_cons ?_ (Ty.sub_refl _) | refine subs_cons ?_ ?_)))
              all_goals first | exact Ty.sub_int (aim_not (decide_eq_false hc4)) | exact Ty.sub_int (by unfold Md.sackV; rfl)
          ·
            refine t_join (J := live [(0, Ty.ptr 1000 0), (8, Ty.ptr 9 0), (9, Ty.ptr 10 0), (12, Ty.sl I64 d.to.1), (15, Ty.ptr 16 0), (66, Ty.sl I64 (d.ks.1.take d.many)), (67, Ty.int .i64 (d.many : Nat)), (68, Ty.int .i64 (i.1 : Nat))] [(9, Cont.cells 25 [Ty.ex (.slice none 0 0), Ty.ex (.slice none 0 0)]), (10, Cont.cells 25 [Ty.sl I64 d.sizes, Ty.row LotE 57 115 (d.lt i.1).1]), (16, Cont.cells 57 (LotE.tys (d.lotV (d.lt i.1).2 i.1))), (1000, Cont.cells 141 (skTys (skNext (skNext (d.lt i.1).2))))]) ?_ ?_
            ·
              refine t_seq ?_
              refine t_draw mixed rfl ?_
              refine r_field_ptr rfl rfl rfl rfl rfl (by decide) ?_
              refine r_load_ptr rfl rfl (by decide) rfl rfl rfl ?_
              refine r_bin rfl rfl rfl ?_
              refine mvB rfl ?_
              apply r_guard (s := 92) rfl rfl rfl
              · intro hg; apply opT_of; (refine r_field_ptr rfl rfl rfl rfl rfl (by decide) ?_); refine r_nil ?_; exact rfl
              · exact rfl
              · exact rfl
              apply r_guard (s := 92) rfl rfl rfl
              · intro hg; apply opT_strip (s := 93) rfl (by (rw [hg]; rfl)); apply opT_of; (refine r_load_ptr rfl rfl (by decide) rfl rfl rfl ?_); refine r_nil ?_; exact rfl
              · exact rfl
              · exact rfl
              apply r_guard (s := 92) rfl rfl rfl
              · intro hg; apply opT_of; (refine r_field_ptr rfl rfl rfl rfl rfl (by decide) ?_); refine r_nil ?_; exact rfl
              · exact rfl
              · exact rfl
              apply r_guard (s := 92) rfl rfl rfl
              · intro hg; apply opT_strip (s := 95) rfl (by (rw [hg]; rfl)); apply opT_of; (refine r_load_ptr rfl rfl (by decide) rfl rfl rfl ?_); refine r_nil ?_; exact rfl
              · exact rfl
              · exact rfl
              apply r_guard (s := 92) rfl rfl rfl
              · intro hg; apply opT_strip (s := 94) rfl (by (rw [hg]; rfl)); apply opT_strip (s := 96) rfl (by (rw [hg]; rfl)); apply opT_of; (refine r_index_sl rfl rfl rfl rfl rfl rfl (aim_in (by omega) hg).1 (aim_in (by omega) hg).2 ?_); refine r_nil ?_; exact rfl
              · exact rfl
              · exact rfl
              apply r_guard (s := 92) rfl rfl rfl
              · intro hg; apply opT_strip (s := 97) rfl (by (rw [hg]; rfl)); apply opT_of; (refine r_load_pp rfl rfl rfl rfl ?_); refine r_nil ?_; exact rfl
              · exact rfl
              · exact rfl
              apply r_guard (s := 92) rfl rfl rfl
              · intro hg; apply opT_of; (refine r_field_ptr rfl rfl rfl rfl rfl (by decide) ?_); refine r_nil ?_; exact rfl
              · exact rfl
              · exact rfl
              apply r_guard (s := 92) rfl rfl rfl
              · intro hg; apply opT_strip (s := 99) rfl (by (rw [hg]; rfl)); apply opT_of; (refine r_load_ptr rfl rfl (by decide) rfl rfl rfl ?_); refine r_nil ?_; exact rfl
              · exact rfl
              · exact rfl
              apply r_guard (s := 92) rfl rfl rfl
              · intro hg; apply opT_strip (s := 98) rfl (by (rw [hg]; rfl)); apply opT_strip (s := 100) rfl (by (rw [hg]; rfl)); apply opT_of; (refine r_bin rfl rfl rfl ?_); refine r_nil ?_; exact rfl
              · exact rfl
              · exact rfl
              refine r_and rfl rfl ?_
              refine r_nil ?_
              refine ⟨by kernel_rfl, ?_⟩
              refine i_then ?_
              refine t_cond rfl (fun hc5 => ?_) (fun hc5 => ?_)
              ·
                have hai := aim_in (i := i.1) (s := (d.lt i.1).2) (by omega) (show (!decide (d.aimV (d.lt i.1).2 i.1 = -1)) = true by have := (less_yes hc5).1; simpa using this)
                refine t_region ?_
                refine r_field_ptr rfl rfl rfl rfl rfl (by decide) ?_
                refine r_load_ptr rfl rfl (by decide) rfl rfl rfl ?_
                refine r_field_ptr rfl rfl rfl rfl rfl (by decide) ?_
                refine r_load_ptr rfl rfl (by decide) rfl rfl rfl ?_
                refine r_index_sl rfl rfl rfl rfl rfl rfl hai.1 hai.2 ?_
                refine r_load_pp rfl rfl rfl rfl ?_
                refine r_field_ptr rfl rfl rfl rfl rfl (by decide) ?_
                refine r_store1 rfl rfl (by decide) rfl rfl (by exact (rfl : _ = Ty.int _ _)) rfl (by exact Nat.le_of_ble_eq_true rfl) rfl rfl (by exact rfl) ?_
                refine r_nil ?_
                refine i_join ?_
                (refine Ent.mk' ?_ ?_ <;> (repeat' (first | exact allSub_zero | exact allTags_nil | exact subs_nil | refine allSub_succ' ?_ (Ty.sub_any _) | refine allSub_succ' ?_ (Ty.sub_refl _) | refine allTags_cons rfl (Cont.sub_refl _) ?_ | refine allTags_cons rfl (Cont.sub_subs ?_) ?_ | refine subs_cons ?_ (Ty.sub_refl _) | refine subs_cons ?_ ?_)))
                all_goals exact Ty.sub_int (sack_less hc5)
              ·
                refine t_skip ?_
                refine i_join ?_
                (refine Ent.mk' ?_ ?_ <;> (repeat' (first | exact allSub_zero | exact allTags_nil | exact subs_nil | refine allSub_succ' ?_ (Ty.sub_any _) | refine allSub_succ' ?_ (Ty.sub_refl _) | refine allTags_cons rfl (Cont.sub_refl _) ?_ | refine allTags_cons rfl (Cont.sub_subs ?_) ?_ | refine subs_cons ?_ (Ty.sub_refl _) | refine subs_cons ?_ ?_)))
                all_goals exact Ty.sub_int (sack_same hc5)
            ·
              refine t_region ?_
              refine r_field_ptr rfl rfl rfl rfl rfl (by decide) ?_
              refine r_load_ptr rfl rfl (by decide) rfl rfl rfl ?_
              refine r_load_ptrN rfl rfl (by decide) rfl rfl (by exact Nat.le_of_ble_eq_true rfl) ?_
              refine r_buildSlice (E := LotE) (xs := [d.lotV (d.lt i.1).2 i.1]) rfl rfl rfl rfl rfl (by decide) (by decide) (by repeat (first | exact (Parts.nil : Parts _ _ [] _) | (show Parts _ _ ((_, _) :: _) _; apply Parts.agg; (· exact (rfl : _ = Ty.agg _))))) (by exact rfl) rfl ?_
              refine r_append rfl rfl (by decide) rfl rfl rfl rfl rfl rfl (by decide) (by (simp <;> omega)) (by (simp <;> omega)) ?_
              refine r_field_ptr rfl rfl rfl rfl rfl (by decide) ?_
              refine r_store1 rfl rfl (by decide) rfl rfl (by exact (rfl : _ = Ty.row _ _ _ _)) rfl (by exact Nat.le_of_ble_eq_true rfl) rfl rfl (by exact rfl) ?_
              refine r_nil ?_
              refine i_block ?_
              refine i_then ?_
              refine t_region ?_
              refine r_add rfl rfl (by omega) (by omega) ?_
              refine mvI rfl ?_
              refine r_nil ?_
              refine i_round (⟨i.1 + 1, by omega⟩) ?_ (by show d.many - (i.1 + 1) < d.many - i.1; omega)
              (refine Ent.mk' ?_ ?_ <;> (repeat' (first | exact allSub_zero | exact allTags_nil | exact subs_nil | refine allSub_succ' ?_ (Ty.sub_any _) | refine allSub_succ' ?_ (Ty.sub_refl _) | refine allTags_cons rfl (Cont.sub_refl _) ?_ | refine allTags_cons rfl (Cont.sub_subs ?_) ?_ | refine subs_cons ?_ (Ty.sub_refl _) | refine subs_cons ?_ ?_)))
              all_goals skip
              all_goals first | exact Ty.sub_row (congrArg Prod.fst (lt_succ d _)).symm | exact Ty.sub_int (congrArg (fun p : List Lot × Sk => p.2.mixed) (lt_succ d _).symm) | exact Ty.sub_int (congrArg (fun p : List Lot × Sk => p.2.taken) (lt_succ d _).symm) | exact Ty.sub_sl (congrArg (fun p : List Lot × Sk => p.2.grain) (lt_succ d _).symm)
        ·
          refine t_exit ?_
          refine i_then_exit ?_
          refine i_then_exit ?_
          refine i_block_exit rfl ?_
          refine i_then ?_
          refine t_seq ?_
          obtain ⟨i, hi⟩ := i
          obtain rfl : i = d.many := by have h1 : ¬ (i : Int) < (d.many : Int) := hc3; have h2 : i ≤ d.many := hi; omega
          refine t_pubC (tg := 115) [] [(10, Cont.cells 25 [Ty.sl I64 d.sizes, Ty.sl LotE (d.lt d.many).1])] (by decide) rfl trivial ⟨pubC_cells rfl rfl ⟨pubTy_same rfl, pubTy_row, trivial⟩, trivial⟩ ?_
          refine t_region ?_
          refine r_load_ptrN rfl rfl (by decide) rfl rfl (by exact Nat.le_of_ble_eq_true rfl) ?_
          refine r_storeN rfl rfl (by decide) rfl rfl rfl rfl rfl rfl ?_
          refine r_nil ?_
          refine i_then ?_
          refine t_ret ?_
          refine g_rcell [1000] rfl rfl rfl rfl (by decide) rfl rfl rfl (by decide) (by repeat (first | exact rc_nil | refine rc_cons rfl (cc_cells_eq (by decide) rfl rfl rfl) ?_)) ?_
          all_goals exact rg_cv (cv_pub rfl rfl)
          all_goals trace_state
end Go.Proofs.Ytpnndljmhpepgaa

namespace Go.T
open Go Go.RowKit
section
variable {P : Program} {fr : Fr} {ops : Array Oper} {A : As} {rest : List Oper} {K : As → List (As × Fx) → Prop} {d : Nat} {t : TypeId} {p : String} {e : Array Edge}
end
end Go.T

namespace Go.Proofs.Ytpnndljmhpepgaa
open Go Go.T
def innL (b : Barn) : List Int := b.lots.map fun l => l.inn
def noT (b : Barn) (p : List Int) (t : Tur) : Bool := decide (t.lot < 0) || decide (t.lot ≥ p.length) || decide (t.aim < 0) || decide (t.aim ≥ b.sizes.length) || decide (t.aim ∈ p) || decide (nth b.sizes t.aim.toNat < (nth b.lots t.lot.toNat).sacks)
theorem noT_false {b : Barn} {p : List Int} {t : Tur} : noT b p t = false ↔ (0 ≤ t.lot ∧ t.lot < p.length) ∧ (0 ≤ t.aim ∧ t.aim < b.sizes.length) ∧ t.aim ∉ p ∧ (nth b.lots t.lot.toNat).sacks ≤ nth b.sizes t.aim.toNat := by
  unfold noT
  simp only [Bool.or_eq_false_iff, decide_eq_false_iff_not]
  constructor
  · rintro ⟨⟨⟨⟨⟨h1, h2⟩, h3⟩, h4⟩, h5⟩, h6⟩; exact ⟨by omega, by omega, h5, by omega⟩
  · rintro ⟨h1, h2, h3, h4⟩; exact ⟨⟨⟨⟨⟨by omega, by omega⟩, by omega⟩, by omega⟩, h3⟩, by omega⟩
def lawGo (b : Barn) : List Int → List Tur → Option (List Int)
  | p, [] => some p
  | p, t :: l => if noT b p t = true then none else lawGo b (p.set t.lot.toNat t.aim) l
def lawV (b : Barn) (plan : List Tur) : List Int × Bool := match lawGo b (innL b) plan with
  | some p => (p, true)
  | none => ([], false)
structure LIx (b : Barn) (plan : List Tur) (k : Nat) (p : List Int) : Prop where
  same : lawGo b (innL b) plan = lawGo b p (plan.drop k)
  len : p.length = b.lots.length
  le : k ≤ plan.length
theorem lix0 (b : Barn) (plan : List Tur) : LIx b plan 0 (innL b) := ⟨by rw [List.drop_zero], by unfold innL; rw [List.length_map], Nat.zero_le _⟩
section
variable {b : Barn} {plan : List Tur} {k : Nat} {p : List Int}
theorem LIx.stop (h : LIx b plan k p) (hk : k < plan.length) (hn : noT b p (nth plan k) = true) : lawV b plan = ([], false) := by
  have e : lawGo b (innL b) plan = none := by rw [h.same, drop_nth hk]; exact if_pos hn
  unfold lawV; rw [e]
theorem LIx.next (h : LIx b plan k p) (hk : k < plan.length) (hn : noT b p (nth plan k) = false) : LIx b plan (k + 1) (p.set (nth plan k).lot.toNat (nth plan k).aim) := by
  refine ⟨?_, by rw [List.length_set]; exact h.len, hk⟩
  rw [h.same, drop_nth hk]
  exact if_neg (by rw [hn]; decide)
theorem LIx.end (h : LIx b plan k p) (hk : plan.length ≤ k) : lawV b plan = (p, true) := by
  unfold lawV
  rw [h.same, List.drop_of_length_le hk]; rfl
end
theorem takenP_not {b : Barn} {P : Pl} {x : Int} : takenP b P x = false ↔ x ∉ P.1.take b.lots.length := by
  unfold takenP; rw [List.any_eq_false]; simp only [decide_eq_true_eq]
  exact ⟨fun h hm => h _ hm rfl, fun h y hy e => h (e ▸ hy)⟩
theorem noT_turns {b : Barn} {P : Pl} (h6 : b.lots.length ≤ 6) {t : Tur} : noT b (P.1.take b.lots.length) t = false ↔ t ∈ turnsL b P := by
  rw [noT_false, mem_turnsL]
  have hl : (P.1.take b.lots.length).length = b.lots.length := by rw [List.length_take, P.2]; omega
  rw [hl, takenP_not]; unfold Barn.hold; rw [decide_eq_true_eq]
  constructor
  · rintro ⟨⟨h1, h2⟩, ⟨h3, h4⟩, h5, h6⟩; exact ⟨h1, h2, h3, h4, h5, h6⟩
  · rintro ⟨h1, h2, h3, h4, h5, h6⟩; exact ⟨⟨h1, h2⟩, ⟨h3, h4⟩, h5, h6⟩
theorem set_take {P : Pl} {t : Tur} {n : Nat} : (P.1.take n).set t.lot.toNat t.aim = (moved P t).1.take n := by
  unfold moved; rw [List.take_set]
theorem go_law {b : Barn} (h6 : b.lots.length ≤ 6) : ∀ (l : List Tur) (P : Pl), lawGo b (P.1.take b.lots.length) l = (goP b P l).map fun q => q.1.take b.lots.length
  | [], P => rfl
  | t :: l, P => by
    show (if noT b (P.1.take b.lots.length) t = true then none else lawGo b ((P.1.take b.lots.length).set t.lot.toNat t.aim) l) = Option.map _ (if t ∈ turnsL b P then goP b (moved P t) l else none)
    by_cases h : t ∈ turnsL b P
    · rw [if_pos h, if_neg (by rw [(noT_turns h6).2 h]; decide), set_take, go_law h6 l]
    · rw [if_neg h, if_pos (by
        cases e : noT b (P.1.take b.lots.length) t with
        | true => rfl
        | false => exact absurd ((noT_turns h6).1 e) h)]; rfl
theorem first_inn {b : Barn} (h6 : b.lots.length ≤ 6) : (firstP b).1.take b.lots.length = innL b := by
  unfold firstP innL
  show List.take _ (List.take 6 _) = _
  rw [List.take_take, Nat.min_eq_left h6, List.take_append_of_le_length (by simp)]
  exact List.take_of_length_le (by simp)
theorem law_go {b : Barn} (h6 : b.lots.length ≤ 6) (l : List Tur) : lawGo b (innL b) l = (goP b (firstP b) l).map fun q => q.1.take b.lots.length := by rw [← first_inn h6, go_law h6]
theorem lawV_some {b : Barn} (h6 : b.lots.length ≤ 6) {l : List Tur} {q : Pl} (h : goP b (firstP b) l = some q) : lawV b l = (q.1.take b.lots.length, true) := by
  unfold lawV; rw [law_go h6, h]; rfl
theorem lawV_none {b : Barn} (h6 : b.lots.length ≤ 6) {l : List Tur} (h : goP b (firstP b) l = none) : lawV b l = ([], false) := by
  unfold lawV; rw [law_go h6, h]; rfl
theorem lawV_len {b : Barn} (h6 : b.lots.length ≤ 6) (l : List Tur) : (lawV b l).1.length ≤ b.lots.length := by
  cases h : goP b (firstP b) l with
  | none => rw [lawV_none h6 h]; exact Nat.zero_le _
  | some q => rw [lawV_some h6 h]; exact Nat.le_trans (List.length_take_le _ _) (Nat.le_refl _)
def okI (b : Barn) (p : List Int) (i : Nat) : Bool := decide ((nth b.lots i).aim = -1) || decide ((nth b.lots i).aim = nth p i)
def isUp (b : Barn) (plan : List Tur) (k : Nat) : Bool := (lawV b plan).2 && (List.range k).all (okI b (lawV b plan).1)
def rightV (b : Barn) (plan : List Tur) : Bool := isUp b plan (lawV b plan).1.length
theorem isUp_zero (b : Barn) (plan : List Tur) : isUp b plan 0 = (lawV b plan).2 := by unfold isUp; simp
theorem isUp_succ (b : Barn) (plan : List Tur) (k : Nat) : isUp b plan (k + 1) = (isUp b plan k && okI b (lawV b plan).1 k) := by
  unfold isUp; rw [List.range_succ, List.all_append]; simp [Bool.and_assoc]
theorem nth_take {l : List Int} {n i : Nat} (h : i < n) : nth (l.take n) i = nth l i := by
  unfold nth; rw [List.getD_eq_getElem?_getD, List.getD_eq_getElem?_getD, List.getElem?_take_of_lt h]
theorem right_iff {b : Barn} (h6 : b.lots.length ≤ 6) {l : List Tur} : rightV b l = true ↔ ∃ q, goP b (firstP b) l = some q ∧ madeP b q = true := by
  unfold rightV isUp
  cases h : goP b (firstP b) l with
  | none => rw [lawV_none h6 h]; exact ⟨(fun h => by cases h), fun ⟨_, h, _⟩ => by cases h⟩
  | some q =>
    rw [lawV_some h6 h]
    have hl : (q.1.take b.lots.length).length = b.lots.length := by rw [List.length_take, q.2]; omega
    have e : (true && (List.range (q.1.take b.lots.length).length).all (okI b (q.1.take b.lots.length))) = madeP b q := by
      rw [hl, Bool.true_and]
      unfold madeP
      rw [Bool.eq_iff_iff, List.all_eq_true, List.all_eq_true]
      have key : ∀ i, i ∈ List.range b.lots.length → okI b (q.1.take b.lots.length) i = (decide ((nth b.lots i).aim = -1) || decide ((nth b.lots i).aim = nth q.1 i)) := fun i hi => by
        unfold okI; rw [nth_take (List.mem_range.1 hi)]
      exact ⟨fun H i hi => by rw [← key i hi]; exact H i hi, fun H i hi => by rw [key i hi]; exact H i hi⟩
    show (true && _) = true ↔ _
    rw [e]
    exact ⟨fun h => ⟨q, rfl, h⟩, fun ⟨q', h1, h2⟩ => by injection h1 with h1; rw [h1]; exact h2⟩
def tryT (b : Barn) (s : Sk) : Tur := ⟨skBelow s b.lots.length, skBelow (skNext s) b.sizes.length⟩
def walkS (b : Barn) (s : Sk) : Nat → List Tur × Sk
  | 0 => ([], s)
  | k + 1 => (if (lawV b ((walkS b s k).1 ++ [tryT b (walkS b s k).2])).2 = true then (walkS b s k).1 ++ [tryT b (walkS b s k).2] else (walkS b s k).1, skNext (skNext (walkS b s k).2))
def walkN (s : Sk) (most : Int) : Nat := (skBelow s (most + 1)).toNat
def walkP (b : Barn) (s : Sk) (most : Int) : List Tur := (walkS b (skNext s) (walkN s most)).1
def walkE (b : Barn) (s : Sk) (most : Int) : Sk := (walkS b (skNext s) (walkN s most)).2
structure WalkOk (b : Barn) (s : Sk) (most : Int) (l : List Tur) (e : Sk) : Prop where
  len : (l.length : Int) ≤ most
  taken : s.taken ≤ e.taken ∧ e.taken ≤ s.taken + 1 + 2 * most
  ok : (lawV b l).2 = true
end Go.Proofs.Ytpnndljmhpepgaa

namespace Go.Proofs.Ytpnndljmhpepgaa
open Go Go.T
set_option maxHeartbeats 4000000
def innU (b : Barn) (k : Nat) : List Int := (b.lots.take k).map fun l => l.inn
theorem innU_len (b : Barn) {k : Nat} (h : k ≤ b.lots.length) : (innU b k).length = k := by unfold innU; rw [List.length_map, List.length_take]; omega
theorem innU_succ {b : Barn} {k : Nat} (h : k < b.lots.length) : innU b k ++ [(nth b.lots k).inn] = innU b (k + 1) := by
  unfold innU; rw [take_nth h, List.map_append]; rfl
theorem innU_all {b : Barn} {k : Nat} (h : b.lots.length ≤ k) : innU b k = innL b := by unfold innU innL; rw [List.take_of_length_le h]
theorem lix_at {b : Barn} {plan : List Tur} {k : Nat} (h : b.lots.length ≤ k) : LIx b plan 0 (innU b k) := by rw [innU_all h]; exact lix0 b plan
theorem no_rng {b : Barn} {p : List Int} {t : Tur} (h : (decide (t.lot < 0) || decide (t.lot ≥ (p.length : Int)) || decide (t.aim < 0) || decide (t.aim ≥ (b.sizes.length : Int)) || decide (t.aim ∈ p)) = false) : (0 ≤ t.lot ∧ t.lot < p.length) ∧ 0 ≤ t.aim ∧ t.aim < b.sizes.length := by
  simp only [Bool.or_eq_false_iff, decide_eq_false_iff_not] at h
  omega
attribute [local irreducible] dInt dBool dSl dPp dPtr dAgg dTup dClo dAny dEx dStr dGd dCells dVec dVs dRow dOp nth Tri Into TOps Ctr bodyPost Exit.then Exit.inBlock Code.wp Code.wpIn dWhen dPa dPe dAo dArr dMp dPm dMap dCJ CtrG CtrI OpY keepPost iterPost bodyPostM roundQ
set_option maxRecDepth 100000 in
theorem c_ldone (b : Barn) (hs : b.Small) (plan : List Tur) (hp : plan.length ≤ 400000000) : Ctr Try.prog 56 [barnT b, Ty.sl TurE plan] (Ty.tup [Ty.sl I64 (lawV b plan).1, Ty.bool (lawV b plan).2]) := by
  refine fn_intro Try.func56 rfl (by decide) Try.ntmps56 (by exact Nat.le_of_ble_eq_true rfl) fun w0 M0 => ?_
  have hs1 := hs.lots
  refine t_seq ?_
  refine t_region ?_
  refine r_box_agg rfl ?_
  refine asX rfl ?_
  refine asB rfl ?_
  refine r_nil ?_
  refine i_then ?_
  refine t_seq ?_
  refine t_region ?_
  refine asX rfl ?_
  refine r_nil ?_
  refine i_then ?_
  refine t_seq ?_
  refine t_seq ?_
  refine t_region ?_
  refine r_field_pp rfl rfl rfl rfl rfl (by decide) ?_
  refine r_load_pp rfl rfl rfl rfl ?_
  refine r_len rfl rfl rfl ?_
  refine mvI rfl ?_
  refine r_nil ?_
  refine i_then ?_
  refine t_block ?_
  refine t_loop (fun (k : {k : Nat // k ≤ b.lots.length}) => live [(1, Ty.sl TurE plan), (2, Ty.pp (barnTys b)), (6, Ty.row I64 3 23 (innU b k.1)), (12, Ty.sl LotE b.lots), (13, Ty.int .i64 b.lots.length), (14, Ty.int .i64 (k.1 : Nat))] []) (fun k => b.lots.length - k.1) (⟨0, by omega⟩) ?_ fun k => ?_
  · (refine Ent.mk' ?_ ?_ <;> (repeat' (first | exact allSub_zero | exact allTags_nil | refine allSub_succ' ?_ (Ty.sub_any _) | refine allSub_succ' ?_ (Ty.sub_refl _) | refine allSub_succ' ?_ Ty.nil_row)))
    all_goals trace_state
  ·
    have hk := k.2
    have hl := innU_len b hk
    refine t_seq ?_
    refine t_region ?_
    refine r_bin rfl rfl rfl ?_
    refine r_nil ?_
    refine i_then ?_
    refine t_seq ?_
    refine t_cond_dec rfl (fun hc1 => ?_) (fun hc1 => ?_)
    ·
      refine t_skip ?_
      refine i_then ?_
      refine t_seq ?_
      refine t_block ?_
      refine t_seq ?_
      refine t_region ?_
      refine r_index_slN rfl rfl rfl rfl rfl rfl (by omega) ?_
      refine r_load_ppN rfl rfl rfl (by exact Nat.le_of_ble_eq_true rfl) ?_
      refine r_alloc rfl (by exact List.cons_ne_nil _ _) rfl ?_
      refine r_storeN rfl rfl (by decide) rfl rfl rfl rfl rfl rfl ?_
      refine r_nil ?_
      refine i_then ?_
      refine t_region ?_
      refine mvR rfl ?_
      refine r_field_ptr rfl rfl rfl rfl rfl (by decide) ?_
      refine r_load_ptr rfl rfl (by decide) rfl rfl rfl ?_
      refine r_buildSlice (E := I64) (xs := [_]) rfl rfl rfl rfl rfl (by decide) (by decide) (by repeat (first | exact (Parts.nil : Parts _ _ [] _) | (show Parts _ _ ((_, _) :: _) _; apply Parts.one; (· exact (rfl : _ = Ty.int _ _)); (· exact rfl)))) (by exact rfl) rfl ?_
      refine r_append rfl rfl (by decide) rfl rfl rfl rfl rfl rfl (by decide) (by (simp <;> omega)) (by (simp <;> omega)) ?_
      refine asR rfl ?_
      refine r_nil ?_
      refine i_block ?_
      refine i_then ?_
      refine t_region ?_
      refine r_add rfl rfl (by omega) (by omega) ?_
      refine mvI rfl ?_
      refine r_nil ?_
      refine i_round (⟨k.1 + 1, by omega⟩) ?_ (by show b.lots.length - (k.1 + 1) < b.lots.length - k.1; omega)
      (refine Ent.mk' ?_ ?_ <;> (repeat' (first | exact allSub_zero | exact allTags_nil | refine allSub_succ' ?_ (Ty.sub_any _) | refine allSub_succ' ?_ (Ty.sub_refl _) | refine allSub_succ' ?_ ?_)))
      all_goals skip
      all_goals exact Ty.sub_row (innU_succ (by omega))
    ·
      refine t_exit ?_
      refine i_then_exit ?_
      refine i_then_exit ?_
      refine i_block_exit rfl ?_
      refine i_then ?_
      refine t_seq ?_
      refine t_seq ?_
      have hke : k.1 = b.lots.length := by have := k.2; omega
      have hil : (innU b k.1).length = b.lots.length := by rw [innU_len b k.2, hke]
      refine t_own (s := 6) rfl rfl ?_
      refine t_region ?_
      refine mvS rfl ?_
      refine r_len rfl rfl rfl ?_
      refine mvI rfl ?_
      refine r_nil ?_
      refine i_then ?_
      refine t_block ?_
      refine t_loop (fun (x : {x : Nat × List Int // LIx b plan x.1 x.2}) => live [(2, Ty.pp (barnTys b)), (6, Ty.vs 23 x.1.2.length), (24, Ty.sl TurE plan), (25, Ty.int .i64 plan.length), (26, Ty.int .i64 (x.1.1 : Nat))] [(23, Cont.vec I64 3 x.1.2)]) (fun x => plan.length - x.1.1) (⟨(0, innU b k.1), lix_at (by omega)⟩) ?_ fun x => ?_
      · (refine Ent.mk' ?_ ?_ <;> (repeat' (first | exact allSub_zero | exact allTags_nil | refine allSub_succ' ?_ (Ty.sub_any _) | refine allSub_succ' ?_ (Ty.sub_refl _) | refine allTags_cons rfl (Cont.sub_refl _) ?_)))
      ·
        have hxl := x.2.len
        have hxe := x.2.le
        refine t_seq ?_
        refine t_region ?_
        refine r_bin rfl rfl rfl ?_
        refine r_nil ?_
        refine i_then ?_
        refine t_seq ?_
        refine t_cond_dec rfl (fun hc2 => ?_) (fun hc2 => ?_)
        ·
          refine t_skip ?_
          refine i_then ?_
          refine t_seq ?_
          refine t_block ?_
          refine t_seq ?_
          refine t_region ?_
          refine r_index_slN rfl rfl rfl rfl rfl rfl (by omega) ?_
          refine r_load_ppN rfl rfl rfl (by exact Nat.le_of_ble_eq_true rfl) ?_
          refine r_alloc rfl (by exact List.cons_ne_nil _ _) rfl ?_
          refine r_storeN rfl rfl (by decide) rfl rfl rfl rfl rfl rfl ?_
          refine r_nil ?_
          refine i_then ?_
          refine t_seq ?_
          refine t_seq ?_
          refine t_draw mixed rfl ?_
          refine r_field_ptr rfl rfl rfl rfl rfl (by decide) ?_
          refine r_load_ptr rfl rfl (by decide) rfl rfl rfl ?_
          refine r_bin rfl rfl rfl ?_
          refine mvB rfl ?_
          apply r_guard (s := 33) rfl rfl rfl
          · intro hg; apply opT_of; (refine r_field_ptr rfl rfl rfl rfl rfl (by decide) ?_); refine r_nil ?_; exact rfl
          · exact rfl
          · exact rfl
          apply r_guard (s := 33) rfl rfl rfl
          · intro hg; apply opT_strip (s := 34) rfl (by (rw [hg]; rfl)); apply opT_of; (refine r_load_ptr rfl rfl (by decide) rfl rfl rfl ?_); refine r_nil ?_; exact rfl
          · exact rfl
          · exact rfl
          apply r_guard (s := 33) rfl rfl rfl
          · intro hg; apply opT_of; (refine mvV rfl ?_); refine r_nil ?_; exact rfl
          · exact rfl
          · exact rfl
          apply r_guard (s := 33) rfl rfl rfl
          · intro hg; apply opT_strip (s := 36) rfl (by (rw [hg]; rfl)); apply opT_of; (refine r_len_vs rfl rfl rfl ?_); refine r_nil ?_; exact rfl
          · exact rfl
          · exact rfl
          apply r_guard (s := 33) rfl rfl rfl
          · intro hg; apply opT_strip (s := 35) rfl (by (rw [hg]; rfl)); apply opT_strip (s := 37) rfl (by (rw [hg]; rfl)); apply opT_of; (refine r_bin rfl rfl rfl ?_); refine r_nil ?_; exact rfl
          · exact rfl
          · exact rfl
          refine r_or rfl rfl ?_
          refine mvB rfl ?_
          apply r_guard (s := 40) rfl rfl rfl
          · intro hg; apply opT_of; (refine r_field_ptr rfl rfl rfl rfl rfl (by decide) ?_); refine r_nil ?_; exact rfl
          · exact rfl
          · exact rfl
          apply r_guard (s := 40) rfl rfl rfl
          · intro hg; apply opT_strip (s := 41) rfl (by (rw [hg]; rfl)); apply opT_of; (refine r_load_ptr rfl rfl (by decide) rfl rfl rfl ?_); refine r_nil ?_; exact rfl
          · exact rfl
          · exact rfl
          apply r_guard (s := 40) rfl rfl rfl
          · intro hg; apply opT_strip (s := 42) rfl (by (rw [hg]; rfl)); apply opT_of; (refine r_bin rfl rfl rfl ?_); refine r_nil ?_; exact rfl
          · exact rfl
          · exact rfl
          refine r_or rfl rfl ?_
          refine mvB rfl ?_
          apply r_guard (s := 45) rfl rfl rfl
          · intro hg; apply opT_of; (refine r_field_ptr rfl rfl rfl rfl rfl (by decide) ?_); refine r_nil ?_; exact rfl
          · exact rfl
          · exact rfl
          apply r_guard (s := 45) rfl rfl rfl
          · intro hg; apply opT_strip (s := 46) rfl (by (rw [hg]; rfl)); apply opT_of; (refine r_load_ptr rfl rfl (by decide) rfl rfl rfl ?_); refine r_nil ?_; exact rfl
          · exact rfl
          · exact rfl
          apply r_guard (s := 45) rfl rfl rfl
          · intro hg; apply opT_of; (refine r_field_pp rfl rfl rfl rfl rfl (by decide) ?_); refine r_nil ?_; exact rfl
          · exact rfl
          · exact rfl
          apply r_guard (s := 45) rfl rfl rfl
          · intro hg; apply opT_strip (s := 48) rfl (by (rw [hg]; rfl)); apply opT_of; (refine r_load_pp rfl rfl rfl rfl ?_); refine r_nil ?_; exact rfl
          · exact rfl
          · exact rfl
          apply r_guard (s := 45) rfl rfl rfl
          · intro hg; apply opT_strip (s := 49) rfl (by (rw [hg]; rfl)); apply opT_of; (refine r_len rfl rfl rfl ?_); refine r_nil ?_; exact rfl
          · exact rfl
          · exact rfl
          apply r_guard (s := 45) rfl rfl rfl
          · intro hg; apply opT_strip (s := 47) rfl (by (rw [hg]; rfl)); apply opT_strip (s := 50) rfl (by (rw [hg]; rfl)); apply opT_of; (refine r_bin rfl rfl rfl ?_); refine r_nil ?_; exact rfl
          · exact rfl
          · exact rfl
          refine r_or rfl rfl ?_
          refine mvB rfl ?_
          apply r_guard (s := 53) rfl rfl rfl
          · intro hg; apply opT_of; (refine mvV rfl ?_); refine r_nil ?_; exact rfl
          · exact rfl
          · exact rfl
          apply r_guard (s := 53) rfl rfl rfl
          · intro hg; apply opT_of; (refine r_field_ptr rfl rfl rfl rfl rfl (by decide) ?_); refine r_nil ?_; exact rfl
          · exact rfl
          · exact rfl
          apply r_guard (s := 53) rfl rfl rfl
          · intro hg; apply opT_strip (s := 55) rfl (by (rw [hg]; rfl)); apply opT_of; (refine r_load_ptr rfl rfl (by decide) rfl rfl rfl ?_); refine r_nil ?_; exact rfl
          · exact rfl
          · exact rfl
          apply r_guard (s := 53) rfl rfl rfl
          · intro hg; apply opT_strip (s := 54) rfl (by (rw [hg]; rfl)); apply opT_strip (s := 56) rfl (by (rw [hg]; rfl)); apply opT_of; (refine r_callLC [23] (c_Contains_int x.1.2 (nth plan x.1.1).aim) rfl (by repeat (first | exact lendcs_nil | refine lendcs_cons (lendc_of (lend_pub rfl rfl)) ?_ | refine lendcs_cons (lendc_vs rfl (by exact rfl) (by decide) rfl) ?_)) (by exact plain_bool _) ?_); refine r_nil ?_; exact rfl
          · exact rfl
          · exact rfl
          refine r_or rfl rfl ?_
          refine mvB rfl ?_
          apply r_guard (s := 59) rfl rfl rfl
          · intro hg; apply opT_of; (refine r_field_pp rfl rfl rfl rfl rfl (by decide) ?_); refine r_nil ?_; exact rfl
          · exact rfl
          · exact rfl
          apply r_guard (s := 59) rfl rfl rfl
          · intro hg; apply opT_strip (s := 60) rfl (by (rw [hg]; rfl)); apply opT_of; (refine r_load_pp rfl rfl rfl rfl ?_); refine r_nil ?_; exact rfl
          · exact rfl
          · exact rfl
          apply r_guard (s := 59) rfl rfl rfl
          · intro hg; apply opT_of; (refine r_field_ptr rfl rfl rfl rfl rfl (by decide) ?_); refine r_nil ?_; exact rfl
          · exact rfl
          · exact rfl
          apply r_guard (s := 59) rfl rfl rfl
          · intro hg; apply opT_strip (s := 62) rfl (by (rw [hg]; rfl)); apply opT_of; (refine r_load_ptr rfl rfl (by decide) rfl rfl rfl ?_); refine r_nil ?_; exact rfl
          · exact rfl
          · exact rfl
          apply r_guard (s := 59) rfl rfl rfl
          · intro hg; apply opT_strip (s := 61) rfl (by (rw [hg]; rfl)); apply opT_strip (s := 63) rfl (by (rw [hg]; rfl)); apply opT_of; (refine r_index_sl rfl rfl rfl rfl rfl rfl (no_rng hg).2.1 (by have := (no_rng hg).2; omega) ?_); refine r_nil ?_; exact rfl
          · exact rfl
          · exact rfl
          apply r_guard (s := 59) rfl rfl rfl
          · intro hg; apply opT_strip (s := 64) rfl (by (rw [hg]; rfl)); apply opT_of; (refine r_load_pp rfl rfl rfl rfl ?_); refine r_nil ?_; exact rfl
          · exact rfl
          · exact rfl
          apply r_guard (s := 59) rfl rfl rfl
          · intro hg; apply opT_of; (refine r_field_pp rfl rfl rfl rfl rfl (by decide) ?_); refine r_nil ?_; exact rfl
          · exact rfl
          · exact rfl
          apply r_guard (s := 59) rfl rfl rfl
          · intro hg; apply opT_strip (s := 66) rfl (by (rw [hg]; rfl)); apply opT_of; (refine r_load_pp rfl rfl rfl rfl ?_); refine r_nil ?_; exact rfl
          · exact rfl
          · exact rfl
          apply r_guard (s := 59) rfl rfl rfl
          · intro hg; apply opT_of; (refine r_field_ptr rfl rfl rfl rfl rfl (by decide) ?_); refine r_nil ?_; exact rfl
          · exact rfl
          · exact rfl
          apply r_guard (s := 59) rfl rfl rfl
          · intro hg; apply opT_strip (s := 68) rfl (by (rw [hg]; rfl)); apply opT_of; (refine r_load_ptr rfl rfl (by decide) rfl rfl rfl ?_); refine r_nil ?_; exact rfl
          · exact rfl
          · exact rfl
          apply r_guard (s := 59) rfl rfl rfl
          · intro hg; apply opT_strip (s := 67) rfl (by (rw [hg]; rfl)); apply opT_strip (s := 69) rfl (by (rw [hg]; rfl)); apply opT_of; (refine r_index_sl rfl rfl rfl rfl rfl rfl (no_rng hg).1.1 (by have := no_rng hg; omega) ?_); refine r_nil ?_; exact rfl
          · exact rfl
          · exact rfl
          apply r_guard (s := 59) rfl rfl rfl
          · intro hg; apply opT_strip (s := 70) rfl (by (rw [hg]; rfl)); apply opT_of; (refine r_field_pp rfl rfl rfl rfl rfl (by decide) ?_); refine r_nil ?_; exact rfl
          · exact rfl
          · exact rfl
          apply r_guard (s := 59) rfl rfl rfl
          · intro hg; apply opT_strip (s := 71) rfl (by (rw [hg]; rfl)); apply opT_of; (refine r_load_pp rfl rfl rfl rfl ?_); refine r_nil ?_; exact rfl
          · exact rfl
          · exact rfl
          apply r_guard (s := 59) rfl rfl rfl
          · intro hg; apply opT_strip (s := 65) rfl (by (rw [hg]; rfl)); apply opT_strip (s := 72) rfl (by (rw [hg]; rfl)); apply opT_of; (refine r_bin rfl rfl rfl ?_); refine r_nil ?_; exact rfl
          · exact rfl
          · exact rfl
          refine r_or rfl rfl ?_
          refine r_nil ?_
          refine ⟨by kernel_rfl, ?_⟩
          refine i_then ?_
          refine t_cond rfl (fun hc3 => ?_) (fun hc3 => ?_)
          ·
            refine t_seq ?_
            refine t_region ?_
            refine asX rfl ?_
            refine asB rfl ?_
            refine r_nil ?_
            refine i_then ?_
            refine t_ret ?_
            refine i_then_ret ?_
            refine i_block_ret ?_
            refine i_then_ret ?_
            refine i_then_ret ?_
            refine i_block_ret ?_
            refine i_then_ret ?_
            refine i_rp2 rfl rfl rfl ?_ ?_
            all_goals skip
            all_goals first | exact ret_nil_eq (congrArg Prod.fst (x.2.stop (by omega) hc3)) | exact ret_eq rfl rfl (congrArg (fun z : List Int × Bool => Ty.bool z.2) (x.2.stop (by omega) hc3).symm)
          ·
            refine t_skip ?_
            refine i_then ?_
            have hno := noT_false.1 (show noT b x.1.2 (nth plan x.1.1) = false from hc3)
            refine t_region ?_
            refine mvV rfl ?_
            refine r_field_ptr rfl rfl rfl rfl rfl (by decide) ?_
            refine r_load_ptr rfl rfl (by decide) rfl rfl rfl ?_
            refine r_field_ptr rfl rfl rfl rfl rfl (by decide) ?_
            refine r_load_ptr rfl rfl (by decide) rfl rfl rfl ?_
            refine r_index_vsI rfl rfl rfl rfl rfl (by omega) (by omega) ?_
            refine r_store_vecB rfl rfl rfl (by decide) rfl rfl (by exact (rfl : _ = Ty.int _ _)) rfl (by omega) (by decide) rfl rfl ?_
            refine r_nil ?_
            refine i_block ?_
            refine i_then ?_
            refine t_region ?_
            refine r_add rfl rfl (by omega) (by omega) ?_
            refine mvI rfl ?_
            refine r_nil ?_
            refine i_round (⟨(x.1.1 + 1, x.1.2.set (nth plan x.1.1).lot.toNat (nth plan x.1.1).aim), x.2.next (by omega) hc3⟩) ?_ (by show plan.length - (x.1.1 + 1) < plan.length - x.1.1; omega)
            (refine Ent.mk' ?_ ?_ <;> (repeat' (first | exact allSub_zero | exact allTags_nil | refine allSub_succ' ?_ (Ty.sub_any _) | refine allSub_succ' ?_ (Ty.sub_refl _) | refine allTags_cons rfl (Cont.sub_refl _) ?_ | refine allSub_succ' ?_ ?_)))
            all_goals skip
            all_goals exact Ty.sub_eq (congrArg (Ty.vs 23) List.length_set.symm)
        ·
          refine t_exit ?_
          refine i_then_exit ?_
          refine i_then_exit ?_
          refine i_block_exit rfl ?_
          refine i_then ?_
          refine t_seq ?_
          refine t_pub (tg := 23) [(6, Ty.sl I64 x.1.2)] (by decide) rfl ⟨pub_vs rfl rfl rfl (by decide), trivial⟩ ?_
          refine t_region ?_
          refine mvS rfl ?_
          refine asS rfl ?_
          refine asB rfl ?_
          refine r_nil ?_
          refine i_then ?_
          refine t_ret ?_
          refine i_rp2 rfl rfl rfl ?_ ?_
          all_goals skip
          all_goals first | exact ret_eq rfl rfl (congrArg (fun z : List Int × Bool => Ty.sl I64 z.1) (x.2.end (by omega)).symm) | exact ret_eq rfl rfl (congrArg (fun z : List Int × Bool => Ty.bool z.2) (x.2.end (by omega)).symm)
set_option maxRecDepth 100000 in
theorem c_lright (b : Barn) (hs : b.Small) (h6 : b.lots.length ≤ 6) (plan : List Tur) (hp : plan.length ≤ 400000000) : Ctr Try.prog 52 [barnT b, Ty.sl TurE plan] (Ty.bool (rightV b plan)) := by
  refine fn_intro Try.func52 rfl (by decide) Try.ntmps52 (by exact Nat.le_of_ble_eq_true rfl) fun w0 M0 => ?_
  have hvl := lawV_len h6 plan
  refine t_seq ?_
  refine t_region ?_
  refine r_box_agg rfl ?_
  refine asB rfl ?_
  refine r_nil ?_
  refine i_then ?_
  refine t_seq ?_
  refine t_region ?_
  refine r_load_ppN rfl rfl rfl (by exact Nat.le_of_ble_eq_true rfl) ?_
  refine mvS rfl ?_
  refine r_call (c_ldone b hs plan hp) rfl rfl rfl rfl rfl ?_
  refine mvT rfl ?_
  refine r_extract rfl rfl ?_
  refine r_extract rfl rfl ?_
  refine asS rfl ?_
  refine asB rfl ?_
  refine r_nil ?_
  refine i_then ?_
  refine t_seq ?_
  refine t_seq ?_
  refine t_region ?_
  refine mvS rfl ?_
  refine r_len rfl rfl rfl ?_
  refine mvI rfl ?_
  refine r_nil ?_
  refine i_then ?_
  refine t_block ?_
  refine t_loop (fun (k : {k : Nat // k ≤ (lawV b plan).1.length}) => live [(2, Ty.pp (barnTys b)), (6, Ty.bool (isUp b plan k.1)), (15, Ty.sl I64 (lawV b plan).1), (16, Ty.int .i64 (lawV b plan).1.length), (17, Ty.int .i64 (k.1 : Nat))] []) (fun k => (lawV b plan).1.length - k.1) (⟨0, by omega⟩) ?_ fun k => ?_
  · (refine Ent.mk' ?_ ?_ <;> (repeat' (first | exact allSub_zero | exact allTags_nil | refine allSub_succ' ?_ (Ty.sub_any _) | refine allSub_succ' ?_ (Ty.sub_refl _) | refine allSub_succ' ?_ ?_)))
    all_goals exact Ty.sub_bool (isUp_zero b plan).symm
  ·
    have hk := k.2
    refine t_seq ?_
    refine t_region ?_
    refine r_bin rfl rfl rfl ?_
    refine r_nil ?_
    refine i_then ?_
    refine t_seq ?_
    refine t_cond_dec rfl (fun hc1 => ?_) (fun hc1 => ?_)
    ·
      refine t_skip ?_
      refine i_then ?_
      refine t_seq ?_
      refine t_block ?_
      refine t_seq ?_
      refine t_region ?_
      refine mvI rfl ?_
      refine r_index_slN rfl rfl rfl rfl rfl rfl (by omega) ?_
      refine r_load_pp rfl rfl rfl rfl ?_
      refine asI rfl ?_
      refine asI rfl ?_
      refine r_nil ?_
      refine i_then ?_
      refine t_region ?_
      refine mvB rfl ?_
      refine mvB rfl ?_
      apply r_guard (s := 23) rfl rfl rfl
      · intro hg; apply opT_of; (refine r_field_pp rfl rfl rfl rfl rfl (by decide) ?_); refine r_nil ?_; exact rfl
      · exact rfl
      · exact rfl
      apply r_guard (s := 23) rfl rfl rfl
      · intro hg; apply opT_strip (s := 24) rfl (by (rw [hg]; rfl)); apply opT_of; (refine r_load_pp rfl rfl rfl rfl ?_); refine r_nil ?_; exact rfl
      · exact rfl
      · exact rfl
      apply r_guard (s := 23) rfl rfl rfl
      · intro hg; apply opT_of; (refine mvI rfl ?_); refine r_nil ?_; exact rfl
      · exact rfl
      · exact rfl
      apply r_guard (s := 23) rfl rfl rfl
      · intro hg; apply opT_strip (s := 25) rfl (by (rw [hg]; rfl)); apply opT_strip (s := 26) rfl (by (rw [hg]; rfl)); apply opT_of; (refine r_index_sl rfl rfl rfl rfl rfl rfl (by omega) (by omega) ?_); refine r_nil ?_; exact rfl
      · exact rfl
      · exact rfl
      apply r_guard (s := 23) rfl rfl rfl
      · intro hg; apply opT_strip (s := 27) rfl (by (rw [hg]; rfl)); apply opT_of; (refine r_field_pp rfl rfl rfl rfl rfl (by decide) ?_); refine r_nil ?_; exact rfl
      · exact rfl
      · exact rfl
      apply r_guard (s := 23) rfl rfl rfl
      · intro hg; apply opT_strip (s := 28) rfl (by (rw [hg]; rfl)); apply opT_of; (refine r_load_pp rfl rfl rfl rfl ?_); refine r_nil ?_; exact rfl
      · exact rfl
      · exact rfl
      apply r_guard (s := 23) rfl rfl rfl
      · intro hg; apply opT_strip (s := 29) rfl (by (rw [hg]; rfl)); apply opT_of; (refine r_bin rfl rfl rfl ?_); refine r_nil ?_; exact rfl
      · exact rfl
      · exact rfl
      apply r_guard (s := 23) rfl rfl rfl
      · intro hg; apply opT_strip (s := 30) rfl (by (rw [hg]; rfl)); apply opT_of; (refine mvB rfl ?_); refine r_nil ?_; exact rfl
      · exact rfl
      · exact rfl
      apply r_guardG (s := 31) rfl rfl rfl
      · intro hg1 hg2; apply opT_of; (refine r_field_pp rfl rfl rfl rfl rfl (by decide) ?_); refine r_nil ?_; exact rfl
      · exact rfl
      · exact rfl
      apply r_guardG (s := 31) rfl rfl rfl
      · intro hg1 hg2; apply opT_strip (s := 32) rfl (by (rw [hg1, hg2]; rfl)); apply opT_of; (refine r_load_pp rfl rfl rfl rfl ?_); refine r_nil ?_; exact rfl
      · exact rfl
      · exact rfl
      apply r_guardG (s := 31) rfl rfl rfl
      · intro hg1 hg2; apply opT_of; (refine mvI rfl ?_); refine r_nil ?_; exact rfl
      · exact rfl
      · exact rfl
      apply r_guardG (s := 31) rfl rfl rfl
      · intro hg1 hg2; apply opT_strip (s := 33) rfl (by (rw [hg1, hg2]; rfl)); apply opT_strip (s := 34) rfl (by (rw [hg1, hg2]; rfl)); apply opT_of; (refine r_index_sl rfl rfl rfl rfl rfl rfl (by omega) (by omega) ?_); refine r_nil ?_; exact rfl
      · exact rfl
      · exact rfl
      apply r_guardG (s := 31) rfl rfl rfl
      · intro hg1 hg2; apply opT_strip (s := 35) rfl (by (rw [hg1, hg2]; rfl)); apply opT_of; (refine r_field_pp rfl rfl rfl rfl rfl (by decide) ?_); refine r_nil ?_; exact rfl
      · exact rfl
      · exact rfl
      apply r_guardG (s := 31) rfl rfl rfl
      · intro hg1 hg2; apply opT_strip (s := 36) rfl (by (rw [hg1, hg2]; rfl)); apply opT_of; (refine r_load_pp rfl rfl rfl rfl ?_); refine r_nil ?_; exact rfl
      · exact rfl
      · exact rfl
      apply r_guardG (s := 31) rfl rfl rfl
      · intro hg1 hg2; apply opT_of; (refine mvI rfl ?_); refine r_nil ?_; exact rfl
      · exact rfl
      · exact rfl
      apply r_guardG (s := 31) rfl rfl rfl
      · intro hg1 hg2; apply opT_strip (s := 37) rfl (by (rw [hg1, hg2]; rfl)); apply opT_strip (s := 38) rfl (by (rw [hg1, hg2]; rfl)); apply opT_of; (refine r_bin rfl rfl rfl ?_); refine r_nil ?_; exact rfl
      · exact rfl
      · exact rfl
      apply r_guard (s := 23) rfl rfl rfl
      · intro hg; apply opT_strip (s := 31) rfl (by (rw [hg]; rfl)); apply opT_stripG (s := 39) rfl (by (rw [hg]; rfl)); apply opT_of; (refine r_or rfl rfl ?_); refine r_nil ?_; exact rfl
      · exact rfl
      · exact rfl
      refine r_and rfl rfl ?_
      refine asB rfl ?_
      refine r_nil ?_
      refine i_block ?_
      refine i_then ?_
      refine t_region ?_
      refine r_add rfl rfl (by omega) (by omega) ?_
      refine mvI rfl ?_
      refine r_nil ?_
      refine i_round (⟨k.1 + 1, by omega⟩) ?_ (by show (lawV b plan).1.length - (k.1 + 1) < (lawV b plan).1.length - k.1; omega)
      (refine Ent.mk' ?_ ?_ <;> (repeat' (first | exact allSub_zero | exact allTags_nil | refine allSub_succ' ?_ (Ty.sub_any _) | refine allSub_succ' ?_ (Ty.sub_refl _) | refine allSub_succ' ?_ ?_)))
      all_goals skip
      all_goals exact Ty.sub_bool (isUp_succ b plan k.1).symm
    ·
      refine t_exit ?_
      refine i_then_exit ?_
      refine i_then_exit ?_
      refine i_block_exit rfl ?_
      refine i_then ?_
      refine t_seq ?_
      refine t_region ?_
      refine mvB rfl ?_
      refine asB rfl ?_
      refine r_nil ?_
      refine i_then ?_
      refine t_ret ?_
      refine i_rp1 rfl rfl ?_
      all_goals skip
      all_goals exact ret_eq rfl rfl (congrArg Ty.bool (show isUp b plan k.1 = rightV b plan by rw [show k.1 = (lawV b plan).1.length by have := k.2; omega]; rfl))
end Go.Proofs.Ytpnndljmhpepgaa
