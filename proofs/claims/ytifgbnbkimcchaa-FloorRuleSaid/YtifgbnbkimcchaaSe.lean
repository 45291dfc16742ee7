/- Lemmas: the program and the reference walked, plain laws. -/
import Derived.Test.YtifgbnbkimcchaaSd
namespace Go.Proofs.Ytifgbnbkimcchaa
open Go Go.T
set_option maxHeartbeats 2000000
attribute [local irreducible] dInt dBool dSl dPp dPtr dAgg dTup dClo dAny dEx dStr dGd dCells dVec dVs dRow dOp nth Tri Into TOps Ctr bodyPost Exit.then Exit.inBlock Code.wp Code.wpIn dWhen dPa dPe dAo dArr dMp dPm dMap dCJ CtrG CtrI OpY keepPost iterPost bodyPostM roundQ
theorem aheadR_no {f : Flr} {t : Int} (h : ¬ aheadE f t = 0) : aheadR f t = [] := if_neg h
set_option maxRecDepth 100000 in
theorem c_pAhead (f : Flr) (hs : f.Small) (t : Int) : Ctr Try.prog 41 [flrT f, Ty.int .i64 t] (Ty.tup [Ty.sl I64 (aheadR f t), Ty.int .i64 (aheadE f t)]) := by
  refine fn_intro Try.func41 rfl (by decide) Try.ntmps41 (by exact Nat.le_of_ble_eq_true rfl) fun w0 M0 => ?_
  have hs1 := hs.bears; have hs2 := hs.bins; have hs3 := hs.turnings; have hs4 := hs.rules
  refine t_seq ?_
  refine t_region ?_
  refine r_box_agg rfl ?_
  refine asX rfl ?_
  refine asI rfl ?_
  refine r_nil ?_
  refine i_then ?_
  refine t_seq ?_
  refine t_draw mixed rfl ?_
  refine r_load_ppN rfl rfl rfl (by exact Nat.le_of_ble_eq_true rfl) ?_
  refine r_load_ppN rfl rfl rfl (by exact Nat.le_of_ble_eq_true rfl) ?_
  refine mvI rfl ?_
  refine r_call (c_turning f hs _) rfl rfl rfl rfl rfl ?_
  refine r_not rfl ?_
  refine r_call (c_open f hs _) rfl rfl rfl rfl rfl ?_
  refine mvT rfl ?_
  refine r_extract rfl rfl ?_
  refine r_extract rfl rfl ?_
  refine asW rfl ?_
  refine asI rfl ?_
  refine r_nil ?_
  refine ⟨by kernel_rfl, ?_⟩
  refine i_then ?_
  refine t_seq ?_
  refine t_seq ?_
  refine t_region ?_
  refine mvI rfl ?_
  refine r_bin rfl rfl rfl ?_
  refine r_nil ?_
  refine i_then ?_
  refine t_cond_ndec rfl (fun hc1 => ?_) (fun hc1 => ?_)
  ·
    refine t_seq ?_
    refine t_region ?_
    refine mvI rfl ?_
    refine asX rfl ?_
    refine asI rfl ?_
    refine r_nil ?_
    refine i_then ?_
    refine t_ret ?_
    refine i_then_ret ?_
    refine i_rp2 rfl rfl rfl ?_ ?_
    all_goals first | exact ret_refl rfl rfl | skip
    all_goals exact ret_nil_eq (aheadR_no hc1)
  ·
    refine t_skip ?_
    refine i_then ?_
    refine t_seq ?_
    have h0 := openE_zero hc1
    have hin := inB_true (n := t) (lo := 0) (hi := (f.turnings.length : Int) - 1) (by have := h0.2; simpa using this)
    obtain ⟨n, rfl⟩ := Int.eq_ofNat_of_zero_le hin.1
    have hr := (check_right h0.1).ranged
    have h8 := hr.turnings
    have hfi := boardsOf_fine h0.1
    have hbt := hfi.before n
    have hmm := members_ahead h0.1 n
    have haE : aheadE f (n : Int) = 0 := hc1
    refine t_as (s := 6) rfl (Ty.when_sub (decide_eq_true hc1)) ?_
    refine t_region ?_
    refine mvPe rfl ?_
    refine mvI rfl ?_
    refine r_nilCheck_pe rfl ?_
    refine r_field_pe rfl rfl rfl rfl rfl (by decide) ?_
    refine r_index_peI (n := 8) rfl rfl rfl rfl rfl (by omega) (by omega) ?_
    refine r_load_pe (ty := Ty.int .i64 (nth (boardsOf f).1.before n : Nat)) rfl rfl rfl (by rw [show 0 + 4 + (n : Int).toNat * 1 = 4 + n by omega]; exact brd_before (boardsOf f).2 (by omega)) ?_
    refine r_call (c_members (nth (boardsOf f).1.before n) (by omega)) rfl rfl rfl rfl rfl ?_
    refine asS rfl ?_
    refine asI rfl ?_
    refine r_nil ?_
    refine i_then ?_
    refine t_ret ?_
    refine i_rp2 rfl rfl rfl ?_ ?_
    all_goals skip
    all_goals first | exact ret_eq rfl rfl (congrArg (Ty.sl I64) (by rw [hmm, aheadR, if_pos haE])) | exact ret_eq rfl rfl (congrArg (Ty.int .i64) haE.symm)
set_option maxRecDepth 100000 in
theorem c_FloorRule1 (l : List Int) (t : Int) : Ctr Try.prog 62 [Ty.int .i64 t, Ty.pp [Ty.sl I64 l]] (Ty.bool (!decide (t ∈ l))) := by
  refine fn_intro Try.func62 rfl (by decide) Try.ntmps62 (by exact Nat.le_of_ble_eq_true rfl) fun w0 M0 => ?_
  refine t_seq ?_
  refine t_region ?_
  refine asB rfl ?_
  refine r_nil ?_
  refine i_then ?_
  refine t_seq ?_
  refine t_region ?_
  refine r_load_pp rfl rfl rfl rfl ?_
  refine mvI rfl ?_
  refine r_call (c_Contains_int _ _) rfl rfl rfl rfl rfl ?_
  refine r_not rfl ?_
  refine asB rfl ?_
  refine r_nil ?_
  refine i_then ?_
  refine t_ret ?_
  refine i_rp1 rfl rfl ?_
  all_goals exact ret_refl rfl rfl
attribute [local irreducible] Md.flr tryS tryO waitP keepR mustV mustR aheadR aheadE mostP moreF
set_option maxRecDepth 100000 in
theorem c_FloorRule (g t : List Int) (x y : Int) (hx : 0 ≤ x ∧ x ≤ 255) (hy : 0 ≤ y ∧ y ≤ 255) : Ctr Try.prog 9 [Ty.sl U8 g, Ty.sl U8 t, Ty.int .u8 x, Ty.int .u8 y] (Ty.bool true) := by
  refine fn_intro Try.func9 rfl (by decide) Try.ntmps9 (by exact Nat.le_of_ble_eq_true rfl) fun w0 M0 => ?_
  refine t_seq ?_
  refine t_region ?_
  refine asB rfl ?_
  refine r_nil ?_
  refine i_then ?_
  refine t_seq ?_
  obtain ⟨f, s1, hp, _, h5, hM⟩ := made5r g 8 (Nat.le_refl 8)
  have h0 : checkM f = 0 := by rw [← check_eq]; exact hp
  have hr := check_right hp
  have hs := small_right hr
  have h8 := hr.ranged.turnings
  have hb4 := hr.ranged.bears
  have hl1 := hs.rules
  obtain ⟨l, hl⟩ : ∃ l, l = tryO f (skFill t) 0 := ⟨_, rfl⟩
  have ho : orderM f l = 0 := by rw [hl]; exact tryO_right hp (skFill t) 0
  have hto := answers hp ho
  have hlen := hto.len
  have hT := c_try f hp t 0 (by omega)
  rw [← hl, ← tryS_zero f (skFill t)] at hT
  refine t_region ?_
  refine mvS rfl ?_
  refine r_callG [(36, 10)] [36] [(36, Cont.cells 158 (skTys (skFill g)))] (c_Fill g) rfl rfl (by repeat (first | exact cv_nil | refine cv_cons ?_ ?_ | exact cv_pub rfl rfl)) pre_nil (post_cons (a := 36) (b := 10) (by exact List.mem_cons_self) rfl (cc_cells_eq (by exact List.mem_cons_self) rfl rfl rfl) post_nil) (cv_ptr (by exact List.mem_cons_self)) ?_
  refine r_callG [(36, 1000)] [] [(36, Cont.cells 158 (skTys (s1)))] (hM) rfl rfl (by repeat (first | exact cv_nil | refine cv_cons ?_ ?_ | exact cv_ptr List.mem_cons_self | exact cv_pub rfl rfl)) (pre_cons (a := 36) (b := 1000) (by exact List.mem_cons_self) rfl (cc_cells_eq (by exact List.mem_cons_self) rfl rfl rfl) pre_nil) (post_cons (a := 36) (b := 1000) (by exact List.mem_cons_self) rfl (cc_cells_eq (by exact List.mem_cons_self) rfl rfl rfl) post_nil) (cv_pub rfl rfl) ?_
  refine r_alloc rfl (by exact List.cons_ne_nil _ _) rfl ?_
  refine r_storeN rfl rfl (by decide) rfl rfl rfl rfl rfl rfl ?_
  refine r_nil ?_
  refine i_then ?_
  refine t_seq ?_
  refine t_draw mixed rfl ?_
  refine mvS rfl ?_
  refine r_callG [(39, 10)] [39] [(39, Cont.cells 158 (skTys (skFill t)))] (c_Fill t) rfl rfl (by repeat (first | exact cv_nil | refine cv_cons ?_ ?_ | exact cv_pub rfl rfl)) pre_nil (post_cons (a := 39) (b := 10) (by exact List.mem_cons_self) rfl (cc_cells_eq (by exact List.mem_cons_self) rfl rfl rfl) post_nil) (cv_ptr (by exact List.mem_cons_self)) ?_
  refine r_load_ptrN rfl rfl (by decide) rfl rfl (by exact Nat.le_of_ble_eq_true rfl) ?_
  refine r_callG [(39, 1000)] [] [(39, Cont.cells 158 (skTys (tryS f (skFill t) 1)))] (hT) rfl rfl (by repeat (first | exact cv_nil | refine cv_cons ?_ ?_ | exact cv_ptr List.mem_cons_self | exact cv_pub rfl rfl)) (pre_cons (a := 39) (b := 1000) (by exact List.mem_cons_self) rfl (cc_cells_eq (by exact List.mem_cons_self) rfl rfl rfl) pre_nil) (post_cons (a := 39) (b := 1000) (by exact List.mem_cons_self) rfl (cc_cells_eq (by exact List.mem_cons_self) rfl rfl rfl) post_nil) (cv_pub rfl rfl) ?_
  refine asS rfl ?_
  refine r_nil ?_
  refine ⟨by kernel_rfl, ?_⟩
  refine i_then ?_
  refine t_seq ?_
  refine t_seq ?_
  refine t_region ?_
  refine mvS rfl ?_
  refine r_len rfl rfl rfl ?_
  refine r_bin rfl rfl rfl ?_
  refine r_nil ?_
  refine i_then ?_
  refine t_cond_dec rfl (fun hc1 => ?_) (fun hc1 => ?_)
  ·
    refine t_seq ?_
    refine t_region ?_
    refine r_call (c_awake) rfl rfl rfl rfl rfl ?_
    refine asB rfl ?_
    refine r_nil ?_
    refine i_then ?_
    refine t_ret ?_
    refine i_then_ret ?_
    refine i_rp1 rfl rfl ?_
    all_goals exact ret_refl rfl rfl
  ·
    refine t_skip ?_
    refine i_then ?_
    refine t_seq ?_
    have hl2 : 1 < (l.length : Int) := by have h := hc1; omega
    have hi := tmod_in (a := IntKind.i64.wrap x) (b := (l.length : Nat)) (by rw [wrap_in (by omega)]; omega) (by omega)
    have hj := tmod_in (a := IntKind.i64.wrap y) (b := (l.length : Nat)) (by rw [wrap_in (by omega)]; omega) (by omega)
    refine t_draw mixed rfl ?_
    refine mvI rfl ?_
    refine r_conv rfl rfl rfl rfl ?_
    refine mvS rfl ?_
    refine r_len rfl rfl rfl ?_
    refine r_rem rfl rfl (by omega) ?_
    refine mvI rfl ?_
    refine r_conv rfl rfl rfl rfl ?_
    refine mvS rfl ?_
    refine r_len rfl rfl rfl ?_
    refine r_rem rfl rfl (by omega) ?_
    refine asI rfl ?_
    refine asI rfl ?_
    refine r_nil ?_
    refine ⟨by kernel_rfl, ?_⟩
    refine i_then ?_
    refine t_seq ?_
    refine t_seq ?_
    refine t_region ?_
    refine mvI rfl ?_
    refine mvI rfl ?_
    refine r_bin rfl rfl rfl ?_
    refine r_nil ?_
    refine i_then ?_
    refine t_cond_dec rfl (fun hc2 => ?_) (fun hc2 => ?_)
    ·
      refine t_seq ?_
      refine t_draw mixed rfl ?_
      refine r_load_ptrN rfl rfl (by decide) rfl rfl (by exact Nat.le_of_ble_eq_true rfl) ?_
      refine mvS rfl ?_
      refine mvI rfl ?_
      refine r_index_sl rfl rfl rfl rfl rfl rfl (by omega) (by omega) ?_
      refine r_load_pp rfl rfl rfl rfl ?_
      refine mvS rfl ?_
      refine mvI rfl ?_
      refine r_index_sl rfl rfl rfl rfl rfl rfl (by omega) (by omega) ?_
      refine r_load_pp rfl rfl rfl rfl ?_
      refine r_build rfl rfl (by exact List.cons_ne_nil _ _) rfl (by repeat (first | exact (Parts.nil : Parts _ _ [] _) | (show Parts _ _ ((_, _) :: _) _; apply Parts.one; (· exact (rfl : _ = Ty.int _ _)); (· exact rfl)))) (by exact (rfl : _ = some [_, _])) ?_
      refine r_call (c_Wait f hs ⟨nth l ((IntKind.i64.wrap x).tmod l.length).toNat, nth l ((IntKind.i64.wrap y).tmod l.length).toNat⟩) rfl rfl rfl rfl rfl ?_
      refine mvT rfl ?_
      refine r_extract rfl rfl ?_
      refine r_extract rfl rfl ?_
      refine r_alloc rfl (by exact List.cons_ne_nil _ _) rfl ?_
      refine r_storeN rfl rfl (by decide) rfl rfl rfl rfl rfl rfl ?_
      refine asI rfl ?_
      refine r_nil ?_
      refine ⟨by kernel_rfl, ?_⟩
      refine i_then ?_
      refine t_seq ?_
      refine t_region ?_
      refine mvI rfl ?_
      refine r_bin rfl rfl rfl ?_
      refine mvB rfl ?_
      apply r_guard (s := 74) rfl rfl rfl
      · intro hg; apply opT_of; (refine r_call (c_awake) rfl rfl rfl rfl rfl ?_); refine r_nil ?_; exact rfl
      · exact rfl
      · exact rfl
      refine r_and rfl rfl ?_
      refine asB rfl ?_
      refine r_nil ?_
      refine i_then ?_
      refine t_ret ?_
      refine i_then_ret ?_
      refine i_rp1 rfl rfl ?_
      all_goals skip
      all_goals exact ret_eq rfl rfl (congrArg Ty.bool (by rw [hc2, wait_same hp h5 (hto.rng _ (nth_mem (xs := l) (k := ((IntKind.i64.wrap y).tmod l.length).toNat) (by omega)))]; rfl))
    ·
      refine t_skip ?_
      refine i_then ?_
      refine t_seq ?_
      refine t_draw mixed rfl ?_
      refine mvS rfl ?_
      refine mvI rfl ?_
      refine mvI rfl ?_
      refine r_min rfl rfl ?_
      refine r_index_sl rfl rfl rfl rfl rfl rfl (by omega) (by omega) ?_
      refine r_load_pp rfl rfl rfl rfl ?_
      refine mvS rfl ?_
      refine mvI rfl ?_
      refine mvI rfl ?_
      refine r_max rfl rfl ?_
      refine r_index_sl rfl rfl rfl rfl rfl rfl (by omega) (by omega) ?_
      refine r_load_pp rfl rfl rfl rfl ?_
      refine asI rfl ?_
      refine asI rfl ?_
      refine r_nil ?_
      refine ⟨by kernel_rfl, ?_⟩
      refine i_then ?_
      refine t_seq ?_
      obtain ⟨a, ea⟩ : ∃ a, a = nth l (min ((IntKind.i64.wrap x).tmod l.length) ((IntKind.i64.wrap y).tmod l.length)).toNat := ⟨_, rfl⟩
      obtain ⟨b, eb⟩ : ∃ b, b = nth l (max ((IntKind.i64.wrap x).tmod l.length) ((IntKind.i64.wrap y).tmod l.length)).toNat := ⟨_, rfl⟩
      have hf : RuleF f l a b := by rw [ea, eb]; exact rule_facts hp h5 ho (by have h := hc2; omega) (by omega)
      refine t_forget (B := live [(9, Ty.ptr 10 0), (10, Ty.sl I64 l), (15, Ty.int .i64 a), (16, Ty.int .i64 b)] [(10, Cont.cells 27 (flrTys f))]) ?_ ?_
      · (refine Ent.mk' ?_ ?_ <;> (repeat' (first | exact allSub_zero | exact allTags_nil | refine allSub_succ' ?_ (Ty.sub_any _) | refine allSub_succ' ?_ (Ty.sub_refl _) | refine allTags_cons rfl (Cont.sub_refl _) ?_ | refine allSub_succ' ?_ ?_)))
        all_goals first | exact Ty.sub_int ea.symm | exact Ty.sub_int eb.symm
      refine t_region ?_
      refine r_load_ptrN rfl rfl (by decide) rfl rfl (by exact Nat.le_of_ble_eq_true rfl) ?_
      refine mvI rfl ?_
      refine mvI rfl ?_
      refine r_build rfl rfl (by exact List.cons_ne_nil _ _) rfl (by repeat (first | exact (Parts.nil : Parts _ _ [] _) | (show Parts _ _ ((_, _) :: _) _; apply Parts.one; (· exact (rfl : _ = Ty.int _ _)); (· exact rfl)))) (by exact (rfl : _ = some [_, _])) ?_
      refine r_call (c_Wait f hs ⟨a, b⟩) rfl rfl rfl rfl rfl ?_
      refine mvT rfl ?_
      refine r_extract rfl rfl ?_
      refine r_extract rfl rfl ?_
      refine r_alloc rfl (by exact List.cons_ne_nil _ _) rfl ?_
      refine r_storeN rfl rfl (by decide) rfl rfl rfl rfl rfl rfl ?_
      refine asI rfl ?_
      refine r_nil ?_
      refine i_then ?_
      refine t_seq ?_
      refine t_seq ?_
      have hpm := hf.right
      have hsm := small_more hp ⟨a, b⟩
      have hrm := check_right hpm
      have hml : (moreF f ⟨a, b⟩).turnings.length = f.turnings.length := by unfold moreF; rfl
      have hmr : (moreF f ⟨a, b⟩).rules.length ≤ 17 := by have := hrm.ranged.rules; omega
      refine t_forget (B := live [(9, Ty.ptr 10 0), (10, Ty.sl I64 l), (15, Ty.int .i64 a), (16, Ty.int .i64 b), (17, Ty.ptr 18 0), (18, Ty.int .i64 0)] [(10, Cont.cells 27 (flrTys f)), (18, Cont.cells 27 (flrTys (moreF f ⟨a, b⟩)))]) ?_ ?_
      · (refine Ent.mk' ?_ ?_ <;> (repeat' (first | exact allSub_zero | exact allTags_nil | exact subs_nil | refine allSub_succ' ?_ (Ty.sub_any _) | refine allSub_succ' ?_ (Ty.sub_refl _) | refine allTags_cons rfl (Cont.sub_refl _) ?_ | refine allTags_cons rfl (Cont.sub_subs ?_) ?_ | refine subs_cons ?_ ?_ | refine allSub_succ' ?_ ?_)))
        all_goals first | exact Ty.sub_int (congrArg Prod.snd hf.wait) | exact Ty.sub_sl (congrArg (fun p => p.1.rules) hf.wait) | exact Ty.sub_sl (congrArg (fun p => p.1.turnings) hf.wait) | exact Ty.sub_sl (congrArg (fun p => p.1.bins) hf.wait) | exact Ty.sub_sl (congrArg (fun p => p.1.bears) hf.wait)
      refine t_region ?_
      refine mvI rfl ?_
      refine r_bin rfl rfl rfl ?_
      refine mvB rfl ?_
      apply r_guard (s := 99) rfl rfl rfl
      · intro hg; apply opT_of; (refine r_field_ptr rfl rfl rfl rfl rfl (by decide) ?_); refine r_nil ?_; exact rfl
      · exact rfl
      · exact rfl
      apply r_guard (s := 99) rfl rfl rfl
      · intro hg; apply opT_strip (s := 100) rfl (by (rw [hg]; rfl)); apply opT_of; (refine r_load_ptr rfl rfl (by decide) rfl rfl rfl ?_); refine r_nil ?_; exact rfl
      · exact rfl
      · exact rfl
      apply r_guard (s := 99) rfl rfl rfl
      · intro hg; apply opT_strip (s := 101) rfl (by (rw [hg]; rfl)); apply opT_of; (refine r_len rfl rfl rfl ?_); refine r_nil ?_; exact rfl
      · exact rfl
      · exact rfl
      apply r_guard (s := 99) rfl rfl rfl
      · intro hg; apply opT_of; (refine r_field_ptr rfl rfl rfl rfl rfl (by decide) ?_); refine r_nil ?_; exact rfl
      · exact rfl
      · exact rfl
      apply r_guard (s := 99) rfl rfl rfl
      · intro hg; apply opT_strip (s := 103) rfl (by (rw [hg]; rfl)); apply opT_of; (refine r_load_ptr rfl rfl (by decide) rfl rfl rfl ?_); refine r_nil ?_; exact rfl
      · exact rfl
      · exact rfl
      apply r_guard (s := 99) rfl rfl rfl
      · intro hg; apply opT_strip (s := 104) rfl (by (rw [hg]; rfl)); apply opT_of; (refine r_len rfl rfl rfl ?_); refine r_nil ?_; exact rfl
      · exact rfl
      · exact rfl
      apply r_guard (s := 99) rfl rfl rfl
      · intro hg; apply opT_strip (s := 105) rfl (by (rw [hg]; rfl)); apply opT_of; (refine r_add rfl rfl (by omega) (by omega) ?_); refine r_nil ?_; exact rfl
      · exact rfl
      · exact rfl
      apply r_guard (s := 99) rfl rfl rfl
      · intro hg; apply opT_strip (s := 102) rfl (by (rw [hg]; rfl)); apply opT_strip (s := 106) rfl (by (rw [hg]; rfl)); apply opT_of; (refine r_bin rfl rfl rfl ?_); refine r_nil ?_; exact rfl
      · exact rfl
      · exact rfl
      refine r_or rfl rfl ?_
      refine mvB rfl ?_
      apply r_guard (s := 109) rfl rfl rfl
      · intro hg; apply opT_of; (refine r_load_ptrN rfl rfl (by decide) rfl rfl (by exact Nat.le_of_ble_eq_true rfl) ?_); refine r_nil ?_; exact rfl
      · exact rfl
      · exact rfl
      apply r_guard (s := 109) rfl rfl rfl
      · intro hg; apply opT_of; (refine mvS rfl ?_); refine r_nil ?_; exact rfl
      · exact rfl
      · exact rfl
      apply r_guard (s := 109) rfl rfl rfl
      · intro hg; apply opT_strip (s := 110) rfl (by (rw [hg]; rfl)); apply opT_strip (s := 111) rfl (by (rw [hg]; rfl)); apply opT_of; (refine r_call (c_allowed5 (moreF f ⟨a, b⟩) l (by omega)) rfl rfl rfl rfl rfl ?_); refine r_nil ?_; exact rfl
      · exact rfl
      · exact rfl
      apply r_guard (s := 109) rfl rfl rfl
      · intro hg; apply opT_strip (s := 112) rfl (by (rw [hg]; rfl)); apply opT_of; (refine r_not rfl ?_); refine r_nil ?_; exact rfl
      · exact rfl
      · exact rfl
      refine r_or rfl rfl ?_
      refine r_nil ?_
      refine i_then ?_
      refine t_cond_ff rfl (rule11 hp hf) ?_
      refine t_skip ?_
      refine i_then ?_
      refine t_seq ?_
      refine t_seq ?_
      refine t_region ?_
      refine r_load_ptrN rfl rfl (by decide) rfl rfl (by exact Nat.le_of_ble_eq_true rfl) ?_
      refine mvI rfl ?_
      refine mvI rfl ?_
      refine r_build rfl rfl (by exact List.cons_ne_nil _ _) rfl (by repeat (first | exact (Parts.nil : Parts _ _ [] _) | (show Parts _ _ ((_, _) :: _) _; apply Parts.one; (· exact (rfl : _ = Ty.int _ _)); (· exact rfl)))) (by exact (rfl : _ = some [_, _])) ?_
      refine r_call (c_Wait (moreF f ⟨a, b⟩) hsm ⟨b, a⟩) rfl rfl rfl rfl rfl ?_
      refine mvT rfl ?_
      refine r_extract rfl rfl ?_
      refine r_extract rfl rfl ?_
      refine r_alloc rfl (by exact List.cons_ne_nil _ _) rfl ?_
      refine r_storeN rfl rfl (by decide) rfl rfl rfl rfl rfl rfl ?_
      refine asI rfl ?_
      refine r_nil ?_
      refine i_then ?_
      refine t_seq ?_
      refine t_region ?_
      refine mvI rfl ?_
      refine r_bin rfl rfl rfl ?_
      refine r_nil ?_
      refine i_then ?_
      refine t_cond_ff rfl (by rw [hf.back]; rfl) ?_
      refine t_skip ?_
      refine i_then ?_
      refine t_seq ?_
      refine t_region ?_
      refine r_load_ptrN rfl rfl (by decide) rfl rfl (by exact Nat.le_of_ble_eq_true rfl) ?_
      refine mvI rfl ?_
      refine r_call (c_pAhead (moreF f ⟨a, b⟩) hsm b) rfl rfl rfl rfl rfl ?_
      refine mvT rfl ?_
      refine r_extract rfl rfl ?_
      refine r_extract rfl rfl ?_
      refine r_alloc rfl (by exact List.cons_ne_nil _ _) rfl ?_
      refine r_store1 rfl rfl (by decide) rfl rfl (by exact (rfl : _ = Ty.sl _ _)) rfl (by exact Nat.le_of_ble_eq_true rfl) rfl rfl (by exact (rfl : _ = [_])) ?_
      refine asI rfl ?_
      refine r_nil ?_
      refine i_then ?_
      refine t_seq ?_
      refine t_region ?_
      refine r_load_ptrN rfl rfl (by decide) rfl rfl (by exact Nat.le_of_ble_eq_true rfl) ?_
      refine mvI rfl ?_
      refine r_call (c_pAhead f hs a) rfl rfl rfl rfl rfl ?_
      refine mvT rfl ?_
      refine r_extract rfl rfl ?_
      refine r_extract rfl rfl ?_
      refine asS rfl ?_
      refine asI rfl ?_
      refine r_nil ?_
      refine i_then ?_
      refine t_seq ?_
      refine t_seq ?_
      refine t_pub (tg := 22) [(21, Ty.pp [Ty.sl I64 (aheadR (moreF f ⟨a, b⟩) b)])] (by decide) rfl ⟨pub_ptr (T := 22) (tg := 22) (off := 0) (l := [Ty.sl I64 (aheadR (moreF f ⟨a, b⟩) b)]) rfl rfl rfl (by decide), trivial⟩ ?_
      refine t_region ?_
      refine mvI rfl ?_
      refine r_bin rfl rfl rfl ?_
      refine mvB rfl ?_
      apply r_guard (s := 139) rfl rfl rfl
      · intro hg; apply opT_of; (refine mvI rfl ?_); refine r_nil ?_; exact rfl
      · exact rfl
      · exact rfl
      apply r_guard (s := 139) rfl rfl rfl
      · intro hg; apply opT_strip (s := 140) rfl (by (rw [hg]; rfl)); apply opT_of; (refine r_bin rfl rfl rfl ?_); refine r_nil ?_; exact rfl
      · exact rfl
      · exact rfl
      refine r_or rfl rfl ?_
      refine mvB rfl ?_
      apply r_guard (s := 143) rfl rfl rfl
      · intro hg; apply opT_of; (refine r_load_pp rfl rfl rfl rfl ?_); refine r_nil ?_; exact rfl
      · exact rfl
      · exact rfl
      apply r_guard (s := 143) rfl rfl rfl
      · intro hg; apply opT_of; (refine mvI rfl ?_); refine r_nil ?_; exact rfl
      · exact rfl
      · exact rfl
      apply r_guard (s := 143) rfl rfl rfl
      · intro hg; apply opT_strip (s := 144) rfl (by (rw [hg]; rfl)); apply opT_strip (s := 145) rfl (by (rw [hg]; rfl)); apply opT_of; (refine r_call (c_Contains_int _ _) rfl rfl rfl rfl rfl ?_); refine r_nil ?_; exact rfl
      · exact rfl
      · exact rfl
      apply r_guard (s := 143) rfl rfl rfl
      · intro hg; apply opT_strip (s := 146) rfl (by (rw [hg]; rfl)); apply opT_of; (refine r_not rfl ?_); refine r_nil ?_; exact rfl
      · exact rfl
      · exact rfl
      refine r_or rfl rfl ?_
      refine mvB rfl ?_
      apply r_guard (s := 149) rfl rfl rfl
      · intro hg; apply opT_of; (refine mvS rfl ?_); refine r_nil ?_; exact rfl
      · exact rfl
      · exact rfl
      apply r_guard (s := 149) rfl rfl rfl
      · intro hg; apply opT_of; (refine r_makeFunc rfl ?_); refine r_nil ?_; exact rfl
      · exact rfl
      · exact rfl
      apply r_guard (s := 149) rfl rfl rfl
      · intro hg; apply opT_strip (s := 150) rfl (by (rw [hg]; rfl)); apply opT_strip (s := 151) rfl (by (rw [hg]; rfl)); apply opT_of; (refine r_call (c_ContainsFunc_int (aheadR f a) (Ty.clo 62 [Ty.pp [Ty.sl I64 (aheadR (moreF f ⟨a, b⟩) b)]]) rfl (fun u => !decide (u ∈ aheadR (moreF f ⟨a, b⟩) b)) rfl rfl fun u _ => cal_clo (c_FloorRule1 _ u) rfl rfl rfl rfl rfl rfl) rfl rfl rfl rfl rfl ?_); refine r_nil ?_; exact rfl
      · exact rfl
      · exact rfl
      refine r_or rfl rfl ?_
      refine r_nil ?_
      refine i_then ?_
      refine t_cond_ff rfl (rule18 hp hf) ?_
      refine t_skip ?_
      refine i_then ?_
      refine t_seq ?_
      refine t_seq ?_
      refine t_region ?_
      refine r_field_ptr rfl rfl rfl rfl rfl (by decide) ?_
      refine r_load_ptr rfl rfl (by decide) rfl rfl rfl ?_
      refine r_len rfl rfl rfl ?_
      refine mvI rfl ?_
      refine r_nil ?_
      refine i_then ?_
      refine t_block ?_
      refine t_loop (fun (k : {k : Nat // k ≤ f.turnings.length}) => live [(9, Ty.ptr 10 0), (15, Ty.int .i64 a), (16, Ty.int .i64 b), (17, Ty.ptr 18 0), (21, Ty.pp [Ty.sl I64 (aheadR (moreF f ⟨a, b⟩) b)]), (156, Ty.int .i64 f.turnings.length), (157, Ty.int .i64 (k.1 : Nat))] [(10, Cont.cells 27 (flrTys f)), (18, Cont.cells 27 (flrTys (moreF f ⟨a, b⟩)))]) (fun k => f.turnings.length - k.1) (⟨0, by omega⟩) ?_ fun k => ?_
      · (refine Ent.mk' ?_ ?_ <;> (repeat' (first | exact allSub_zero | exact allTags_nil | refine allSub_succ' ?_ (Ty.sub_any _) | refine allSub_succ' ?_ (Ty.sub_refl _) | refine allTags_cons rfl (Cont.sub_refl _) ?_)))
      ·
        have hk := k.2
        refine t_seq ?_
        refine t_region ?_
        refine r_bin rfl rfl rfl ?_
        refine r_nil ?_
        refine i_then ?_
        refine t_seq ?_
        refine t_cond_dec rfl (fun hc6 => ?_) (fun hc6 => ?_)
        ·
          refine t_skip ?_
          refine i_then ?_
          refine t_seq ?_
          refine t_block ?_
          refine t_seq ?_
          refine t_region ?_
          refine mvI rfl ?_
          refine asI rfl ?_
          refine r_nil ?_
          refine i_then ?_
          refine t_seq ?_
          refine t_draw mixed rfl ?_
          refine r_load_pp rfl rfl rfl rfl ?_
          refine mvI rfl ?_
          refine r_call (c_Contains_int _ _) rfl rfl rfl rfl rfl ?_
          refine r_load_ptrN rfl rfl (by decide) rfl rfl (by exact Nat.le_of_ble_eq_true rfl) ?_
          refine mvI rfl ?_
          refine mvI rfl ?_
          refine r_call (c_ahead5 (moreF f ⟨a, b⟩) hrm (k.1 : Nat) b (by rw [hml]; omega) (by rw [hml]; exact hf.hb)) rfl rfl rfl rfl rfl ?_
          refine r_neq_B und4 rfl rfl ?_
          refine r_nil ?_
          refine ⟨by kernel_rfl, ?_⟩
          refine i_then ?_
          refine t_cond_ff rfl (rule23 hp hf _) ?_
          refine t_skip ?_
          refine i_block ?_
          refine i_then ?_
          refine t_region ?_
          refine r_add rfl rfl (by omega) (by omega) ?_
          refine mvI rfl ?_
          refine r_nil ?_
          refine i_round (⟨k.1 + 1, by omega⟩) ?_ (by show f.turnings.length - (k.1 + 1) < f.turnings.length - k.1; omega)
          (refine Ent.mk' ?_ ?_ <;> (repeat' (first | exact allSub_zero | exact allTags_nil | refine allSub_succ' ?_ (Ty.sub_any _) | refine allSub_succ' ?_ (Ty.sub_refl _) | refine allTags_cons rfl (Cont.sub_refl _) ?_)))
          all_goals skip
        ·
          refine t_exit ?_
          refine i_then_exit ?_
          refine i_then_exit ?_
          refine i_block_exit rfl ?_
          refine i_then ?_
          refine t_seq ?_
          refine t_seq ?_
          refine t_region ?_
          refine r_field_ptr rfl rfl rfl rfl rfl (by decide) ?_
          refine r_load_ptr rfl rfl (by decide) rfl rfl rfl ?_
          refine r_len rfl rfl rfl ?_
          refine mvI rfl ?_
          refine r_nil ?_
          refine i_then ?_
          refine t_block ?_
          refine t_loop (fun (k : {k : Nat // k ≤ f.bears.length}) => live [(9, Ty.ptr 10 0), (15, Ty.int .i64 a), (16, Ty.int .i64 b), (17, Ty.ptr 18 0), (171, Ty.int .i64 f.bears.length), (172, Ty.int .i64 (k.1 : Nat))] [(10, Cont.cells 27 (flrTys f)), (18, Cont.cells 27 (flrTys (moreF f ⟨a, b⟩)))]) (fun k => f.bears.length - k.1) (⟨0, by omega⟩) ?_ fun k => ?_
          · (refine Ent.mk' ?_ ?_ <;> (repeat' (first | exact allSub_zero | exact allTags_nil | refine allSub_succ' ?_ (Ty.sub_any _) | refine allSub_succ' ?_ (Ty.sub_refl _) | refine allTags_cons rfl (Cont.sub_refl _) ?_)))
          ·
            have hk := k.2
            refine t_seq ?_
            refine t_region ?_
            refine r_bin rfl rfl rfl ?_
            refine r_nil ?_
            refine i_then ?_
            refine t_seq ?_
            refine t_cond_dec rfl (fun hc8 => ?_) (fun hc8 => ?_)
            ·
              refine t_skip ?_
              refine i_then ?_
              refine t_seq ?_
              refine t_block ?_
              refine t_seq ?_
              refine t_region ?_
              refine mvI rfl ?_
              refine asI rfl ?_
              refine r_nil ?_
              refine i_then ?_
              refine t_seq ?_
              refine t_region ?_
              refine r_load_ptrN rfl rfl (by decide) rfl rfl (by exact Nat.le_of_ble_eq_true rfl) ?_
              refine mvI rfl ?_
              refine r_call (c_Most f hs (k.1 : Nat)) rfl rfl rfl rfl rfl ?_
              refine mvT rfl ?_
              refine r_extract rfl rfl ?_
              refine r_extract rfl rfl ?_
              refine asI rfl ?_
              refine asI rfl ?_
              refine r_nil ?_
              refine i_then ?_
              refine t_seq ?_
              refine t_region ?_
              refine r_load_ptrN rfl rfl (by decide) rfl rfl (by exact Nat.le_of_ble_eq_true rfl) ?_
              refine mvI rfl ?_
              refine r_call (c_Most (moreF f ⟨a, b⟩) hsm (k.1 : Nat)) rfl rfl rfl rfl rfl ?_
              refine mvT rfl ?_
              refine r_extract rfl rfl ?_
              refine r_extract rfl rfl ?_
              refine asI rfl ?_
              refine asI rfl ?_
              refine r_nil ?_
              refine i_then ?_
              refine t_seq ?_
              refine t_region ?_
              refine mvI rfl ?_
              refine r_bin rfl rfl rfl ?_
              refine mvB rfl ?_
              apply r_guard (s := 189) rfl rfl rfl
              · intro hg; apply opT_of; (refine mvI rfl ?_); refine r_nil ?_; exact rfl
              · exact rfl
              · exact rfl
              apply r_guard (s := 189) rfl rfl rfl
              · intro hg; apply opT_strip (s := 190) rfl (by (rw [hg]; rfl)); apply opT_of; (refine r_bin rfl rfl rfl ?_); refine r_nil ?_; exact rfl
              · exact rfl
              · exact rfl
              refine r_or rfl rfl ?_
              refine mvB rfl ?_
              apply r_guard (s := 193) rfl rfl rfl
              · intro hg; apply opT_of; (refine mvI rfl ?_); refine r_nil ?_; exact rfl
              · exact rfl
              · exact rfl
              apply r_guard (s := 193) rfl rfl rfl
              · intro hg; apply opT_of; (refine mvI rfl ?_); refine r_nil ?_; exact rfl
              · exact rfl
              · exact rfl
              apply r_guard (s := 193) rfl rfl rfl
              · intro hg; apply opT_strip (s := 194) rfl (by (rw [hg]; rfl)); apply opT_strip (s := 195) rfl (by (rw [hg]; rfl)); apply opT_of; (refine r_bin rfl rfl rfl ?_); refine r_nil ?_; exact rfl
              · exact rfl
              · exact rfl
              refine r_or rfl rfl ?_
              refine r_nil ?_
              refine i_then ?_
              refine t_cond_ff rfl (rule31 hp hf (by omega)) ?_
              refine t_skip ?_
              refine i_block ?_
              refine i_then ?_
              refine t_region ?_
              refine r_add rfl rfl (by omega) (by omega) ?_
              refine mvI rfl ?_
              refine r_nil ?_
              refine i_round (⟨k.1 + 1, by omega⟩) ?_ (by show f.bears.length - (k.1 + 1) < f.bears.length - k.1; omega)
              (refine Ent.mk' ?_ ?_ <;> (repeat' (first | exact allSub_zero | exact allTags_nil | refine allSub_succ' ?_ (Ty.sub_any _) | refine allSub_succ' ?_ (Ty.sub_refl _) | refine allTags_cons rfl (Cont.sub_refl _) ?_)))
              all_goals skip
            ·
              refine t_exit ?_
              refine i_then_exit ?_
              refine i_then_exit ?_
              refine i_block_exit rfl ?_
              refine i_then ?_
              refine t_seq ?_
              refine t_region ?_
              refine r_load_ptrN rfl rfl (by decide) rfl rfl (by exact Nat.le_of_ble_eq_true rfl) ?_
              refine r_call (s_Count f hs) rfl rfl rfl rfl rfl ?_
              refine mvT rfl ?_
              refine r_extract rfl rfl ?_
              refine r_extract rfl rfl ?_
              refine asI rfl ?_
              refine asI rfl ?_
              refine r_nil ?_
              refine i_then ?_
              refine t_seq ?_
              refine t_region ?_
              refine r_load_ptrN rfl rfl (by decide) rfl rfl (by exact Nat.le_of_ble_eq_true rfl) ?_
              refine r_call (s_Count (moreF f ⟨a, b⟩) hsm) rfl rfl rfl rfl rfl ?_
              refine mvT rfl ?_
              refine r_extract rfl rfl ?_
              refine r_extract rfl rfl ?_
              refine asI rfl ?_
              refine asI rfl ?_
              refine r_nil ?_
              refine i_then ?_
              refine t_seq ?_
              refine t_region ?_
              refine r_load_ptrN rfl rfl (by decide) rfl rfl (by exact Nat.le_of_ble_eq_true rfl) ?_
              refine mvI rfl ?_
              refine mvI rfl ?_
              refine r_call (s_Must (moreF f ⟨a, b⟩) hsm a b) rfl rfl rfl rfl rfl ?_
              refine mvT rfl ?_
              refine r_extract rfl rfl ?_
              refine r_extract rfl rfl ?_
              refine asB rfl ?_
              refine asI rfl ?_
              refine r_nil ?_
              refine i_then ?_
              refine t_seq ?_
              refine t_region ?_
              refine mvI rfl ?_
              refine r_bin rfl rfl rfl ?_
              refine mvB rfl ?_
              apply r_guard (s := 218) rfl rfl rfl
              · intro hg; apply opT_of; (refine mvI rfl ?_); refine r_nil ?_; exact rfl
              · exact rfl
              · exact rfl
              apply r_guard (s := 218) rfl rfl rfl
              · intro hg; apply opT_strip (s := 219) rfl (by (rw [hg]; rfl)); apply opT_of; (refine r_bin rfl rfl rfl ?_); refine r_nil ?_; exact rfl
              · exact rfl
              · exact rfl
              refine r_and rfl rfl ?_
              refine mvB rfl ?_
              apply r_guard (s := 222) rfl rfl rfl
              · intro hg; apply opT_of; (refine mvI rfl ?_); refine r_nil ?_; exact rfl
              · exact rfl
              · exact rfl
              apply r_guard (s := 222) rfl rfl rfl
              · intro hg; apply opT_of; (refine mvI rfl ?_); refine r_nil ?_; exact rfl
              · exact rfl
              · exact rfl
              apply r_guard (s := 222) rfl rfl rfl
              · intro hg; apply opT_strip (s := 223) rfl (by (rw [hg]; rfl)); apply opT_strip (s := 224) rfl (by (rw [hg]; rfl)); apply opT_of; (refine r_bin rfl rfl rfl ?_); refine r_nil ?_; exact rfl
              · exact rfl
              · exact rfl
              refine r_and rfl rfl ?_
              refine mvB rfl ?_
              apply r_guard (s := 227) rfl rfl rfl
              · intro hg; apply opT_of; (refine mvI rfl ?_); refine r_nil ?_; exact rfl
              · exact rfl
              · exact rfl
              apply r_guard (s := 227) rfl rfl rfl
              · intro hg; apply opT_strip (s := 228) rfl (by (rw [hg]; rfl)); apply opT_of; (refine r_bin rfl rfl rfl ?_); refine r_nil ?_; exact rfl
              · exact rfl
              · exact rfl
              refine r_and rfl rfl ?_
              refine mvB rfl ?_
              apply r_guard (s := 231) rfl rfl rfl
              · intro hg; apply opT_of; (refine mvI rfl ?_); refine r_nil ?_; exact rfl
              · exact rfl
              · exact rfl
              apply r_guard (s := 231) rfl rfl rfl
              · intro hg; apply opT_strip (s := 232) rfl (by (rw [hg]; rfl)); apply opT_of; (refine r_bin rfl rfl rfl ?_); refine r_nil ?_; exact rfl
              · exact rfl
              · exact rfl
              apply r_guard (s := 231) rfl rfl rfl
              · intro hg; apply opT_strip (s := 233) rfl (by (rw [hg]; rfl)); apply opT_of; (refine mvB rfl ?_); refine r_nil ?_; exact rfl
              · exact rfl
              · exact rfl
              apply r_guardG (s := 234) rfl rfl rfl
              · intro hg1 hg2; apply opT_of; (refine mvI rfl ?_); refine r_nil ?_; exact rfl
              · exact rfl
              · exact rfl
              apply r_guardG (s := 234) rfl rfl rfl
              · intro hg1 hg2; apply opT_strip (s := 235) rfl (by (rw [hg1, hg2]; rfl)); apply opT_of; (refine r_bin rfl rfl rfl ?_); refine r_nil ?_; exact rfl
              · exact rfl
              · exact rfl
              apply r_guard (s := 231) rfl rfl rfl
              · intro hg; apply opT_strip (s := 234) rfl (by (rw [hg]; rfl)); apply opT_stripG (s := 236) rfl (by (rw [hg]; rfl)); apply opT_of; (refine r_and rfl rfl ?_); refine r_nil ?_; exact rfl
              · exact rfl
              · exact rfl
              apply r_guard (s := 231) rfl rfl rfl
              · intro hg; apply opT_strip (s := 237) rfl (by (rw [hg]; rfl)); apply opT_of; (refine mvB rfl ?_); refine r_nil ?_; exact rfl
              · exact rfl
              · exact rfl
              apply r_guardG (s := 238) rfl rfl rfl
              · intro hg1 hg2; apply opT_of; (refine mvB rfl ?_); refine r_nil ?_; exact rfl
              · exact rfl
              · exact rfl
              apply r_guard (s := 231) rfl rfl rfl
              · intro hg; apply opT_strip (s := 238) rfl (by (rw [hg]; rfl)); apply opT_stripG (s := 239) rfl (by (rw [hg]; rfl)); apply opT_of; (refine r_and rfl rfl ?_); refine r_nil ?_; exact rfl
              · exact rfl
              · exact rfl
              apply r_guard (s := 231) rfl rfl rfl
              · intro hg; apply opT_strip (s := 240) rfl (by (rw [hg]; rfl)); apply opT_of; (refine mvB rfl ?_); refine r_nil ?_; exact rfl
              · exact rfl
              · exact rfl
              apply r_guardG (s := 241) rfl rfl rfl
              · intro hg1 hg2; apply opT_of; (refine mvI rfl ?_); refine r_nil ?_; exact rfl
              · exact rfl
              · exact rfl
              apply r_guardG (s := 241) rfl rfl rfl
              · intro hg1 hg2; apply opT_strip (s := 242) rfl (by (rw [hg1, hg2]; rfl)); apply opT_of; (refine r_bin rfl rfl rfl ?_); refine r_nil ?_; exact rfl
              · exact rfl
              · exact rfl
              apply r_guardG (s := 241) rfl rfl rfl
              · intro hg1 hg2; apply opT_strip (s := 243) rfl (by (rw [hg1, hg2]; rfl)); apply opT_of; (refine mvB rfl ?_); refine r_nil ?_; exact rfl
              · exact rfl
              · exact rfl
              apply r_guardG (s := 244) rfl rfl rfl
              · intro hg1 hg2; apply opT_of; (refine mvI rfl ?_); refine r_nil ?_; exact rfl
              · exact rfl
              · exact rfl
              apply r_guardG (s := 244) rfl rfl rfl
              · intro hg1 hg2; apply opT_strip (s := 245) rfl (by (rw [hg1, hg2]; rfl)); apply opT_of; (refine r_bin rfl rfl rfl ?_); refine r_nil ?_; exact rfl
              · exact rfl
              · exact rfl
              apply r_guardG (s := 241) rfl rfl rfl
              · intro hg1 hg2; apply opT_strip (s := 244) rfl (by (rw [hg1, hg2]; rfl)); apply opT_stripG (s := 246) rfl (by (rw [hg1, hg2]; rfl)); apply opT_of; (refine r_and rfl rfl ?_); refine r_nil ?_; exact rfl
              · exact rfl
              · exact rfl
              apply r_guard (s := 231) rfl rfl rfl
              · intro hg; apply opT_strip (s := 241) rfl (by (rw [hg]; rfl)); apply opT_stripG (s := 247) rfl (by (rw [hg]; rfl)); apply opT_of; (refine r_or rfl rfl ?_); refine r_nil ?_; exact rfl
              · exact rfl
              · exact rfl
              refine r_and rfl rfl ?_
              refine mvB rfl ?_
              apply r_guard (s := 250) rfl rfl rfl
              · intro hg; apply opT_of; (refine r_call (c_awake) rfl rfl rfl rfl rfl ?_); refine r_nil ?_; exact rfl
              · exact rfl
              · exact rfl
              refine r_and rfl rfl ?_
              refine asB rfl ?_
              refine r_nil ?_
              refine i_then ?_
              refine t_ret ?_
              refine i_rp1 rfl rfl ?_
              all_goals skip
              all_goals exact ret_eq rfl rfl (congrArg Ty.bool (Bool.and_eq_true_iff.2 ⟨rule37 hp hf, rfl⟩))
end Go.Proofs.Ytifgbnbkimcchaa

namespace Go.T
open Go Go.RowKit Go.ChangeShapes Go.WideShapes Go.ChangeAt
def pubs : Tags := fun _ => none
theorem wf_pubs (w : World) : Wf w pubs := ⟨fun _ _ h => (by cases h), fun _ _ _ h => (by cases h)⟩
theorem pubs_zero : ∀ b t, pubs b = some t → t = 0 := fun _ _ h => by cases h
structure Rd {α : Type} (P : Program) (e : TypeId) (E : El α) : Prop where
  size : P.cellsOf e = E.size
  pos : 0 < E.size
  rd : ∀ {H : Type} {enc : TypeId × Value → H} {w : World} {base : Nat} {held : Bool} {n : Nat} {cs : List Value} {y : DataW H × List MemPlace}, DataW.trod enc P w base (fun _ => true) held n e cs = some y → ∃ x, dens w pubs (E.tys x) cs
section
variable {H : Type} {enc : TypeId × Value → H} {P : Program} {w : World} {base : Nat} {held : Bool} {α : Type} {E : El α} {t e : TypeId} {n : Nat} {cs : List Value} {y : DataW H × List MemPlace}
theorem rd_sl (hR : Rd P e E) (ht : P.underlying t = some (.slice e)) (h : DataW.trod enc P w base (fun _ => true) held n t cs = some y) : ∃ v xs, cs = [v] ∧ (Ty.sl E xs).den w pubs v := by
  rcases Go.Deep.open_slice ht h with ⟨rfl, _⟩ | ⟨a, len, cap, m, k, D, Pl, rfl, _, hl, hm, hmm, _, hel⟩
  · exact ⟨_, [], rfl, none, 0, rfl, Nat.le_refl _, Nat.zero_le _, fun h => absurd h (Nat.lt_irrefl _)⟩
  have hlm : len ≤ m := by rw [hmm]; simpa using hl
  have hX : ∀ i : Fin len, ∃ x : α, ∃ cs', w.cells? base (a.add (i.1 * P.cellsOf e)) (P.cellsOf e) = some cs' ∧ dens w pubs (E.tys x) cs' := fun i => by
    obtain ⟨cs', h1, h2⟩ := hel i.1 (Nat.lt_of_lt_of_le i.2 hlm)
    obtain ⟨x, hx⟩ := hR.rd h2
    exact ⟨x, cs', h1, hx⟩
  let X : Fin len → α := fun i => (hX i).choose
  have hXs : ∀ i : Fin len, ∃ cs', w.cells? base (a.add (i.1 * P.cellsOf e)) (P.cellsOf e) = some cs' ∧ dens w pubs (E.tys (X i)) cs' := fun i => (hX i).choose_spec
  have hlen : (List.ofFn X).length = len := by simp
  refine ⟨_, List.ofFn X, rfl, some a, cap, by rw [hlen], by rw [hlen]; exact hl, hm, fun h0 => ?_⟩
  rw [hlen] at h0
  have hcell : ∀ (i : Fin len) (j : Nat) (u : Ty), (E.tys (X i))[j]? = some u → ∃ v, w.cell? (a.add (i.1 * E.size + j)) = some v ∧ u.den w pubs v := fun i j u hu => by
    obtain ⟨cs', h1, h2⟩ := hXs i
    obtain ⟨v, hv, hd⟩ := dens_get h2 j u hu
    obtain ⟨_, g1, g2⟩ := World.cells?_some h1
    have hj : j < P.cellsOf e := by
      rw [hR.size, ← E.len (X i)]
      exact (List.getElem?_eq_some_iff.1 hu).1
    refine ⟨v, ?_, hd⟩
    have := g2 j hj
    rw [Go.Deep.add_add, hv, hR.size] at this
    exact this
  have hsz := hR.pos
  have hfirst : ∃ v, w.cell? (a.add 0) = some v := by
    obtain ⟨u, hu⟩ : ∃ u, (E.tys (X ⟨0, h0⟩))[0]? = some u := ⟨_, List.getElem?_eq_getElem (by rw [E.len]; exact hsz)⟩
    obtain ⟨v, hv, _⟩ := hcell ⟨0, h0⟩ 0 u hu
    exact ⟨v, by simpa using hv⟩
  obtain ⟨b, off, sp⟩ := a
  obtain ⟨v0, hv0⟩ := hfirst
  have hsp : sp = none := by simpa [Addr.add] using World.cell?_spot hv0
  subst hsp
  have hb : b < w.heap.size := by
    obtain ⟨cs', h1, _⟩ := hXs ⟨0, h0⟩
    have := World.cells?_block h1 (by rw [hR.size]; exact hsz)
    simpa [Addr.add] using this
  refine ⟨b, off, rfl, rfl, hb, fun i u hu => ?_⟩
  have hi : i < len * E.size := by
    have := (List.getElem?_eq_some_iff.1 hu).1
    rw [flat_len, hlen] at this; exact this
  have hk : i / E.size < len := Nat.div_lt_of_lt_mul (by rw [Nat.mul_comm]; exact hi)
  have hj : i % E.size < E.size := Nat.mod_lt _ hsz
  have hij : i / E.size * E.size + i % E.size = i := by rw [Nat.mul_comm]; exact Nat.div_add_mod i E.size
  have hu2 := hu
  rw [← hij, flat_get E _ _ _ (by rw [hlen]; exact hk) hj, List.getElem?_ofFn, dif_pos hk] at hu2
  obtain ⟨v, hv, hd⟩ := hcell ⟨i / E.size, hk⟩ (i % E.size) u hu2
  refine ⟨v, ?_, hd⟩
  rw [← Go.WideShapes.add_plain]
  rw [hij] at hv
  exact hv
theorem rd_sl1 {c : Value} (hR : Rd P e E) (ht : P.underlying t = some (.slice e)) (h : DataW.trod enc P w base (fun _ => true) held n t [c] = some y) : ∃ xs, (Ty.sl E xs).den w pubs c := by
  obtain ⟨v, xs, e, hd⟩ := rd_sl hR ht h
  exact ⟨xs, by rw [show c = v by simpa using e]; exact hd⟩
end
section
variable {w w' : World} {S K : Nat → Prop} {M' : Tags}
theorem le_block (le : Le S K w pubs w' M') {b : Nat} (hb : b < w.heap.size) : w'.heap[b]? = w.heap[b]? := (le.pub b hb rfl).2
theorem le_same (le : Le S K w pubs w' M') {p : MemPlace} (hp : p.block < w.heap.size) : w.sameAt w' p := by
  cases p with
  | cell b o => exact World.cell?_of_block (w := w) (le_block le hp)
  | map b => exact le_block le hp
theorem le_kept (le : Le S K w pubs w' M') (may : MemPlace → Prop) : w.keptBut w' may := by
  refine ⟨le.os, le.out, fun i hi => ?_⟩
  have e := le_block le hi
  rw [e]
  split
  · rename_i h1 h2
    rw [h1] at h2
    simp only [Option.some.injEq, Obj.cells.injEq] at h2
    obtain ⟨rfl, rfl, rfl⟩ := h2
    exact ⟨rfl, rfl, rfl, fun _ _ => rfl⟩
  · rename_i h1 h2
    rw [h1] at h2
    simp only [Option.some.injEq, Obj.map.injEq] at h2
    exact Or.inr ⟨h2.1.symm, h2.2.symm⟩
  · rfl
theorem le_frozen (le : Le S K w pubs w' M') {a : Addr} (ha : a.block < w.heap.size) : w'.frozen? a = w.frozen? a := by
  unfold World.frozen?
  rw [le_block le ha]
end
section
variable {H : Type} {enc : TypeId × Value → H} {P : Program}
theorem trodAll_stays (hl : laidOutB P = true) {w w' : World} {sp : Nat → Bool} : ∀ {ts : List TypeId} {vs : List Value} {ds : List (DataW H)} {ps : List MemPlace}, (∀ t ∈ ts, P.readableRec t = true ∧ t < P.types.size) →
    DataW.TrodAll enc P w 0 (fun _ => true) true ts vs ds ps → (∀ p ∈ ps, w.sameAt w' p) → (∀ p ∈ ps, sp p.block = true) → DataW.TrodAll enc P w' 0 sp true ts vs ds ps
  | [], [], [], _, _, h, _, _ => h
  | t :: ts, v :: vs, d :: ds, _, ht, ⟨p, q, h1, h2, e⟩, hs, hsp => by
    subst e
    have h0 := ht t List.mem_cons_self
    exact ⟨p, q, Go.WideElems.Trod_stays hl h0.1 h0.2 h1 (fun x hx => hs x (List.mem_append_left _ hx)) (fun x hx => hsp x (List.mem_append_left _ hx)),
      trodAll_stays hl (fun t h => ht t (List.mem_cons_of_mem _ h)) h2 (fun x hx => hs x (List.mem_append_right _ hx)) (fun x hx => hsp x (List.mem_append_right _ hx)), rfl⟩
theorem post_true {f : Func} {s : ChangeSpec} {apart fresh handsOn again : Bool} {W W' : World} {args : Array Value} {ds : List (DataW H)} {before : List MemPlace} {S K : Nat → Prop} {M' : Tags}
    (hl : laidOutB P = true) (hv : s.vars = []) (hrd : ∀ t ∈ f.params.toList, P.readableRec t = true ∧ t < P.types.size) {tb : TypeId} (htb : P.underlying tb = some .bool) (hrt : f.resultTypes = #[tb])
    (hW : DataW.Whole enc P f.params.toList s.vars apart W args.toList ds [] before) (hres : (s.fn H (ds ++ [])).results = [.lit (.bool true)]) (hargs : (s.fn H (ds ++ [])).args = ds) (hvars : (s.fn H (ds ++ [])).vars = [])
    (le : Le S K W pubs W' M') : s.post enc P f apart fresh handsOn again W args (.bool true) W' := by
  have hW0 := hW
  obtain ⟨p, q, hA, hV, hb, hfz, hn⟩ := hW0
  have hlt := DataW.TrodAll.lt hA
  have hq : q = [] := by rw [hv] at hV; exact (trodVars_none hV).2
  subst hq
  have hbp : before = p := by rw [hb]; simp
  have hre : ∀ (b : Nat) (sp : Nat → Bool) (hd : Bool), DataW.TrodAll enc P W' b sp hd f.resultTypes.toList ((Value.bool true).resultList f.resultTypes.size) (s.fn H (ds ++ [])).results [] := fun b sp hd => by
    rw [hrt, hres]; exact trodAll_mk1 (shut_bool htb true)
  have har : ∀ sp : Nat → Bool, (∀ x ∈ p, sp x.block = true) → DataW.TrodAll enc P W' 0 sp true f.params.toList args.toList (s.fn H (ds ++ [])).args p := fun sp hsp => by
    rw [hargs]; exact trodAll_stays hl hrd hA (fun x hx => le_same le (hlt x hx)) hsp
  have hva : ∀ sp : Nat → Bool, DataW.TrodVars enc P W' sp s.vars (s.fn H (ds ++ [])).vars [] := fun sp => by
    rw [hvars, hv]; exact rfl
  have hok : ∀ (j : Nat) (t : TypeId) (r : Value), f.resultTypes[j]? = some t → ((Value.bool true).resultList f.resultTypes.size)[j]? = some r → Value.okWide P W' .any 0 t r := by
    exact ok_one (by rw [hrt]) rfl (okWide_bool_mk htb true)
  refine ⟨ds, [], before, [], p, [], hW, hre _ _ _, har _ (fun x hx => by simpa using hlt x hx), hva _, World.keptBut_mono (fun x hx => hx) (le_kept le _), fun _ => ?_⟩
  refine ⟨hok, _, _, ([] ++ p) ++ [], ⟨[] ++ p, [], trodAll_append (har _ (fun _ _ => rfl)) (hre _ _ _), hva _, rfl, ?_, ?_⟩, ?_⟩
  · intro b off hp
    have hp' : MemPlace.cell b off ∈ p := by simpa using hp
    rw [le_frozen le (hlt _ hp')]
    exact hfz b off (by rw [hbp]; exact hp')
  · intro ha
    have := hn ha
    rw [hbp] at this
    simpa using this
  · intro x hx _
    rw [hbp]
    simpa using hx
end
end Go.T

namespace Go.Proofs.Ytifgbnbkimcchaa
open Go Go.T Go.RowKit Go.ChangeShapes Go.WideShapes Go.ChangeAt
section
variable {H : Type} {enc : TypeId × Value → H} {W : World} {base : Nat} {held : Bool} {v : Value} {d : DataW H} {p : List MemPlace}
end
end Go.Proofs.Ytifgbnbkimcchaa

namespace Go.Proofs.Ytifgbnbkimcchaa
open Go Go.T Go.RowKit Go.ChangeShapes Go.WideShapes Go.ChangeAt
theorem rdU8 : Rd Try.prog 5 U8 := ⟨by kernel_rfl, by decide, fun h => by
  obtain ⟨i, rfl, _⟩ := DataW.trod_int Try.underlying5 h
  exact ⟨i, rfl, trivial⟩⟩
section
variable {H : Type} {enc : TypeId × Value → H} {W : World} {base : Nat} {held : Bool} {v : Value} {d : DataW H} {p : List MemPlace}
set_option maxRecDepth 100000 in
theorem rd_u8 (hv : Value.okWide Try.prog W .any base 5 v) (h : DataW.Trod enc Try.prog W 0 (fun _ => true) held 5 v d p) : ∃ n : Int, (0 ≤ n ∧ n ≤ 255) ∧ (Ty.int .u8 n).den W pubs v := by
  obtain ⟨n, rfl, _, _, hw⟩ := open_int Try.underlying5 hv h
  refine ⟨n, ?_, rfl⟩
  simp [Lit.wf, IntKind.wrap] at hw
  have e1 : IntKind.u8.min = 0 := rfl
  have e2 : IntKind.u8.max = 255 := rfl
  omega
set_option maxRecDepth 100000 in
theorem rd_bytes (hv : Value.okWide Try.prog W .any base 92 v) (h : DataW.Trod enc Try.prog W 0 (fun _ => true) held 92 v d p) : ∃ l, (Ty.sl U8 l).den W pubs v := by
  obtain ⟨a, len, cap, rfl⟩ := okWide_slice Try.underlying92 hv
  obtain ⟨n, hn⟩ := h
  exact rd_sl1 rdU8 Try.underlying92 (by simpa [Value.cells] using hn)
end
end Go.Proofs.Ytifgbnbkimcchaa
