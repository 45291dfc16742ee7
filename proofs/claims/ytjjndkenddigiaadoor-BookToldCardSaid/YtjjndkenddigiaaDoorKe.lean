/- Lemmas: the program and the reference walked, plain laws. -/
import Derived.Test.YtjjndkenddigiaaDoorKd
namespace Go.Proofs.YtjjndkenddigiaaDoor
open Go Go.T
set_option maxHeartbeats 4000000
theorem c_CheckOk {b : Book} (hb : BookOk b) : Ctr Tryd.prog 16 [bokT b] (Ty.int .i64 0) := by
  have h := c_Check b (rng_of hb)
  rwa [bokY_zero.2 hb] at h
theorem c_PrintIs {b : Book} {w : Byt} (hb : BookOk b) (h : printB b = w) : Ctr Tryd.prog 14 [bokT b] (Ty.tup [Ty.str (bs w), Ty.int .i64 0]) := by
  subst h; exact c_PrintOk hb
theorem tornE_is {b : Book} (hb : BookOk b) (z : Sk) : tornE b.form (tornV z (printB b)) = 0 := by
  have hln := print_len hb
  unfold tornE
  rw [if_neg (fun e => e (frmY_zero.2 hb.form)), if_neg (by rw [tornV_len]; omega), if_neg]
  have := tornV_cnt (s := z) (no_torn fun x hx => (print_txt hb x hx).1)
  omega
theorem c_CountIs {f : BForm} {s : Byt} (h : tornE f s = 0) : Ctr Tryd.prog 19 [frmT f, Ty.str (bs s)] (Ty.tup [Ty.int .i64 ((allF f s).length : Nat), Ty.int .i64 0]) := by
  have h2 := c_Count f s
  rwa [cnt_2 h] at h2
theorem c_FillingsIs {f : BForm} {s : Byt} (h : tornE f s = 0) : Ctr Tryd.prog 20 [frmT f, Ty.str (bs s)] (Ty.tup [Ty.sl StrE (filL f s 2), Ty.int .i64 0]) := by
  have h2 := c_Fillings f s
  rwa [fv_2 h] at h2
theorem filL_n (f : BForm) (s : Byt) : (filL f s 2).length = min 2 (allF f s).length := by unfold filL; rw [List.length_map, List.length_take]
theorem filL_at {f : BForm} {s : Byt} {k : Nat} (h : k < (filL f s 2).length) : k < (allF f s).length ∧ nth (filL f s 2) k = (nth (allF f s) k).1 := by
  rw [filL_n] at h
  refine ⟨by omega, ?_⟩
  unfold filL nth
  rw [List.getD_eq_getElem?_getD, List.getD_eq_getElem?_getD, List.getElem?_map, List.getElem?_take, if_pos (by omega), List.getElem?_eq_getElem (show k < (allF f s).length by omega)]
  rfl
theorem told_k {b : Book} (hb : BookOk b) {s : Byt} {k : Nat} (h : k < (filL b.form s 2).length) : ∃ R, BookOk ⟨b.form, R⟩ ∧ printB ⟨b.form, R⟩ = nth (filL b.form s 2) k ∧ parV b.form (nth (filL b.form s 2) k) = (⟨b.form, R⟩, (((nth (filL b.form s 2) k).length : Nat) : Int), 0) ∧ agrB (nth (filL b.form s 2) k) s = true ∧ (nth (filL b.form s 2) k).length ≤ 30000 := by
  obtain ⟨h1, e⟩ := filL_at h
  obtain ⟨h2, h3, h4⟩ := told_at hb h1
  have h5 := told_par hb h1
  obtain ⟨h6, h7⟩ := agL_nth _ _ h4
  rw [e]
  exact ⟨_, h2, h3.symm, h5, agr_yes h6.symm h7, by rw [h3]; exact print_len h2⟩
theorem told_res {b : Book} (hb : BookOk b) {s : Byt} (hs : agL (printB b) s) (he : tornE b.form s = 0) : ∃ q y, resV b.form s = (q, y) ∧ 1 ≤ (allF b.form s).length ∧ ((allF b.form s).length = 1 → q = b ∧ y = 0 ∧ nth (filL b.form s 2) 0 = printB b) ∧ (2 ≤ (allF b.form s).length → y = 7) := by
  obtain ⟨k, hk, h1, h2⟩ := told_in hb hs
  refine ⟨(resV b.form s).1, (resV b.form s).2, rfl, by omega, fun h => ?_, fun h => ?_⟩
  · obtain rfl : k = 0 := by omega
    have hr : resV b.form s = (b, 0) := by
      unfold resV
      rw [if_neg (fun e => e he), if_neg (by omega), if_pos h]
      unfold resB
      rw [if_neg (by decide)]
      show ((⟨b.form, (nth (allF b.form s) 0).2.read⟩ : Book), (0 : Int)) = (b, 0)
      rw [h2]
    rw [hr]
    refine ⟨rfl, rfl, ?_⟩
    rw [(filL_at (f := b.form) (s := s) (k := 0) (by rw [filL_n]; omega)).2]; exact h1
  · unfold resV
    rw [if_neg (fun e => e he), if_neg (by omega), if_neg (by omega)]
theorem told_two {b : Book} (hb : BookOk b) {s : Byt} (hs : agL (printB b) s) (h : 2 ≤ (allF b.form s).length) : Op.bytesLess (nth (filL b.form s 2) 0) (nth (filL b.form s 2) 1) = true ∧
    (printB b = nth (filL b.form s 2) 0 ∨ printB b = nth (filL b.form s 2) 1 ∨ (Op.bytesLess (printB b) (nth (filL b.form s 2) 1) = false ∧ printB b ≠ nth (filL b.form s 2) 1 ∧ 2 < (((allF b.form s).length : Nat) : Int))) := by
  obtain ⟨k, hk, h1, _⟩ := told_in hb hs
  rw [(filL_at (f := b.form) (s := s) (k := 0) (by rw [filL_n]; omega)).2, (filL_at (f := b.form) (s := s) (k := 1) (by rw [filL_n]; omega)).2]
  refine ⟨asc_at (by decide) (by omega), ?_⟩
  match k, hk, h1 with
  | 0, _, h1 => exact .inl h1.symm
  | 1, _, h1 => exact .inr (.inl h1.symm)
  | k + 2, hk, h1 =>
    have := bl_no (asc_at (f := b.form) (s := s) (i := 1) (k := k + 2) (by omega) hk)
    rw [h1] at this
    exact .inr (.inr ⟨this.1, this.2.symm, by omega⟩)
theorem told_fin {f0 f1 t : Byt} {n y : Int} (h1 : Op.bytesLess f0 f1 = true) (h2 : t = f0 ∨ t = f1 ∨ (Op.bytesLess t f1 = false ∧ t ≠ f1 ∧ 2 < n)) (h3 : y = 7) : (Op.bytesLess f0 f1 && (decide (t = f0) || decide (t = f1) || !(Op.bytesLess t f1 || decide (t = f1)) && decide (2 < n)) && decide (y = 7) && true) = true := by
  subst h3
  rw [h1]
  rcases h2 with rfl | rfl | ⟨a, c, d⟩
  · simp
  · simp
  · simp [a, c, d]
attribute [local irreducible] parV printB mdB mdF resV tornV agrB allF filL tornE Op.bytesLess
attribute [local irreducible] dInt dBool dSl dPp dPtr dAgg dTup dClo dAny dEx dStr dGd dCells dVec dVs dRow dOp nth Tri Into TOps Ctr bodyPost Exit.then Exit.inBlock Code.wp Code.wpIn dPa dArr dMp dMap CtrG keepPost iterPost bodyPostM roundQ
set_option maxRecDepth 100000 in
theorem c_BookTold (g g1 : List Int) : Ctr Tryd.prog 4 [Ty.sl U8 g, Ty.sl U8 g1] (Ty.bool true) := by
  refine fn_intro Tryd.func4 rfl (by decide) Tryd.ntmps4 (by exact Nat.le_of_ble_eq_true rfl) fun w0 M0 => ?_
  refine t_seq ?_
  refine t_region ?_
  refine asB rfl ?_
  refine r_nil ?_
  refine i_then ?_
  refine t_seq ?_
  refine t_region ?_
  refine mvS rfl ?_
  refine r_callG [(24, 10)] [24] [(24, Cont.cells 90 (skTys (skFill g)))] (c_Fill g) rfl rfl (cv_cons cv_nil (cv_pub rfl rfl)) pre_nil (post_cons (a := 24) (b := 10) (by exact List.mem_cons_self) rfl (cc_cells_eq (by exact List.mem_cons_self) rfl rfl rfl) post_nil) (cv_ptr (by exact List.mem_cons_self)) ?_
  refine r_callG (res' := bokT (mdB (skFill g) 8)) [(24, 1000)] [] [] (c_Made (skFill g) (fill_200 g) 8 (by decide)) rfl rfl (cv_cons (cv_cons cv_nil (cv_pub rfl rfl)) (cv_ptr (by exact List.mem_cons_self))) (pre_cons (a := 24) (b := 1000) (by exact List.mem_cons_self) rfl (cc_cells_eq (by exact List.mem_cons_self) rfl rfl rfl) pre_nil) post_nil (cv_pub rfl rfl) ?_
  refine r_alloc rfl (by exact List.cons_ne_nil _ _) rfl ?_
  refine r_storeN rfl rfl (by decide) rfl rfl rfl rfl rfl rfl ?_
  refine r_nil ?_
  refine i_then ?_
  refine t_seq ?_
  have hb : BookOk (mdB (skFill g) 8) := mdB_ok _ (by decide)
  generalize hB : mdB (skFill g) 8 = b at hb ⊢
  have hp := print_pos hb
  have hln := print_len hb
  have hfw := hb.form.n2
  have hl1 := hb.form.l1
  have hfew := hb.few
  have hq1 := fill_200 g1
  have hpar := par_print hb (by omega)
  refine t_region ?_
  refine r_load_ptrN rfl rfl (by decide) rfl rfl (by exact Nat.le_of_ble_eq_true rfl) ?_
  refine r_call (c_PrintOk hb) rfl rfl rfl rfl rfl ?_
  refine mvT rfl ?_
  refine r_extract rfl rfl ?_
  refine r_extract rfl rfl ?_
  refine asS' rfl ?_
  refine asI rfl ?_
  refine r_nil ?_
  refine i_then ?_
  refine t_seq ?_
  refine t_region ?_
  refine r_field_ptr rfl rfl rfl rfl rfl (by decide) ?_
  refine r_load_ptrN rfl rfl (by decide) rfl rfl (by exact Nat.le_of_ble_eq_true rfl) ?_
  refine mvS' rfl ?_
  refine r_call (c_ParseIs (by omega) hpar) rfl rfl rfl rfl rfl ?_
  refine mvT rfl ?_
  refine r_extract rfl rfl ?_
  refine r_extract rfl rfl ?_
  refine r_extract rfl rfl ?_
  refine r_alloc rfl (by exact List.cons_ne_nil _ _) rfl ?_
  refine r_storeN rfl rfl (by decide) rfl rfl rfl rfl rfl rfl ?_
  refine asI rfl ?_
  refine asI rfl ?_
  refine r_nil ?_
  refine i_then ?_
  refine t_seq ?_
  refine t_seq ?_
  refine t_region ?_
  refine r_load_ptrN rfl rfl (by decide) rfl rfl (by exact Nat.le_of_ble_eq_true rfl) ?_
  refine r_call (c_CheckOk hb) rfl rfl rfl rfl rfl ?_
  refine r_bin rfl rfl rfl ?_
  refine mvB rfl ?_
  apply r_guard (s := 42) rfl rfl rfl
  · intro hg; apply opT_of; (refine mvI rfl ?_); refine r_nil ?_; exact rfl
  · exact rfl
  · exact rfl
  apply r_guard (s := 42) rfl rfl rfl
  · intro hg; apply opT_strip (s := 43) rfl (by (rw [hg]; rfl)); apply opT_of; (refine r_bin rfl rfl rfl ?_); refine r_nil ?_; exact rfl
  · exact rfl
  · exact rfl
  refine r_or rfl rfl ?_
  refine mvB rfl ?_
  apply r_guard (s := 46) rfl rfl rfl
  · intro hg; apply opT_of; (refine mvI rfl ?_); refine r_nil ?_; exact rfl
  · exact rfl
  · exact rfl
  apply r_guard (s := 46) rfl rfl rfl
  · intro hg; apply opT_strip (s := 47) rfl (by (rw [hg]; rfl)); apply opT_of; (refine r_bin rfl rfl rfl ?_); refine r_nil ?_; exact rfl
  · exact rfl
  · exact rfl
  refine r_or rfl rfl ?_
  refine mvB rfl ?_
  apply r_guard (s := 50) rfl rfl rfl
  · intro hg; apply opT_of; (refine mvI rfl ?_); refine r_nil ?_; exact rfl
  · exact rfl
  · exact rfl
  apply r_guard (s := 50) rfl rfl rfl
  · intro hg; apply opT_of; (refine mvS' rfl ?_); refine r_nil ?_; exact rfl
  · exact rfl
  · exact rfl
  apply r_guard (s := 50) rfl rfl rfl
  · intro hg; apply opT_strip (s := 52) rfl (by (rw [hg]; rfl)); apply opT_of; (refine r_lenS rfl rfl rfl ?_); refine r_nil ?_; exact rfl
  · exact rfl
  · exact rfl
  apply r_guard (s := 50) rfl rfl rfl
  · intro hg; apply opT_strip (s := 51) rfl (by (rw [hg]; rfl)); apply opT_strip (s := 53) rfl (by (rw [hg]; rfl)); apply opT_of; (refine r_bin rfl rfl rfl ?_); refine r_nil ?_; exact rfl
  · exact rfl
  · exact rfl
  refine r_or rfl rfl ?_
  refine mvB rfl ?_
  apply r_guard (s := 56) rfl rfl rfl
  · intro hg; apply opT_of; (refine r_load_ptrN rfl rfl (by decide) rfl rfl (by exact Nat.le_of_ble_eq_true rfl) ?_); refine r_nil ?_; exact rfl
  · exact rfl
  · exact rfl
  apply r_guard (s := 56) rfl rfl rfl
  · intro hg; apply opT_of; (refine r_load_ptrN rfl rfl (by decide) rfl rfl (by exact Nat.le_of_ble_eq_true rfl) ?_); refine r_nil ?_; exact rfl
  · exact rfl
  · exact rfl
  apply r_guard (s := 56) rfl rfl rfl
  · intro hg; apply opT_strip (s := 57) rfl (by (rw [hg]; rfl)); apply opT_strip (s := 58) rfl (by (rw [hg]; rfl)); apply opT_of; (refine r_call (c_same b b) rfl rfl rfl rfl rfl ?_); refine r_nil ?_; exact rfl
  · exact rfl
  · exact rfl
  apply r_guard (s := 56) rfl rfl rfl
  · intro hg; apply opT_strip (s := 59) rfl (by (rw [hg]; rfl)); apply opT_of; (refine r_not rfl ?_); refine r_nil ?_; exact rfl
  · exact rfl
  · exact rfl
  refine r_or rfl rfl ?_
  refine mvB rfl ?_
  apply r_guard (s := 62) rfl rfl rfl
  · intro hg; apply opT_of; (refine mvS' rfl ?_); refine r_nil ?_; exact rfl
  · exact rfl
  · exact rfl
  apply r_guard (s := 62) rfl rfl rfl
  · intro hg; apply opT_strip (s := 63) rfl (by (rw [hg]; rfl)); apply opT_of; (refine r_lenS rfl rfl rfl ?_); refine r_nil ?_; exact rfl
  · exact rfl
  · exact rfl
  apply r_guard (s := 62) rfl rfl rfl
  · intro hg; apply opT_strip (s := 64) rfl (by (rw [hg]; rfl)); apply opT_of; (refine r_bin rfl rfl rfl ?_); refine r_nil ?_; exact rfl
  · exact rfl
  · exact rfl
  refine r_or rfl rfl ?_
  refine r_nil ?_
  refine i_then ?_
  refine t_cond rfl (fun hc1 => ?_) (fun hc1 => ?_)
  ·
    refine t_seq ?_
    refine t_region ?_
    refine asB rfl ?_
    refine r_nil ?_
    refine i_then ?_
    refine t_ret ?_
    refine i_then_ret ?_
    refine i_rp1 rfl rfl ?_
    all_goals skip
    all_goals (exfalso; rw [decide_eq_false (show ¬ (((printB b).length : Nat) : Int) = 0 by omega)] at hc1; simp at hc1)
  ·
    refine t_skip ?_
    refine i_then ?_
    refine t_seq ?_
    refine t_region ?_
    refine mvS rfl ?_
    refine r_callG [(25, 10)] [25] [(25, Cont.cells 90 (skTys (skFill g1)))] (c_Fill g1) rfl rfl (cv_cons cv_nil (cv_pub rfl rfl)) pre_nil (post_cons (a := 25) (b := 10) (by exact List.mem_cons_self) rfl (cc_cells_eq (by exact List.mem_cons_self) rfl rfl rfl) post_nil) (cv_ptr (by exact List.mem_cons_self)) ?_
    refine mvS' rfl ?_
    refine r_callG (res' := Ty.str (bs (tornV (skFill g1) (printB b)))) [(25, 1000)] [] [(25, Cont.cells 90 (skTys (tnP (skFill g1) (printB b) (tnM (skFill g1))).1))] (c_tornS (skFill g1) (skN_ok (k := 0) hq1 (by decide)) (printB b) (by omega) (by omega)) rfl rfl (cv_cons (cv_cons (cv_cons cv_nil (cv_pub rfl rfl)) (cv_pub rfl rfl)) (cv_ptr (by exact List.mem_cons_self))) (pre_cons (a := 25) (b := 1000) (by exact List.mem_cons_self) rfl (cc_cells_eq (by exact List.mem_cons_self) rfl rfl rfl) pre_nil) (post_cons (a := 25) (b := 1000) (by exact List.mem_cons_self) rfl (cc_cells_eq (by exact List.mem_cons_self) rfl rfl rfl) post_nil) (cv_pub rfl rfl) ?_
    refine asS' rfl ?_
    refine r_nil ?_
    refine i_then ?_
    refine t_seq ?_
    have hsl := tornV_len (skFill g1) (printB b)
    have hs := agL_of (printB b) (tornV (skFill g1) (printB b)) hsl (fun i _ => tornV_agr hp i)
    have he := tornE_is hb (skFill g1)
    generalize hS : tornV (skFill g1) (printB b) = s at hsl hs he ⊢
    obtain ⟨q, y, hq, hn1, hn2, hn3⟩ := told_res hb hs he
    have hfl := filL_n b.form s
    refine t_region ?_
    refine r_field_ptr rfl rfl rfl rfl rfl (by decide) ?_
    refine r_load_ptrN rfl rfl (by decide) rfl rfl (by exact Nat.le_of_ble_eq_true rfl) ?_
    refine mvS' rfl ?_
    refine r_call (c_CountIs he) rfl rfl rfl rfl rfl ?_
    refine mvT rfl ?_
    refine r_extract rfl rfl ?_
    refine r_extract rfl rfl ?_
    refine asI rfl ?_
    refine asI rfl ?_
    refine r_nil ?_
    refine i_then ?_
    refine t_seq ?_
    refine t_region ?_
    refine r_field_ptr rfl rfl rfl rfl rfl (by decide) ?_
    refine r_load_ptrN rfl rfl (by decide) rfl rfl (by exact Nat.le_of_ble_eq_true rfl) ?_
    refine mvS' rfl ?_
    refine r_call (c_FillingsIs he) rfl rfl rfl rfl rfl ?_
    refine mvT rfl ?_
    refine r_extract rfl rfl ?_
    refine r_extract rfl rfl ?_
    refine asS rfl ?_
    refine asI rfl ?_
    refine r_nil ?_
    refine i_then ?_
    refine t_seq ?_
    refine t_region ?_
    refine r_field_ptr rfl rfl rfl rfl rfl (by decide) ?_
    refine r_load_ptrN rfl rfl (by decide) rfl rfl (by exact Nat.le_of_ble_eq_true rfl) ?_
    refine mvS' rfl ?_
    refine r_call (c_RestoreIs hq) rfl rfl rfl rfl rfl ?_
    refine mvT rfl ?_
    refine r_extract rfl rfl ?_
    refine r_extract rfl rfl ?_
    refine r_alloc rfl (by exact List.cons_ne_nil _ _) rfl ?_
    refine r_storeN rfl rfl (by decide) rfl rfl rfl rfl rfl rfl ?_
    refine asI rfl ?_
    refine r_nil ?_
    refine i_then ?_
    refine t_seq ?_
    refine t_seq ?_
    refine t_region ?_
    refine mvI rfl ?_
    refine r_bin rfl rfl rfl ?_
    refine mvB rfl ?_
    apply r_guard (s := 94) rfl rfl rfl
    · intro hg; apply opT_of; (refine mvI rfl ?_); refine r_nil ?_; exact rfl
    · exact rfl
    · exact rfl
    apply r_guard (s := 94) rfl rfl rfl
    · intro hg; apply opT_strip (s := 95) rfl (by (rw [hg]; rfl)); apply opT_of; (refine r_bin rfl rfl rfl ?_); refine r_nil ?_; exact rfl
    · exact rfl
    · exact rfl
    refine r_or rfl rfl ?_
    refine mvB rfl ?_
    apply r_guard (s := 98) rfl rfl rfl
    · intro hg; apply opT_of; (refine mvI rfl ?_); refine r_nil ?_; exact rfl
    · exact rfl
    · exact rfl
    apply r_guard (s := 98) rfl rfl rfl
    · intro hg; apply opT_strip (s := 99) rfl (by (rw [hg]; rfl)); apply opT_of; (refine r_bin rfl rfl rfl ?_); refine r_nil ?_; exact rfl
    · exact rfl
    · exact rfl
    refine r_or rfl rfl ?_
    refine mvB rfl ?_
    apply r_guard (s := 102) rfl rfl rfl
    · intro hg; apply opT_of; (refine mvS rfl ?_); refine r_nil ?_; exact rfl
    · exact rfl
    · exact rfl
    apply r_guard (s := 102) rfl rfl rfl
    · intro hg; apply opT_strip (s := 103) rfl (by (rw [hg]; rfl)); apply opT_of; (refine r_len rfl rfl rfl ?_); refine r_nil ?_; exact rfl
    · exact rfl
    · exact rfl
    apply r_guard (s := 102) rfl rfl rfl
    · intro hg; apply opT_of; (refine mvI rfl ?_); refine r_nil ?_; exact rfl
    · exact rfl
    · exact rfl
    apply r_guard (s := 102) rfl rfl rfl
    · intro hg; apply opT_strip (s := 105) rfl (by (rw [hg]; rfl)); apply opT_of; (refine r_min rfl rfl ?_); refine r_nil ?_; exact rfl
    · exact rfl
    · exact rfl
    apply r_guard (s := 102) rfl rfl rfl
    · intro hg; apply opT_strip (s := 104) rfl (by (rw [hg]; rfl)); apply opT_strip (s := 106) rfl (by (rw [hg]; rfl)); apply opT_of; (refine r_bin rfl rfl rfl ?_); refine r_nil ?_; exact rfl
    · exact rfl
    · exact rfl
    refine r_or rfl rfl ?_
    refine r_nil ?_
    refine i_then ?_
    refine t_cond rfl (fun hc2 => ?_) (fun hc2 => ?_)
    ·
      refine t_seq ?_
      refine t_region ?_
      refine asB rfl ?_
      refine r_nil ?_
      refine i_then ?_
      refine t_ret ?_
      refine i_then_ret ?_
      refine i_rp1 rfl rfl ?_
      all_goals skip
      all_goals (exfalso; rw [decide_eq_false (show ¬ (((allF b.form s).length : Nat) : Int) < 1 by omega), decide_eq_true (show (((filL b.form s 2).length : Nat) : Int) = min 2 (((allF b.form s).length : Nat) : Int) by omega)] at hc2; simp at hc2)
    ·
      refine t_skip ?_
      refine i_then ?_
      refine t_seq ?_
      refine t_seq ?_
      refine t_region ?_
      refine mvS rfl ?_
      refine r_len rfl rfl rfl ?_
      refine mvI rfl ?_
      refine r_nil ?_
      refine i_then ?_
      refine t_block ?_
      refine t_loop (fun (k : {k : Nat // k ≤ (filL b.form s 2).length}) => live [(5, Ty.ptr 6 0), (6, Ty.str (bs (printB b))), (11, Ty.str (bs s)), (12, Ty.int .i64 ((allF b.form s).length : Nat)), (13, Ty.sl StrE (filL b.form s 2)), (14, Ty.ptr 15 0), (15, Ty.int .i64 y), (109, Ty.sl StrE (filL b.form s 2)), (110, Ty.int .i64 (filL b.form s 2).length), (111, Ty.int .i64 (k.1 : Nat))] [(6, Cont.cells 30 (bokTys b)), (15, Cont.cells 30 (bokTys q))]) (fun k => (filL b.form s 2).length - k.1) (⟨0, Nat.zero_le _⟩) ?_ fun k => ?_
      · (refine Ent.mk' ?_ ?_ <;> (repeat' (first | exact allSub_zero | exact allTags_nil | refine allSub_succ' ?_ (Ty.sub_any _) | refine allSub_succ' ?_ (Ty.sub_refl _) | refine allTags_cons rfl (Cont.sub_refl _) ?_)))
      ·
        refine t_seq ?_
        refine t_region ?_
        refine r_bin rfl rfl rfl ?_
        refine r_nil ?_
        refine i_then ?_
        refine t_seq ?_
        refine t_cond_dec rfl (fun hc3 => ?_) (fun hc3 => ?_)
        ·
          refine t_skip ?_
          refine i_then ?_
          refine t_seq ?_
          refine t_block ?_
          refine t_seq ?_
          refine t_region ?_
          refine r_index_slN rfl rfl rfl rfl rfl rfl (by omega) ?_
          refine r_load_pp rfl rfl rfl rfl ?_
          refine asS' rfl ?_
          refine r_nil ?_
          refine i_then ?_
          refine t_seq ?_
          obtain ⟨R, hR1, hR2, hR3, hR4, hR5⟩ := told_k hb (s := s) (k := k.1) (by omega)
          refine t_region ?_
          refine r_field_ptr rfl rfl rfl rfl rfl (by decide) ?_
          refine r_load_ptrN rfl rfl (by decide) rfl rfl (by exact Nat.le_of_ble_eq_true rfl) ?_
          refine mvS' rfl ?_
          refine r_call (c_ParseIs (by omega) hR3) rfl rfl rfl rfl rfl ?_
          refine mvT rfl ?_
          refine r_extract rfl rfl ?_
          refine r_extract rfl rfl ?_
          refine r_extract rfl rfl ?_
          refine r_alloc rfl (by exact List.cons_ne_nil _ _) rfl ?_
          refine r_storeN rfl rfl (by decide) rfl rfl rfl rfl rfl rfl ?_
          refine asI rfl ?_
          refine asI rfl ?_
          refine r_nil ?_
          refine i_then ?_
          refine t_seq ?_
          refine t_region ?_
          refine r_load_ptrN rfl rfl (by decide) rfl rfl (by exact Nat.le_of_ble_eq_true rfl) ?_
          refine r_call (c_PrintIs hR1 hR2) rfl rfl rfl rfl rfl ?_
          refine mvT rfl ?_
          refine r_extract rfl rfl ?_
          refine r_extract rfl rfl ?_
          refine asS' rfl ?_
          refine asI rfl ?_
          refine r_nil ?_
          refine i_then ?_
          refine t_seq ?_
          refine t_region ?_
          refine mvI rfl ?_
          refine r_bin rfl rfl rfl ?_
          refine mvB rfl ?_
          apply r_guard (s := 130) rfl rfl rfl
          · intro hg; apply opT_of; (refine mvI rfl ?_); refine r_nil ?_; exact rfl
          · exact rfl
          · exact rfl
          apply r_guard (s := 130) rfl rfl rfl
          · intro hg; apply opT_strip (s := 131) rfl (by (rw [hg]; rfl)); apply opT_of; (refine r_bin rfl rfl rfl ?_); refine r_nil ?_; exact rfl
          · exact rfl
          · exact rfl
          refine r_or rfl rfl ?_
          refine mvB rfl ?_
          apply r_guard (s := 134) rfl rfl rfl
          · intro hg; apply opT_of; (refine mvI rfl ?_); refine r_nil ?_; exact rfl
          · exact rfl
          · exact rfl
          apply r_guard (s := 134) rfl rfl rfl
          · intro hg; apply opT_of; (refine mvS' rfl ?_); refine r_nil ?_; exact rfl
          · exact rfl
          · exact rfl
          apply r_guard (s := 134) rfl rfl rfl
          · intro hg; apply opT_strip (s := 136) rfl (by (rw [hg]; rfl)); apply opT_of; (refine r_lenS rfl rfl rfl ?_); refine r_nil ?_; exact rfl
          · exact rfl
          · exact rfl
          apply r_guard (s := 134) rfl rfl rfl
          · intro hg; apply opT_strip (s := 135) rfl (by (rw [hg]; rfl)); apply opT_strip (s := 137) rfl (by (rw [hg]; rfl)); apply opT_of; (refine r_bin rfl rfl rfl ?_); refine r_nil ?_; exact rfl
          · exact rfl
          · exact rfl
          refine r_or rfl rfl ?_
          refine mvB rfl ?_
          apply r_guard (s := 140) rfl rfl rfl
          · intro hg; apply opT_of; (refine mvS' rfl ?_); refine r_nil ?_; exact rfl
          · exact rfl
          · exact rfl
          apply r_guard (s := 140) rfl rfl rfl
          · intro hg; apply opT_of; (refine mvS' rfl ?_); refine r_nil ?_; exact rfl
          · exact rfl
          · exact rfl
          apply r_guard (s := 140) rfl rfl rfl
          · intro hg; apply opT_strip (s := 141) rfl (by (rw [hg]; rfl)); apply opT_strip (s := 142) rfl (by (rw [hg]; rfl)); apply opT_of; (refine r_neqS rfl rfl ?_); refine r_nil ?_; exact rfl
          · exact rfl
          · exact rfl
          refine r_or rfl rfl ?_
          refine mvB rfl ?_
          apply r_guard (s := 145) rfl rfl rfl
          · intro hg; apply opT_of; (refine mvS' rfl ?_); refine r_nil ?_; exact rfl
          · exact rfl
          · exact rfl
          apply r_guard (s := 145) rfl rfl rfl
          · intro hg; apply opT_of; (refine mvS' rfl ?_); refine r_nil ?_; exact rfl
          · exact rfl
          · exact rfl
          apply r_guard (s := 145) rfl rfl rfl
          · intro hg; apply opT_strip (s := 146) rfl (by (rw [hg]; rfl)); apply opT_strip (s := 147) rfl (by (rw [hg]; rfl)); apply opT_of; (refine r_call (c_agreesIs (by omega) hR4) rfl rfl rfl rfl rfl ?_); refine r_nil ?_; exact rfl
          · exact rfl
          · exact rfl
          apply r_guard (s := 145) rfl rfl rfl
          · intro hg; apply opT_strip (s := 148) rfl (by (rw [hg]; rfl)); apply opT_of; (refine r_not rfl ?_); refine r_nil ?_; exact rfl
          · exact rfl
          · exact rfl
          refine r_or rfl rfl ?_
          refine r_nil ?_
          refine i_then ?_
          refine t_cond rfl (fun hc4 => ?_) (fun hc4 => ?_)
          ·
            refine t_seq ?_
            refine t_region ?_
            refine asB rfl ?_
            refine r_nil ?_
            refine i_then ?_
            refine t_ret ?_
            refine i_block_ret ?_
            refine i_then_ret ?_
            refine i_then_ret ?_
            refine i_block_ret ?_
            refine i_then_ret ?_
            refine i_rp1 rfl rfl ?_
            all_goals skip
            all_goals (exfalso; simp at hc4)
          ·
            refine t_skip ?_
            refine i_block ?_
            refine i_then ?_
            refine t_region ?_
            refine r_add rfl rfl (by omega) (by omega) ?_
            refine mvI rfl ?_
            refine r_nil ?_
            refine i_round (⟨k.1 + 1, by omega⟩) ?_ (by show (filL b.form s 2).length - (k.1 + 1) < (filL b.form s 2).length - k.1; omega)
            (refine Ent.mk' ?_ ?_ <;> (repeat' (first | exact allSub_zero | exact allTags_nil | refine allSub_succ' ?_ (Ty.sub_any _) | refine allSub_succ' ?_ (Ty.sub_refl _) | refine allTags_cons rfl (Cont.sub_refl _) ?_)))
            all_goals skip
        ·
          refine t_exit ?_
          refine i_then_exit ?_
          refine i_then_exit ?_
          refine i_block_exit rfl ?_
          refine i_then ?_
          refine t_seq ?_
          refine t_seq ?_
          refine t_region ?_
          refine mvI rfl ?_
          refine r_bin rfl rfl rfl ?_
          refine r_nil ?_
          refine i_then ?_
          refine t_cond_dec rfl (fun hc5 => ?_) (fun hc5 => ?_)
          ·
            refine t_seq ?_
            refine t_region ?_
            refine mvS rfl ?_
            refine r_index_slN rfl rfl rfl rfl rfl rfl (by (dsimp only; omega)) ?_
            refine r_load_pp rfl rfl rfl rfl ?_
            refine mvS' rfl ?_
            refine r_eqlS rfl rfl ?_
            refine mvB rfl ?_
            apply r_guard (s := 159) rfl rfl rfl
            · intro hg; apply opT_of; (refine mvI rfl ?_); refine r_nil ?_; exact rfl
            · exact rfl
            · exact rfl
            apply r_guard (s := 159) rfl rfl rfl
            · intro hg; apply opT_strip (s := 160) rfl (by (rw [hg]; rfl)); apply opT_of; (refine r_bin rfl rfl rfl ?_); refine r_nil ?_; exact rfl
            · exact rfl
            · exact rfl
            refine r_and rfl rfl ?_
            refine mvB rfl ?_
            apply r_guard (s := 163) rfl rfl rfl
            · intro hg; apply opT_of; (refine r_load_ptrN rfl rfl (by decide) rfl rfl (by exact Nat.le_of_ble_eq_true rfl) ?_); refine r_nil ?_; exact rfl
            · exact rfl
            · exact rfl
            apply r_guard (s := 163) rfl rfl rfl
            · intro hg; apply opT_of; (refine r_load_ptrN rfl rfl (by decide) rfl rfl (by exact Nat.le_of_ble_eq_true rfl) ?_); refine r_nil ?_; exact rfl
            · exact rfl
            · exact rfl
            apply r_guard (s := 163) rfl rfl rfl
            · intro hg; apply opT_strip (s := 164) rfl (by (rw [hg]; rfl)); apply opT_strip (s := 165) rfl (by (rw [hg]; rfl)); apply opT_of; (refine r_call (c_same q b) rfl rfl rfl rfl rfl ?_); refine r_nil ?_; exact rfl
            · exact rfl
            · exact rfl
            refine r_and rfl rfl ?_
            refine mvB rfl ?_
            apply r_guard (s := 168) rfl rfl rfl
            · intro hg; apply opT_of; (refine r_call c_awake rfl rfl rfl rfl rfl ?_); refine r_nil ?_; exact rfl
            · exact rfl
            · exact rfl
            refine r_and rfl rfl ?_
            refine asB rfl ?_
            refine r_nil ?_
            refine i_then ?_
            refine t_ret ?_
            refine i_then_ret ?_
            refine i_rp1 rfl rfl ?_
            all_goals skip
            all_goals (obtain ⟨e1, e2, e3⟩ := hn2 (by omega); exact ret_eq rfl rfl (congrArg Ty.bool (by rw [e1, e2, e3]; simp)))
          ·
            refine t_skip ?_
            refine i_then ?_
            refine t_seq ?_
            refine t_draw mixed rfl ?_
            refine mvS rfl ?_
            refine r_index_slN rfl rfl rfl rfl rfl rfl (by (dsimp only; omega)) ?_
            refine r_load_pp rfl rfl rfl rfl ?_
            refine mvS rfl ?_
            refine r_index_slN rfl rfl rfl rfl rfl rfl (by (dsimp only; omega)) ?_
            refine r_load_pp rfl rfl rfl rfl ?_
            refine r_lssS rfl rfl ?_
            refine mvB rfl ?_
            apply r_guard (s := 178) rfl rfl rfl
            · intro hg; apply opT_of; (refine mvS' rfl ?_); refine r_nil ?_; exact rfl
            · exact rfl
            · exact rfl
            apply r_guard (s := 178) rfl rfl rfl
            · intro hg; apply opT_of; (refine mvS rfl ?_); refine r_nil ?_; exact rfl
            · exact rfl
            · exact rfl
            apply r_guard (s := 178) rfl rfl rfl
            · intro hg; apply opT_strip (s := 180) rfl (by (rw [hg]; rfl)); apply opT_of; (refine r_index_slN rfl rfl rfl rfl rfl rfl (by (dsimp only; omega)) ?_); refine r_nil ?_; exact rfl
            · exact rfl
            · exact rfl
            apply r_guard (s := 178) rfl rfl rfl
            · intro hg; apply opT_strip (s := 181) rfl (by (rw [hg]; rfl)); apply opT_of; (refine r_load_pp rfl rfl rfl rfl ?_); refine r_nil ?_; exact rfl
            · exact rfl
            · exact rfl
            apply r_guard (s := 178) rfl rfl rfl
            · intro hg; apply opT_strip (s := 179) rfl (by (rw [hg]; rfl)); apply opT_strip (s := 182) rfl (by (rw [hg]; rfl)); apply opT_of; (refine r_eqlS rfl rfl ?_); refine r_nil ?_; exact rfl
            · exact rfl
            · exact rfl
            apply r_guard (s := 178) rfl rfl rfl
            · intro hg; apply opT_strip (s := 183) rfl (by (rw [hg]; rfl)); apply opT_of; (refine mvB rfl ?_); refine r_nil ?_; exact rfl
            · exact rfl
            · exact rfl
            apply r_guardG (s := 184) rfl rfl rfl
            · intro hg1 hg2; apply opT_of; (refine mvS' rfl ?_); refine r_nil ?_; exact rfl
            · exact rfl
            · exact rfl
            apply r_guardG (s := 184) rfl rfl rfl
            · intro hg1 hg2; apply opT_of; (refine mvS rfl ?_); refine r_nil ?_; exact rfl
            · exact rfl
            · exact rfl
            apply r_guardG (s := 184) rfl rfl rfl
            · intro hg1 hg2; apply opT_strip (s := 186) rfl (by (rw [hg1, hg2]; rfl)); apply opT_of; (refine r_index_slN rfl rfl rfl rfl rfl rfl (by (dsimp only; omega)) ?_); refine r_nil ?_; exact rfl
            · exact rfl
            · exact rfl
            apply r_guardG (s := 184) rfl rfl rfl
            · intro hg1 hg2; apply opT_strip (s := 187) rfl (by (rw [hg1, hg2]; rfl)); apply opT_of; (refine r_load_pp rfl rfl rfl rfl ?_); refine r_nil ?_; exact rfl
            · exact rfl
            · exact rfl
            apply r_guardG (s := 184) rfl rfl rfl
            · intro hg1 hg2; apply opT_strip (s := 185) rfl (by (rw [hg1, hg2]; rfl)); apply opT_strip (s := 188) rfl (by (rw [hg1, hg2]; rfl)); apply opT_of; (refine r_eqlS rfl rfl ?_); refine r_nil ?_; exact rfl
            · exact rfl
            · exact rfl
            apply r_guard (s := 178) rfl rfl rfl
            · intro hg; apply opT_strip (s := 184) rfl (by (rw [hg]; rfl)); apply opT_stripG (s := 189) rfl (by (rw [hg]; rfl)); apply opT_of; (refine r_or rfl rfl ?_); refine r_nil ?_; exact rfl
            · exact rfl
            · exact rfl
            apply r_guard (s := 178) rfl rfl rfl
            · intro hg; apply opT_strip (s := 190) rfl (by (rw [hg]; rfl)); apply opT_of; (refine mvB rfl ?_); refine r_nil ?_; exact rfl
            · exact rfl
            · exact rfl
            apply r_guardG (s := 191) rfl rfl rfl
            · intro hg1 hg2; apply opT_of; (refine mvS' rfl ?_); refine r_nil ?_; exact rfl
            · exact rfl
            · exact rfl
            apply r_guardG (s := 191) rfl rfl rfl
            · intro hg1 hg2; apply opT_of; (refine mvS rfl ?_); refine r_nil ?_; exact rfl
            · exact rfl
            · exact rfl
            apply r_guardG (s := 191) rfl rfl rfl
            · intro hg1 hg2; apply opT_strip (s := 193) rfl (by (rw [hg1, hg2]; rfl)); apply opT_of; (refine r_index_slN rfl rfl rfl rfl rfl rfl (by (dsimp only; omega)) ?_); refine r_nil ?_; exact rfl
            · exact rfl
            · exact rfl
            apply r_guardG (s := 191) rfl rfl rfl
            · intro hg1 hg2; apply opT_strip (s := 194) rfl (by (rw [hg1, hg2]; rfl)); apply opT_of; (refine r_load_pp rfl rfl rfl rfl ?_); refine r_nil ?_; exact rfl
            · exact rfl
            · exact rfl
            apply r_guardG (s := 191) rfl rfl rfl
            · intro hg1 hg2; apply opT_strip (s := 192) rfl (by (rw [hg1, hg2]; rfl)); apply opT_strip (s := 195) rfl (by (rw [hg1, hg2]; rfl)); apply opT_of; (refine r_gtrS rfl rfl ?_); refine r_nil ?_; exact rfl
            · exact rfl
            · exact rfl
            apply r_guardG (s := 191) rfl rfl rfl
            · intro hg1 hg2; apply opT_strip (s := 196) rfl (by (rw [hg1, hg2]; rfl)); apply opT_of; (refine mvB rfl ?_); refine r_nil ?_; exact rfl
            · exact rfl
            · exact rfl
            apply r_guardG (s := 197) rfl rfl rfl
            · intro hg1 hg2; apply opT_of; (refine mvI rfl ?_); refine r_nil ?_; exact rfl
            · exact rfl
            · exact rfl
            apply r_guardG (s := 197) rfl rfl rfl
            · intro hg1 hg2; apply opT_strip (s := 198) rfl (by (rw [hg1, hg2]; rfl)); apply opT_of; (refine r_bin rfl rfl rfl ?_); refine r_nil ?_; exact rfl
            · exact rfl
            · exact rfl
            apply r_guardG (s := 191) rfl rfl rfl
            · intro hg1 hg2; apply opT_strip (s := 197) rfl (by (rw [hg1, hg2]; rfl)); apply opT_stripG (s := 199) rfl (by (rw [hg1, hg2]; rfl)); apply opT_of; (refine r_and rfl rfl ?_); refine r_nil ?_; exact rfl
            · exact rfl
            · exact rfl
            apply r_guard (s := 178) rfl rfl rfl
            · intro hg; apply opT_strip (s := 191) rfl (by (rw [hg]; rfl)); apply opT_stripG (s := 200) rfl (by (rw [hg]; rfl)); apply opT_of; (refine r_or rfl rfl ?_); refine r_nil ?_; exact rfl
            · exact rfl
            · exact rfl
            refine r_and rfl rfl ?_
            refine mvB rfl ?_
            apply r_guard (s := 203) rfl rfl rfl
            · intro hg; apply opT_of; (refine mvI rfl ?_); refine r_nil ?_; exact rfl
            · exact rfl
            · exact rfl
            apply r_guard (s := 203) rfl rfl rfl
            · intro hg; apply opT_strip (s := 204) rfl (by (rw [hg]; rfl)); apply opT_of; (refine r_bin rfl rfl rfl ?_); refine r_nil ?_; exact rfl
            · exact rfl
            · exact rfl
            refine r_and rfl rfl ?_
            refine mvB rfl ?_
            apply r_guard (s := 207) rfl rfl rfl
            · intro hg; apply opT_of; (refine r_call c_awake rfl rfl rfl rfl rfl ?_); refine r_nil ?_; exact rfl
            · exact rfl
            · exact rfl
            refine r_and rfl rfl ?_
            refine asB rfl ?_
            refine r_nil ?_
            refine ⟨by kernel_rfl, ?_⟩
            refine i_then ?_
            refine t_ret ?_
            refine i_rp1 rfl rfl ?_
            all_goals skip
            all_goals (obtain ⟨e1, e2⟩ := told_two hb hs (by omega); have e3 := hn3 (by omega); exact ret_eq rfl rfl (congrArg Ty.bool (told_fin e1 e2 e3)))
end Go.Proofs.YtjjndkenddigiaaDoor

namespace Go.T
open Go Go.RowKit Go.ChangeShapes Go.WideShapes Go.ChangeAt
def pubs : Tags := fun _ => none
theorem wf_pubs (w : World) (h : Amb w pubs) : Wf w pubs := ⟨fun _ _ h => (by cases h), fun _ _ _ _ h => (by cases h), h⟩
theorem pubs_zero : ∀ b t, pubs b = some t → t = 0 := fun _ _ h => by cases h
structure Rd {α : Type} (P : Program) (e : TypeId) (E : El α) : Prop where
  size : P.cellsOf e = E.size
  pos : 0 < E.size
  rd : ∀ {H : Type} {enc : TypeId × Value → H} {w : World} {base : Nat} {held : Bool} {n : Nat} {cs : List Value} {y : DataW H × List MemPlace}, DataW.trod enc P w base (fun _ => true) held n e cs = some y → ∃ x, dens w pubs (E.tys x) cs
section
variable {H : Type} {enc : TypeId × Value → H} {P : Program} {w : World} {base : Nat} {held : Bool} {α : Type} {E : El α} {t e : TypeId} {n : Nat} {cs : List Value} {y : DataW H × List MemPlace}
theorem rd_sl (hR : Rd P e E) (ht : P.underlying t = some (.slice e)) (h : DataW.trod enc P w base (fun _ => true) held n t cs = some y) : ∃ v xs, cs = [v] ∧ (Ty.sl E xs).den w pubs v := by
  rcases Go.Deep.open_slice ht h with ⟨rfl, _⟩ | ⟨a, len, cap, m, k, D, Pl, rfl, _, hl, hm, hmm, _, hel⟩
  · exact ⟨_, [], rfl, none, 0, rfl, Nat.le_refl _, Nat.zero_le _, fun h => absurd h (Nat.lt_irrefl _)⟩
  have hlm : len ≤ m := by rw [hmm]; simpa using hl
  have hX : ∀ i : Fin len, ∃ x : α, ∃ cs', w.cells? base (a.add (i.1 * P.cellsOf e)) (P.cellsOf e) = some cs' ∧ dens w pubs (E.tys x) cs' := fun i => by
    obtain ⟨cs', h1, h2⟩ := hel i.1 (Nat.lt_of_lt_of_le i.2 hlm)
    obtain ⟨x, hx⟩ := hR.rd h2
    exact ⟨x, cs', h1, hx⟩
  let X : Fin len → α := fun i => (hX i).choose
  have hXs : ∀ i : Fin len, ∃ cs', w.cells? base (a.add (i.1 * P.cellsOf e)) (P.cellsOf e) = some cs' ∧ dens w pubs (E.tys (X i)) cs' := fun i => (hX i).choose_spec
  have hlen : (List.ofFn X).length = len := by simp
  refine ⟨_, List.ofFn X, rfl, some a, cap, by rw [hlen], by rw [hlen]; exact hl, hm, fun h0 => ?_⟩
  rw [hlen] at h0
  have hcell : ∀ (i : Fin len) (j : Nat) (u : Ty), (E.tys (X i))[j]? = some u → ∃ v, w.cell? (a.add (i.1 * E.size + j)) = some v ∧ u.den w pubs v := fun i j u hu => by
    obtain ⟨cs', h1, h2⟩ := hXs i
    obtain ⟨v, hv, hd⟩ := dens_get h2 j u hu
    obtain ⟨_, g1, g2⟩ := World.cells?_some h1
    have hj : j < P.cellsOf e := by
      rw [hR.size, ← E.len (X i)]
      exact (List.getElem?_eq_some_iff.1 hu).1
    refine ⟨v, ?_, hd⟩
    have := g2 j hj
    rw [Go.Deep.add_add, hv, hR.size] at this
    exact this
  have hsz := hR.pos
  have hfirst : ∃ v, w.cell? (a.add 0) = some v := by
    obtain ⟨u, hu⟩ : ∃ u, (E.tys (X ⟨0, h0⟩))[0]? = some u := ⟨_, List.getElem?_eq_getElem (by rw [E.len]; exact hsz)⟩
    obtain ⟨v, hv, _⟩ := hcell ⟨0, h0⟩ 0 u hu
    exact ⟨v, by simpa using hv⟩
  obtain ⟨b, off, sp⟩ := a
  obtain ⟨v0, hv0⟩ := hfirst
  have hsp : sp = none := by simpa [Addr.add] using World.cell?_spot hv0
  subst hsp
  have hb : b < w.heap.size := by
    obtain ⟨cs', h1, _⟩ := hXs ⟨0, h0⟩
    have := World.cells?_block h1 (by rw [hR.size]; exact hsz)
    simpa [Addr.add] using this
  refine ⟨b, off, rfl, rfl, hb, fun i u hu => ?_⟩
  have hi : i < len * E.size := by
    have := (List.getElem?_eq_some_iff.1 hu).1
    rw [flat_len, hlen] at this; exact this
  have hk : i / E.size < len := Nat.div_lt_of_lt_mul (by rw [Nat.mul_comm]; exact hi)
  have hj : i % E.size < E.size := Nat.mod_lt _ hsz
  have hij : i / E.size * E.size + i % E.size = i := by rw [Nat.mul_comm]; exact Nat.div_add_mod i E.size
  have hu2 := hu
  rw [← hij, flat_get E _ _ _ (by rw [hlen]; exact hk) hj, List.getElem?_ofFn, dif_pos hk] at hu2
  obtain ⟨v, hv, hd⟩ := hcell ⟨i / E.size, hk⟩ (i % E.size) u hu2
  refine ⟨v, ?_, hd⟩
  rw [← Go.WideShapes.add_plain]
  rw [hij] at hv
  exact hv
theorem rd_sl1 {c : Value} (hR : Rd P e E) (ht : P.underlying t = some (.slice e)) (h : DataW.trod enc P w base (fun _ => true) held n t [c] = some y) : ∃ xs, (Ty.sl E xs).den w pubs c := by
  obtain ⟨v, xs, e, hd⟩ := rd_sl hR ht h
  exact ⟨xs, by rw [show c = v by simpa using e]; exact hd⟩
end
section
variable {w w' : World} {S K : Nat → Prop} {M' : Tags}
theorem le_block (le : Le S K w pubs w' M') {b : Nat} (hb : b < w.heap.size) : w'.heap[b]? = w.heap[b]? := (le.pub b hb rfl).2
theorem le_same (le : Le S K w pubs w' M') {p : MemPlace} (hp : p.block < w.heap.size) : w.sameAt w' p := by
  cases p with
  | cell b o => exact World.cell?_of_block (w := w) (le_block le hp)
  | map b => exact le_block le hp
theorem le_kept (le : Le S K w pubs w' M') (may : MemPlace → Prop) : w.keptBut w' may := by
  refine ⟨le.os, le.out, fun i hi => ?_⟩
  have e := le_block le hi
  rw [e]
  split
  · rename_i h1 h2
    rw [h1] at h2
    simp only [Option.some.injEq, Obj.cells.injEq] at h2
    obtain ⟨rfl, rfl, rfl⟩ := h2
    exact ⟨rfl, rfl, rfl, fun _ _ => rfl⟩
  · rename_i h1 h2
    rw [h1] at h2
    simp only [Option.some.injEq, Obj.map.injEq] at h2
    exact Or.inr ⟨h2.1.symm, h2.2.symm⟩
  · rfl
theorem le_frozen (le : Le S K w pubs w' M') {a : Addr} (ha : a.block < w.heap.size) : w'.frozen? a = w.frozen? a := by
  unfold World.frozen?
  rw [le_block le ha]
end
section
variable {H : Type} {enc : TypeId × Value → H} {P : Program}
theorem trodAll_stays (hl : laidOutB P = true) {w w' : World} {sp : Nat → Bool} : ∀ {ts : List TypeId} {vs : List Value} {ds : List (DataW H)} {ps : List MemPlace}, (∀ t ∈ ts, P.readableRec t = true ∧ t < P.types.size) →
    DataW.TrodAll enc P w 0 (fun _ => true) true ts vs ds ps → (∀ p ∈ ps, w.sameAt w' p) → (∀ p ∈ ps, sp p.block = true) → DataW.TrodAll enc P w' 0 sp true ts vs ds ps
  | [], [], [], _, _, h, _, _ => h
  | t :: ts, v :: vs, d :: ds, _, ht, ⟨p, q, h1, h2, e⟩, hs, hsp => by
    subst e
    have h0 := ht t List.mem_cons_self
    exact ⟨p, q, Go.WideElems.Trod_stays hl h0.1 h0.2 h1 (fun x hx => hs x (List.mem_append_left _ hx)) (fun x hx => hsp x (List.mem_append_left _ hx)),
      trodAll_stays hl (fun t h => ht t (List.mem_cons_of_mem _ h)) h2 (fun x hx => hs x (List.mem_append_right _ hx)) (fun x hx => hsp x (List.mem_append_right _ hx)), rfl⟩
theorem post_true {f : Func} {s : ChangeSpec} {apart fresh handsOn again : Bool} {W W' : World} {args : Array Value} {ds : List (DataW H)} {before : List MemPlace} {S K : Nat → Prop} {M' : Tags}
    (hl : laidOutB P = true) (hv : s.vars = []) (hrd : ∀ t ∈ f.params.toList, P.readableRec t = true ∧ t < P.types.size) {tb : TypeId} (htb : P.underlying tb = some .bool) (hrt : f.resultTypes = #[tb])
    (hW : DataW.Whole enc P f.params.toList s.vars apart W args.toList ds [] before) (hres : (s.fn H (ds ++ [])).results = [.lit (.bool true)]) (hargs : (s.fn H (ds ++ [])).args = ds) (hvars : (s.fn H (ds ++ [])).vars = [])
    (le : Le S K W pubs W' M') : s.post enc P f apart fresh handsOn again W args (.bool true) W' := by
  have hW0 := hW
  obtain ⟨p, q, hA, hV, hb, hfz, hn⟩ := hW0
  have hlt := DataW.TrodAll.lt hA
  have hq : q = [] := by rw [hv] at hV; exact (trodVars_none hV).2
  subst hq
  have hbp : before = p := by rw [hb]; simp
  have hre : ∀ (b : Nat) (sp : Nat → Bool) (hd : Bool), DataW.TrodAll enc P W' b sp hd f.resultTypes.toList ((Value.bool true).resultList f.resultTypes.size) (s.fn H (ds ++ [])).results [] := fun b sp hd => by
    rw [hrt, hres]; exact trodAll_mk1 (shut_bool htb true)
  have har : ∀ sp : Nat → Bool, (∀ x ∈ p, sp x.block = true) → DataW.TrodAll enc P W' 0 sp true f.params.toList args.toList (s.fn H (ds ++ [])).args p := fun sp hsp => by
    rw [hargs]; exact trodAll_stays hl hrd hA (fun x hx => le_same le (hlt x hx)) hsp
  have hva : ∀ sp : Nat → Bool, DataW.TrodVars enc P W' sp s.vars (s.fn H (ds ++ [])).vars [] := fun sp => by
    rw [hvars, hv]; exact rfl
  have hok : ∀ (j : Nat) (t : TypeId) (r : Value), f.resultTypes[j]? = some t → ((Value.bool true).resultList f.resultTypes.size)[j]? = some r → Value.okWide P W' .any 0 t r := by
    exact ok_one (by rw [hrt]) rfl (okWide_bool_mk htb true)
  refine ⟨ds, [], before, [], p, [], hW, hre _ _ _, har _ (fun x hx => by simpa using hlt x hx), hva _, World.keptBut_mono (fun x hx => hx) (le_kept le _), fun _ => ?_⟩
  refine ⟨hok, _, _, ([] ++ p) ++ [], ⟨[] ++ p, [], trodAll_append (har _ (fun _ _ => rfl)) (hre _ _ _), hva _, rfl, ?_, ?_⟩, ?_⟩
  · intro b off hp
    have hp' : MemPlace.cell b off ∈ p := by simpa using hp
    rw [le_frozen le (hlt _ hp')]
    exact hfz b off (by rw [hbp]; exact hp')
  · intro ha
    have := hn ha
    rw [hbp] at this
    simpa using this
  · intro x hx _
    rw [hbp]
    simpa using hx
end
end Go.T

namespace Go.Proofs.YtjjndkenddigiaaDoor
open Go Go.T Go.RowKit Go.ChangeShapes Go.WideShapes Go.ChangeAt
abbrev laidL : List (String × DataW Unit) := [("math/bits.deBruijn32tab", Rows.laid_math_bits_deBruijn32tab), ("math/bits.deBruijn64tab", Rows.laid_math_bits_deBruijn64tab), ("internal/strconv.uint64pow10", Rows.laid_internal_strconv_uint64pow10)]
theorem gPow : Tryd.prog.globalNamed "internal/strconv.uint64pow10" = some 0 := by kernel_rfl
theorem tPow : (Tryd.prog.globals[0]?).map (·.type) = some 173 := by kernel_rfl
theorem uPow : Tryd.prog.underlying 173 = some (.array 20 163) := by kernel_rfl
theorem uPowE : Tryd.prog.underlying 163 = some (.int .u64) := by kernel_rfl
theorem arr_cells {H : Type} {enc : TypeId × Value → H} {W : World} {base : Nat} {spare : Nat → Bool} {held : Bool} {m n t : Nat} {k : IntKind} {cs : List Value} {xs : List (DataW H × List MemPlace)} {zs : List Int} (hE : Tryd.prog.underlying t = some (.int k)) (hc : Tryd.prog.cellsOf t = 1) (hlen : cs.length = n) (hxl : xs.length = n) (hzl : zs.length = n)
    (hel : ∀ i, i < n → DataW.trod enc Tryd.prog W base spare held m t ((cs.drop (i * Tryd.prog.cellsOf t)).take (Tryd.prog.cellsOf t)) = xs[i]?) (hx : xs.map (·.1) = zs.map fun z => .lit (.int k z)) : cs = zs.map fun z => .int k z := by
  apply List.ext_getElem (by simp [hlen, hzl])
  intro i h1 h2
  have hi : i < n := by omega
  have h := hel i hi
  rw [hc, Nat.mul_one, List.drop_eq_getElem_cons h1, List.take_succ_cons, List.take_zero, List.getElem?_eq_getElem (by omega)] at h
  obtain ⟨z, e1, e2, _⟩ := DataW.trod_int hE h
  have e3 : (xs.map (·.1))[i]? = some (.lit (.int k z)) := by rw [List.getElem?_map, List.getElem?_eq_getElem (by omega), e2]; rfl
  rw [hx, List.getElem?_map, List.getElem?_eq_getElem (by omega)] at e3
  simp only [Option.map_some, Option.some.injEq, DataW.lit.injEq, Lit.int.injEq, true_and] at e3
  have e4 : cs[i] = .int k z := by injection e1
  rw [e4, List.getElem_map, e3]
set_option maxRecDepth 100000 in
theorem amb_of {W : World} (h : laidMetH Tryd.prog laidL W) : Amb W pubs := by
  rw [MakeChecks.laidMetH_plain _ _ _ (by kernel_rfl)] at h
  obtain ⟨ps, ⟨_, _, _, _, _, _, _, _, _, _, ⟨_, _, _, _, _, _, _, _, _, _, ⟨g, t, cs, fu, p, q, hg, ht, hv, hd, _, _⟩, _⟩, _⟩, _⟩ := h
  obtain rfl := Option.some.inj (gPow.symm.trans hg)
  obtain rfl := Option.some.inj (tPow.symm.trans ht)
  obtain ⟨xs, m, _, hx, hlen, hn, hel⟩ := DataW.trod_array uPow hd
  have hE : Tryd.prog.cellsOf 163 = 1 := by kernel_rfl
  have hA : Tryd.prog.cellsOf 173 = 20 := by kernel_rfl
  simp only [Prod.mk.injEq] at hx
  have hcs : cs.toList = Lib.pow10Tab.map fun z => Value.int .u64 z := arr_cells uPowE hE (hlen.trans hA) hn rfl hel (by
    have h1 := hx.1
    injection h1 with h1
    exact h1.symm)
  intro x hx
  rw [List.mem_singleton.1 hx]
  refine ⟨rfl, ?_⟩
  simp only [World.var?, gPow, Option.bind_some] at hv
  split at hv
  · rename_i c T z hh
    injection hv with hv
    subst hv
    refine ⟨T, z, ?_⟩
    rw [hh]
    congr 2
    rw [← hcs]
  · cases hv
set_option maxRecDepth 100000 in
theorem door_met (os : Os) (args : Array Value) : laidMetH Tryd.prog laidL ((World.doorLaid Tryd.prog 2000 os).forCall (fun _ _ => 0) ⟨#[], args, []⟩).memory :=
  laidMetH_of_parts3 (fuel := 40) (laidMet_of_run' 40 (by kernel_rfl) (by kernel_rfl)) (by kernel_rfl) (by kernel_rfl)
section
variable {H : Type} {enc : TypeId × Value → H} {W : World} {base : Nat} {held : Bool} {v : Value} {d : DataW H} {p : List MemPlace}
end
end Go.Proofs.YtjjndkenddigiaaDoor

namespace Go.Proofs.YtjjndkenddigiaaDoor
open Go Go.T Go.RowKit Go.ChangeShapes Go.WideShapes Go.ChangeAt
theorem rdU8n : Rd Tryd.prog 5 U8 := ⟨by kernel_rfl, by decide, fun h => by
  obtain ⟨i, rfl, _⟩ := DataW.trod_int Tryd.underlying5 h
  exact ⟨i, rfl, trivial⟩⟩
section
variable {H : Type} {enc : TypeId × Value → H} {W : World} {base : Nat} {held : Bool} {v : Value} {d : DataW H} {p : List MemPlace}
set_option maxRecDepth 100000 in
theorem rd_sack (hv : Value.okWide Tryd.prog W .any base 27 v) (h : DataW.Trod enc Tryd.prog W 0 (fun _ => true) held 27 v d p) : ∃ l, (Ty.sl U8 l).den W pubs v := by
  obtain ⟨a, len, cap, rfl⟩ := okWide_slice Tryd.underlying27 hv
  obtain ⟨n, hn⟩ := h
  exact rd_sl1 rdU8n Tryd.underlying27 (by simpa [Value.cells] using hn)
end
end Go.Proofs.YtjjndkenddigiaaDoor
