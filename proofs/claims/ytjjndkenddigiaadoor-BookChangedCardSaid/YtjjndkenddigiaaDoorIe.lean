/- Lemmas: the program and the reference walked, plain laws. -/
import Derived.Test.YtjjndkenddigiaaDoorId
namespace Go.Proofs.YtjjndkenddigiaaDoor
open Go Go.T
set_option maxHeartbeats 4000000
theorem res_chg {b : Book} (hb : BookOk b) {i : Nat} (hi : i < (printB b).length) : resV b.form ((printB b).take i ++ [63] ++ (printB b).drop (i + 1)) = (b, 0) := by
  obtain ⟨q, h1, h2⟩ := chg_all hb hi
  have hln := print_len hb
  have h3 : tornE b.form ((printB b).take i ++ [63] ++ (printB b).drop (i + 1)) = 0 := by
    unfold tornE
    rw [if_neg (fun e => e (frmY_zero.2 hb.form)), if_neg, if_neg]
    · rw [torn_chg fun x hx => (print_txt hb x hx).1]; decide
    · simp only [List.length_append, List.length_take, List.length_drop, List.length_singleton]; omega
  unfold resV
  rw [if_neg (fun e => e h3), h1, if_neg (fun e => by cases e), if_pos (show [(printB b, q)].length = 1 from rfl)]
  unfold resB
  rw [h1, if_neg (fun e => by cases e)]
  show ((⟨b.form, q.read⟩ : Book), (0 : Int)) = (b, 0)
  rw [h2]
theorem c_RestoreIs {f : BForm} {t : Byt} {q : Book} {y : Int} (h : resV f t = (q, y)) : Ctr Tryd.prog 21 [frmT f, Ty.str (bs t)] (Ty.tup [bokT q, Ty.int .i64 y]) := by
  have h2 := c_Restore f t
  rwa [h] at h2
theorem swp_yes {b : Book} (hb : BookOk b) {i : Nat} (hc : (decide (0 < (i : Int)) && decide ((i : Int) + 1 < (printB b).length) && !decide ((((nth (printB b) (i - 1)).toNat : Nat) : Int) = 10) && fldQ (nth (printB b) i) && fldQ (nth (printB b) (i + 1)) && !decide ((((nth (printB b) i).toNat : Nat) : Int) = ((nth (printB b) (i + 1)).toNat : Nat))) = true) :
    i + 2 ≤ (printB b).length ∧ ∃ n : Int, parV b.form ((printB b).take i ++ ((printB b).take (i + 2)).drop (i + 1) ++ ((printB b).take (i + 1)).drop i ++ (printB b).drop (i + 2)) = (Book.zero, n, 11) := by
  simp only [Bool.and_eq_true, Bool.not_eq_true', decide_eq_true_eq, decide_eq_false_iff_not] at hc
  obtain ⟨⟨⟨⟨⟨h1, h2⟩, h3⟩, h4⟩, h5⟩, h6⟩ := hc
  refine ⟨by omega, _, swp_par hb (by omega) (by omega) (fun e => h3 (by rw [e]; rfl)) (fldQ_iff h4) (fldQ_iff h5) (fun e => h6 (by rw [e]))⟩
theorem chgZ_yes {t : Byt} {i j : Nat} (h : (((nth chgT j).toNat : Nat) : Int) = ((nth t i).toNat : Nat)) : (63 : Int) = chgZ t i j := (if_pos h).symm
theorem chgZ_no {t : Byt} {i j : Nat} (h : ¬ (((nth chgT j).toNat : Nat) : Int) = ((nth t i).toNat : Nat)) : (((nth chgT j).toNat : Nat) : Int) = chgZ t i j := (if_neg h).symm
attribute [local irreducible] parV printB mdB mdF resV chgZ fldQ
attribute [local irreducible] dInt dBool dSl dPp dPtr dAgg dTup dClo dAny dEx dStr dGd dCells dVec dVs dRow dOp nth Tri Into TOps Ctr bodyPost Exit.then Exit.inBlock Code.wp Code.wpIn dPa dArr dMp dMap CtrG keepPost iterPost bodyPostM roundQ
set_option maxRecDepth 100000 in
theorem c_BookChanged (g : List Int) (v o : Int) (hv : 0 ≤ v ∧ v ≤ 65535) (ho : 0 ≤ o ∧ o ≤ 255) : Ctr Tryd.prog 5 [Ty.sl U8 g, Ty.int .u16 v, Ty.int .u8 o] (Ty.bool true) := by
  refine fn_intro Tryd.func5 rfl (by decide) Tryd.ntmps5 (by exact Nat.le_of_ble_eq_true rfl) fun w0 M0 => ?_
  refine t_seq ?_
  refine t_region ?_
  refine asB rfl ?_
  refine r_nil ?_
  refine i_then ?_
  refine t_seq ?_
  refine t_region ?_
  refine mvS rfl ?_
  refine r_callG [(20, 10)] [20] [(20, Cont.cells 90 (skTys (skFill g)))] (c_Fill g) rfl rfl (cv_cons cv_nil (cv_pub rfl rfl)) pre_nil (post_cons (a := 20) (b := 10) (by exact List.mem_cons_self) rfl (cc_cells_eq (by exact List.mem_cons_self) rfl rfl rfl) post_nil) (cv_ptr (by exact List.mem_cons_self)) ?_
  refine r_callG (res' := bokT (mdB (skFill g) 6)) [(20, 1000)] [] [] (c_Made (skFill g) (fill_200 g) 6 (by decide)) rfl rfl (cv_cons (cv_cons cv_nil (cv_pub rfl rfl)) (cv_ptr (by exact List.mem_cons_self))) (pre_cons (a := 20) (b := 1000) (by exact List.mem_cons_self) rfl (cc_cells_eq (by exact List.mem_cons_self) rfl rfl rfl) pre_nil) post_nil (cv_pub rfl rfl) ?_
  refine r_alloc rfl (by exact List.cons_ne_nil _ _) rfl ?_
  refine r_storeN rfl rfl (by decide) rfl rfl rfl rfl rfl rfl ?_
  refine r_nil ?_
  refine i_then ?_
  refine t_seq ?_
  have hb : BookOk (mdB (skFill g) 6) := mdB_ok _ (by decide)
  generalize hB : mdB (skFill g) 6 = b at hb ⊢
  have hp := print_pos hb
  have hln := print_len hb
  have hfw := hb.form.n2
  have hl1 := hb.form.l1
  have hfew := hb.few
  refine t_region ?_
  refine r_load_ptrN rfl rfl (by decide) rfl rfl (by exact Nat.le_of_ble_eq_true rfl) ?_
  refine r_call (c_PrintOk hb) rfl rfl rfl rfl rfl ?_
  refine mvT rfl ?_
  refine r_extract rfl rfl ?_
  refine r_extract rfl rfl ?_
  refine asS' rfl ?_
  refine asI rfl ?_
  refine r_nil ?_
  refine i_then ?_
  refine t_seq ?_
  refine t_seq ?_
  refine t_region ?_
  refine mvI rfl ?_
  refine r_bin rfl rfl rfl ?_
  refine mvB rfl ?_
  apply r_guard (s := 29) rfl rfl rfl
  · intro hg; apply opT_of; (refine mvS' rfl ?_); refine r_nil ?_; exact rfl
  · exact rfl
  · exact rfl
  apply r_guard (s := 29) rfl rfl rfl
  · intro hg; apply opT_strip (s := 30) rfl (by (rw [hg]; rfl)); apply opT_of; (refine r_lenS rfl rfl rfl ?_); refine r_nil ?_; exact rfl
  · exact rfl
  · exact rfl
  apply r_guard (s := 29) rfl rfl rfl
  · intro hg; apply opT_strip (s := 31) rfl (by (rw [hg]; rfl)); apply opT_of; (refine r_bin rfl rfl rfl ?_); refine r_nil ?_; exact rfl
  · exact rfl
  · exact rfl
  refine r_or rfl rfl ?_
  refine r_nil ?_
  refine i_then ?_
  refine t_cond_dec rfl (fun hc1 => ?_) (fun hc1 => ?_)
  ·
    refine t_seq ?_
    refine t_region ?_
    refine asB rfl ?_
    refine r_nil ?_
    refine i_then ?_
    refine t_ret ?_
    refine i_then_ret ?_
    refine i_rp1 rfl rfl ?_
    all_goals skip
    all_goals (exfalso; omega)
  ·
    refine t_skip ?_
    refine i_then ?_
    refine t_seq ?_
    refine t_region ?_
    refine mvI rfl ?_
    refine r_convK rfl rfl rfl rfl (IntWalk.i64_in v (by omega)) ?_
    refine mvS' rfl ?_
    refine r_lenS rfl rfl rfl ?_
    refine r_rem rfl rfl (by omega) ?_
    refine asI rfl ?_
    refine r_nil ?_
    refine i_then ?_
    refine t_seq ?_
    obtain ⟨i, hi, hvi⟩ : ∃ i : Nat, i < (printB b).length ∧ v.tmod ((printB b).length : Int) = i := by
      have := tmod_in (a := v) (b := (printB b).length) hv.1 (by omega)
      exact ⟨(v.tmod (printB b).length).toNat, by omega, by omega⟩
    obtain ⟨j, hj, hoj⟩ : ∃ j : Nat, j < 40 ∧ o.tmod 40 = j := by
      have := tmod_in (a := o) (b := 40) ho.1 (by decide)
      exact ⟨(o.tmod 40).toNat, by omega, by omega⟩
    have hz := chgZ_bnd (printB b) i hj
    have hne := chgZ_ne hj (swp_nth hb hi).1
    obtain ⟨hch, hrun⟩ := chg_par hb hi hne
    refine t_as (s := 10) rfl (Ty.sub_int hvi) ?_
    refine t_region ?_
    refine mvI rfl ?_
    refine r_convK rfl rfl rfl rfl (IntWalk.i64_in o (by omega)) ?_
    refine r_rem rfl rfl (by omega) ?_
    refine r_idxS (a := chgT) (i := j) rfl (congrArg (Ty.int .i64) hoj) rfl rfl hj ?_
    refine asI rfl ?_
    refine r_nil ?_
    refine i_then ?_
    refine t_join (J := live [(7, Ty.ptr 8 0), (8, Ty.str (bs (printB b))), (10, Ty.int .i64 i), (11, Ty.int .u8 (chgZ (printB b) i j))] [(8, Cont.cells 30 (bokTys b))]) ?_ ?_
    ·
      refine t_seq ?_
      refine t_region ?_
      refine mvI rfl ?_
      refine mvS' rfl ?_
      refine mvI rfl ?_
      refine r_idxS (i := i) rfl rfl rfl rfl hi ?_
      refine r_bin rfl rfl rfl ?_
      refine r_nil ?_
      refine i_then ?_
      refine t_cond_dec rfl (fun hc2 => ?_) (fun hc2 => ?_)
      ·
        refine t_region ?_
        refine asI rfl ?_
        refine r_nil ?_
        refine i_join ?_
        (refine Ent.mk' ?_ ?_ <;> (repeat' (first | exact allSub_zero | exact allTags_nil | refine allSub_succ' ?_ (Ty.sub_any _) | refine allSub_succ' ?_ (Ty.sub_refl _) | refine allTags_cons rfl (Cont.sub_refl _) ?_ | refine allSub_succ' ?_ ?_)))
        all_goals exact Ty.sub_int (chgZ_yes hc2)
      ·
        refine t_skip ?_
        refine i_join ?_
        (refine Ent.mk' ?_ ?_ <;> (repeat' (first | exact allSub_zero | exact allTags_nil | refine allSub_succ' ?_ (Ty.sub_any _) | refine allSub_succ' ?_ (Ty.sub_refl _) | refine allTags_cons rfl (Cont.sub_refl _) ?_ | refine allSub_succ' ?_ ?_)))
        all_goals exact Ty.sub_int (chgZ_no hc2)
    ·
      refine t_seq ?_
      refine t_draw mixed rfl ?_
      refine r_field_ptr rfl rfl rfl rfl rfl (by decide) ?_
      refine r_load_ptrN rfl rfl (by decide) rfl rfl (by exact Nat.le_of_ble_eq_true rfl) ?_
      refine mvS' rfl ?_
      refine mvI rfl ?_
      refine r_cutS_hi (hi := i) rfl rfl rfl rfl (by omega) ?_
      refine mvI rfl ?_
      refine r_convK rfl rfl rfl rfl (IntWalk.i32_in (chgZ (printB b) i j) (by omega)) ?_
      refine r_convIS rfl rfl rfl rfl (by omega) (by omega) ?_
      refine r_catS rfl rfl (by (simp <;> omega)) ?_
      refine mvS' rfl ?_
      refine mvI rfl ?_
      refine r_add rfl rfl (by omega) (by omega) ?_
      refine r_cutS_lo (lo := i + 1) rfl rfl rfl rfl (by omega) ?_
      refine r_catS rfl rfl (by (simp <;> omega)) ?_
      refine r_call (c_ParseIs (by omega) hch) rfl rfl rfl rfl rfl ?_
      refine mvT rfl ?_
      refine r_extract rfl rfl ?_
      refine r_extract rfl rfl ?_
      refine r_extract rfl rfl ?_
      refine r_alloc rfl (by exact List.cons_ne_nil _ _) rfl ?_
      refine r_storeN rfl rfl (by decide) rfl rfl rfl rfl rfl rfl ?_
      refine asI rfl ?_
      refine asI rfl ?_
      refine r_nil ?_
      refine ⟨by kernel_rfl, ?_⟩
      refine i_then ?_
      refine t_seq ?_
      refine t_seq ?_
      refine t_region ?_
      refine mvI rfl ?_
      refine r_bin rfl rfl rfl ?_
      refine mvB rfl ?_
      apply r_guard (s := 69) rfl rfl rfl
      · intro hg; apply opT_of; (refine mvI rfl ?_); refine r_nil ?_; exact rfl
      · exact rfl
      · exact rfl
      apply r_guard (s := 69) rfl rfl rfl
      · intro hg; apply opT_of; (refine mvI rfl ?_); refine r_nil ?_; exact rfl
      · exact rfl
      · exact rfl
      apply r_guard (s := 69) rfl rfl rfl
      · intro hg; apply opT_strip (s := 70) rfl (by (rw [hg]; rfl)); apply opT_strip (s := 71) rfl (by (rw [hg]; rfl)); apply opT_of; (refine r_bin rfl rfl rfl ?_); refine r_nil ?_; exact rfl
      · exact rfl
      · exact rfl
      refine r_or rfl rfl ?_
      refine r_nil ?_
      refine i_then ?_
      refine t_cond_dec rfl (fun hc3 => ?_) (fun hc3 => ?_)
      ·
        refine t_seq ?_
        refine t_region ?_
        refine asB rfl ?_
        refine r_nil ?_
        refine i_then ?_
        refine t_ret ?_
        refine i_then_ret ?_
        refine i_rp1 rfl rfl ?_
        all_goals skip
        all_goals (exfalso; omega)
      ·
        refine t_skip ?_
        refine i_then ?_
        refine t_seq ?_
        refine t_draw mixed rfl ?_
        refine r_field_ptr rfl rfl rfl rfl rfl (by decide) ?_
        refine r_load_ptrN rfl rfl (by decide) rfl rfl (by exact Nat.le_of_ble_eq_true rfl) ?_
        refine mvS' rfl ?_
        refine mvI rfl ?_
        refine r_cutS_hi (hi := i) rfl rfl rfl rfl (by omega) ?_
        refine r_catS rfl rfl (by (simp <;> omega)) ?_
        refine mvS' rfl ?_
        refine mvI rfl ?_
        refine r_add rfl rfl (by omega) (by omega) ?_
        refine r_cutS_lo (lo := i + 1) rfl rfl rfl rfl (by omega) ?_
        refine r_catS rfl rfl (by (simp <;> omega)) ?_
        refine r_call (c_RestoreIs (res_chg hb hi)) rfl rfl rfl rfl rfl ?_
        refine mvT rfl ?_
        refine r_extract rfl rfl ?_
        refine r_extract rfl rfl ?_
        refine r_alloc rfl (by exact List.cons_ne_nil _ _) rfl ?_
        refine r_storeN rfl rfl (by decide) rfl rfl rfl rfl rfl rfl ?_
        refine asI rfl ?_
        refine r_nil ?_
        refine ⟨by kernel_rfl, ?_⟩
        refine i_then ?_
        refine t_seq ?_
        refine t_seq ?_
        refine t_region ?_
        refine mvI rfl ?_
        refine r_bin rfl rfl rfl ?_
        refine mvB rfl ?_
        apply r_guard (s := 91) rfl rfl rfl
        · intro hg; apply opT_of; (refine r_load_ptrN rfl rfl (by decide) rfl rfl (by exact Nat.le_of_ble_eq_true rfl) ?_); refine r_nil ?_; exact rfl
        · exact rfl
        · exact rfl
        apply r_guard (s := 91) rfl rfl rfl
        · intro hg; apply opT_of; (refine r_load_ptrN rfl rfl (by decide) rfl rfl (by exact Nat.le_of_ble_eq_true rfl) ?_); refine r_nil ?_; exact rfl
        · exact rfl
        · exact rfl
        apply r_guard (s := 91) rfl rfl rfl
        · intro hg; apply opT_strip (s := 92) rfl (by (rw [hg]; rfl)); apply opT_strip (s := 93) rfl (by (rw [hg]; rfl)); apply opT_of; (refine r_call (c_same b b) rfl rfl rfl rfl rfl ?_); refine r_nil ?_; exact rfl
        · exact rfl
        · exact rfl
        apply r_guard (s := 91) rfl rfl rfl
        · intro hg; apply opT_strip (s := 94) rfl (by (rw [hg]; rfl)); apply opT_of; (refine r_not rfl ?_); refine r_nil ?_; exact rfl
        · exact rfl
        · exact rfl
        refine r_or rfl rfl ?_
        refine r_nil ?_
        refine i_then ?_
        refine t_cond_ndec rfl (fun hc4 => ?_) (fun hc4 => ?_)
        ·
          refine t_seq ?_
          refine t_region ?_
          refine asB rfl ?_
          refine r_nil ?_
          refine i_then ?_
          refine t_ret ?_
          refine i_then_ret ?_
          refine i_rp1 rfl rfl ?_
          all_goals skip
          all_goals exact absurd rfl hc4
        ·
          refine t_skip ?_
          refine i_then ?_
          refine t_seq ?_
          refine t_region ?_
          refine asF rfl ?_
          refine r_nil ?_
          refine i_then ?_
          refine t_seq ?_
          refine t_seq ?_
          refine t_draw mixed rfl ?_
          refine mvI rfl ?_
          refine r_bin rfl rfl rfl ?_
          refine mvB rfl ?_
          apply r_guard (s := 99) rfl rfl rfl
          · intro hg; apply opT_of; (refine mvI rfl ?_); refine r_nil ?_; exact rfl
          · exact rfl
          · exact rfl
          apply r_guard (s := 99) rfl rfl rfl
          · intro hg; apply opT_strip (s := 100) rfl (by (rw [hg]; rfl)); apply opT_of; (refine r_add rfl rfl (by omega) (by omega) ?_); refine r_nil ?_; exact rfl
          · exact rfl
          · exact rfl
          apply r_guard (s := 99) rfl rfl rfl
          · intro hg; apply opT_of; (refine mvS' rfl ?_); refine r_nil ?_; exact rfl
          · exact rfl
          · exact rfl
          apply r_guard (s := 99) rfl rfl rfl
          · intro hg; apply opT_strip (s := 102) rfl (by (rw [hg]; rfl)); apply opT_of; (refine r_lenS rfl rfl rfl ?_); refine r_nil ?_; exact rfl
          · exact rfl
          · exact rfl
          apply r_guard (s := 99) rfl rfl rfl
          · intro hg; apply opT_strip (s := 101) rfl (by (rw [hg]; rfl)); apply opT_strip (s := 103) rfl (by (rw [hg]; rfl)); apply opT_of; (refine r_bin rfl rfl rfl ?_); refine r_nil ?_; exact rfl
          · exact rfl
          · exact rfl
          refine r_and rfl rfl ?_
          refine mvB rfl ?_
          apply r_guard (s := 106) rfl rfl rfl
          · intro hg; apply opT_of; (refine mvS' rfl ?_); refine r_nil ?_; exact rfl
          · exact rfl
          · exact rfl
          apply r_guard (s := 106) rfl rfl rfl
          · intro hg; apply opT_of; (refine mvI rfl ?_); refine r_nil ?_; exact rfl
          · exact rfl
          · exact rfl
          apply r_guard (s := 106) rfl rfl rfl
          · intro hg; apply opT_strip (s := 108) rfl (by (rw [hg]; rfl)); apply opT_of; (refine r_sub rfl rfl (by omega) (by omega) ?_); refine r_nil ?_; exact rfl
          · exact rfl
          · exact rfl
          apply r_guard (s := 106) rfl rfl rfl
          · intro hg; apply opT_strip (s := 107) rfl (by (rw [hg]; rfl)); apply opT_strip (s := 109) rfl (by (rw [hg]; rfl)); apply opT_of; (refine r_idxS (i := i - 1) rfl (congrArg (Ty.int .i64) (show (i : Int) - 1 = ((i - 1 : Nat) : Int) by simp at hg; omega)) rfl rfl (by omega) ?_); refine r_nil ?_; exact rfl
          · exact rfl
          · exact rfl
          apply r_guard (s := 106) rfl rfl rfl
          · intro hg; apply opT_strip (s := 110) rfl (by (rw [hg]; rfl)); apply opT_of; (refine r_bin rfl rfl rfl ?_); refine r_nil ?_; exact rfl
          · exact rfl
          · exact rfl
          refine r_and rfl rfl ?_
          refine mvB rfl ?_
          apply r_guard (s := 113) rfl rfl rfl
          · intro hg; apply opT_of; (refine mvF rfl ?_); refine r_nil ?_; exact rfl
          · exact rfl
          · exact rfl
          apply r_guard (s := 113) rfl rfl rfl
          · intro hg; apply opT_of; (refine mvS' rfl ?_); refine r_nil ?_; exact rfl
          · exact rfl
          · exact rfl
          apply r_guard (s := 113) rfl rfl rfl
          · intro hg; apply opT_of; (refine mvI rfl ?_); refine r_nil ?_; exact rfl
          · exact rfl
          · exact rfl
          apply r_guard (s := 113) rfl rfl rfl
          · intro hg; apply opT_strip (s := 115) rfl (by (rw [hg]; rfl)); apply opT_strip (s := 116) rfl (by (rw [hg]; rfl)); apply opT_of; (refine r_idxS (i := i) rfl rfl rfl rfl hi ?_); refine r_nil ?_; exact rfl
          · exact rfl
          · exact rfl
          apply r_guard (s := 113) rfl rfl rfl
          · intro hg; apply opT_strip (s := 114) rfl (by (rw [hg]; rfl)); apply opT_strip (s := 117) rfl (by (rw [hg]; rfl)); apply opT_of; (refine r_callv rfl (c_isFld (nth (printB b) i)) rfl rfl rfl rfl rfl ?_); refine r_nil ?_; exact rfl
          · exact rfl
          · exact rfl
          refine r_and rfl rfl ?_
          refine mvB rfl ?_
          apply r_guard (s := 120) rfl rfl rfl
          · intro hg; apply opT_of; (refine mvF rfl ?_); refine r_nil ?_; exact rfl
          · exact rfl
          · exact rfl
          apply r_guard (s := 120) rfl rfl rfl
          · intro hg; apply opT_of; (refine mvS' rfl ?_); refine r_nil ?_; exact rfl
          · exact rfl
          · exact rfl
          apply r_guard (s := 120) rfl rfl rfl
          · intro hg; apply opT_of; (refine mvI rfl ?_); refine r_nil ?_; exact rfl
          · exact rfl
          · exact rfl
          apply r_guard (s := 120) rfl rfl rfl
          · intro hg; apply opT_strip (s := 123) rfl (by (rw [hg]; rfl)); apply opT_of; (refine r_add rfl rfl (by omega) (by omega) ?_); refine r_nil ?_; exact rfl
          · exact rfl
          · exact rfl
          apply r_guard (s := 120) rfl rfl rfl
          · intro hg; apply opT_strip (s := 122) rfl (by (rw [hg]; rfl)); apply opT_strip (s := 124) rfl (by (rw [hg]; rfl)); apply opT_of; (refine r_idxS (i := i + 1) rfl rfl rfl rfl (by simp at hg; omega) ?_); refine r_nil ?_; exact rfl
          · exact rfl
          · exact rfl
          apply r_guard (s := 120) rfl rfl rfl
          · intro hg; apply opT_strip (s := 121) rfl (by (rw [hg]; rfl)); apply opT_strip (s := 125) rfl (by (rw [hg]; rfl)); apply opT_of; (refine r_callv rfl (c_isFld (nth (printB b) (i + 1))) rfl rfl rfl rfl rfl ?_); refine r_nil ?_; exact rfl
          · exact rfl
          · exact rfl
          refine r_and rfl rfl ?_
          refine mvB rfl ?_
          apply r_guard (s := 128) rfl rfl rfl
          · intro hg; apply opT_of; (refine mvS' rfl ?_); refine r_nil ?_; exact rfl
          · exact rfl
          · exact rfl
          apply r_guard (s := 128) rfl rfl rfl
          · intro hg; apply opT_of; (refine mvI rfl ?_); refine r_nil ?_; exact rfl
          · exact rfl
          · exact rfl
          apply r_guard (s := 128) rfl rfl rfl
          · intro hg; apply opT_strip (s := 129) rfl (by (rw [hg]; rfl)); apply opT_strip (s := 130) rfl (by (rw [hg]; rfl)); apply opT_of; (refine r_idxS (i := i) rfl rfl rfl rfl hi ?_); refine r_nil ?_; exact rfl
          · exact rfl
          · exact rfl
          apply r_guard (s := 128) rfl rfl rfl
          · intro hg; apply opT_of; (refine mvS' rfl ?_); refine r_nil ?_; exact rfl
          · exact rfl
          · exact rfl
          apply r_guard (s := 128) rfl rfl rfl
          · intro hg; apply opT_of; (refine mvI rfl ?_); refine r_nil ?_; exact rfl
          · exact rfl
          · exact rfl
          apply r_guard (s := 128) rfl rfl rfl
          · intro hg; apply opT_strip (s := 133) rfl (by (rw [hg]; rfl)); apply opT_of; (refine r_add rfl rfl (by omega) (by omega) ?_); refine r_nil ?_; exact rfl
          · exact rfl
          · exact rfl
          apply r_guard (s := 128) rfl rfl rfl
          · intro hg; apply opT_strip (s := 132) rfl (by (rw [hg]; rfl)); apply opT_strip (s := 134) rfl (by (rw [hg]; rfl)); apply opT_of; (refine r_idxS (i := i + 1) rfl rfl rfl rfl (by simp at hg; omega) ?_); refine r_nil ?_; exact rfl
          · exact rfl
          · exact rfl
          apply r_guard (s := 128) rfl rfl rfl
          · intro hg; apply opT_strip (s := 131) rfl (by (rw [hg]; rfl)); apply opT_strip (s := 135) rfl (by (rw [hg]; rfl)); apply opT_of; (refine r_bin rfl rfl rfl ?_); refine r_nil ?_; exact rfl
          · exact rfl
          · exact rfl
          refine r_and rfl rfl ?_
          refine r_nil ?_
          refine ⟨by kernel_rfl, ?_⟩
          refine i_then ?_
          refine t_cond rfl (fun hc5 => ?_) (fun hc5 => ?_)
          ·
            refine t_seq ?_
            obtain ⟨hi2, n, hsw⟩ := swp_yes hb hc5
            refine t_draw mixed rfl ?_
            refine r_field_ptr rfl rfl rfl rfl rfl (by decide) ?_
            refine r_load_ptrN rfl rfl (by decide) rfl rfl (by exact Nat.le_of_ble_eq_true rfl) ?_
            refine mvS' rfl ?_
            refine mvI rfl ?_
            refine r_cutS_hi (hi := i) rfl rfl rfl rfl (by omega) ?_
            refine mvS' rfl ?_
            refine mvI rfl ?_
            refine r_add rfl rfl (by omega) (by omega) ?_
            refine mvI rfl ?_
            refine r_add rfl rfl (by omega) (by omega) ?_
            refine r_cutS (lo := i + 1) (hi := i + 2) rfl rfl rfl rfl rfl (by omega) (by omega) ?_
            refine r_catS rfl rfl (by (simp <;> omega)) ?_
            refine mvS' rfl ?_
            refine mvI rfl ?_
            refine mvI rfl ?_
            refine r_add rfl rfl (by omega) (by omega) ?_
            refine r_cutS (lo := i) (hi := i + 1) rfl rfl rfl rfl rfl (by omega) (by omega) ?_
            refine r_catS rfl rfl (by (simp <;> omega)) ?_
            refine mvS' rfl ?_
            refine mvI rfl ?_
            refine r_add rfl rfl (by omega) (by omega) ?_
            refine r_cutS_lo (lo := i + 2) rfl rfl rfl rfl (by omega) ?_
            refine r_catS rfl rfl (by (simp <;> omega)) ?_
            refine r_call (c_ParseIs (by omega) hsw) rfl rfl rfl rfl rfl ?_
            refine mvT rfl ?_
            refine r_extract rfl rfl ?_
            refine r_extract rfl rfl ?_
            refine r_extract rfl rfl ?_
            refine r_alloc rfl (by exact List.cons_ne_nil _ _) rfl ?_
            refine r_storeN rfl rfl (by decide) rfl rfl rfl rfl rfl rfl ?_
            refine asI rfl ?_
            refine asI rfl ?_
            refine r_nil ?_
            refine ⟨by kernel_rfl, ?_⟩
            refine i_then ?_
            refine t_seq ?_
            refine t_region ?_
            refine mvI rfl ?_
            refine r_bin rfl rfl rfl ?_
            refine r_nil ?_
            refine i_then ?_
            refine t_cond_ndec rfl (fun hc6 => ?_) (fun hc6 => ?_)
            ·
              refine t_seq ?_
              refine t_region ?_
              refine asB rfl ?_
              refine r_nil ?_
              refine i_then ?_
              refine t_ret ?_
              refine i_then_ret ?_
              refine i_rp1 rfl rfl ?_
              all_goals skip
              all_goals exact absurd rfl hc6
            ·
              refine t_skip ?_
              refine i_then ?_
              refine t_seq ?_
              refine t_region ?_
              refine r_call c_awake rfl rfl rfl rfl rfl ?_
              refine asB rfl ?_
              refine r_nil ?_
              refine i_then ?_
              refine t_ret ?_
              refine i_rp1 rfl rfl ?_
              all_goals exact ret_refl rfl rfl
              all_goals trace_state
          ·
            refine t_skip ?_
            refine i_then ?_
            refine t_seq ?_
            refine t_region ?_
            refine r_call c_awake rfl rfl rfl rfl rfl ?_
            refine asB rfl ?_
            refine r_nil ?_
            refine i_then ?_
            refine t_ret ?_
            refine i_rp1 rfl rfl ?_
            all_goals exact ret_refl rfl rfl
            all_goals trace_state
end Go.Proofs.YtjjndkenddigiaaDoor

namespace Go.T
open Go Go.RowKit Go.ChangeShapes Go.WideShapes Go.ChangeAt
def pubs : Tags := fun _ => none
theorem wf_pubs (w : World) (h : Amb w pubs) : Wf w pubs := ⟨fun _ _ h => (by cases h), fun _ _ _ _ h => (by cases h), h⟩
theorem pubs_zero : ∀ b t, pubs b = some t → t = 0 := fun _ _ h => by cases h
structure Rd {α : Type} (P : Program) (e : TypeId) (E : El α) : Prop where
  size : P.cellsOf e = E.size
  pos : 0 < E.size
  rd : ∀ {H : Type} {enc : TypeId × Value → H} {w : World} {base : Nat} {held : Bool} {n : Nat} {cs : List Value} {y : DataW H × List MemPlace}, DataW.trod enc P w base (fun _ => true) held n e cs = some y → ∃ x, dens w pubs (E.tys x) cs
section
variable {H : Type} {enc : TypeId × Value → H} {P : Program} {w : World} {base : Nat} {held : Bool} {α : Type} {E : El α} {t e : TypeId} {n : Nat} {cs : List Value} {y : DataW H × List MemPlace}
theorem rd_sl (hR : Rd P e E) (ht : P.underlying t = some (.slice e)) (h : DataW.trod enc P w base (fun _ => true) held n t cs = some y) : ∃ v xs, cs = [v] ∧ (Ty.sl E xs).den w pubs v := by
  rcases Go.Deep.open_slice ht h with ⟨rfl, _⟩ | ⟨a, len, cap, m, k, D, Pl, rfl, _, hl, hm, hmm, _, hel⟩
  · exact ⟨_, [], rfl, none, 0, rfl, Nat.le_refl _, Nat.zero_le _, fun h => absurd h (Nat.lt_irrefl _)⟩
  have hlm : len ≤ m := by rw [hmm]; simpa using hl
  have hX : ∀ i : Fin len, ∃ x : α, ∃ cs', w.cells? base (a.add (i.1 * P.cellsOf e)) (P.cellsOf e) = some cs' ∧ dens w pubs (E.tys x) cs' := fun i => by
    obtain ⟨cs', h1, h2⟩ := hel i.1 (Nat.lt_of_lt_of_le i.2 hlm)
    obtain ⟨x, hx⟩ := hR.rd h2
    exact ⟨x, cs', h1, hx⟩
  let X : Fin len → α := fun i => (hX i).choose
  have hXs : ∀ i : Fin len, ∃ cs', w.cells? base (a.add (i.1 * P.cellsOf e)) (P.cellsOf e) = some cs' ∧ dens w pubs (E.tys (X i)) cs' := fun i => (hX i).choose_spec
  have hlen : (List.ofFn X).length = len := by simp
  refine ⟨_, List.ofFn X, rfl, some a, cap, by rw [hlen], by rw [hlen]; exact hl, hm, fun h0 => ?_⟩
  rw [hlen] at h0
  have hcell : ∀ (i : Fin len) (j : Nat) (u : Ty), (E.tys (X i))[j]? = some u → ∃ v, w.cell? (a.add (i.1 * E.size + j)) = some v ∧ u.den w pubs v := fun i j u hu => by
    obtain ⟨cs', h1, h2⟩ := hXs i
    obtain ⟨v, hv, hd⟩ := dens_get h2 j u hu
    obtain ⟨_, g1, g2⟩ := World.cells?_some h1
    have hj : j < P.cellsOf e := by
      rw [hR.size, ← E.len (X i)]
      exact (List.getElem?_eq_some_iff.1 hu).1
    refine ⟨v, ?_, hd⟩
    have := g2 j hj
    rw [Go.Deep.add_add, hv, hR.size] at this
    exact this
  have hsz := hR.pos
  have hfirst : ∃ v, w.cell? (a.add 0) = some v := by
    obtain ⟨u, hu⟩ : ∃ u, (E.tys (X ⟨0, h0⟩))[0]? = some u := ⟨_, List.getElem?_eq_getElem (by rw [E.len]; exact hsz)⟩
    obtain ⟨v, hv, _⟩ := hcell ⟨0, h0⟩ 0 u hu
    exact ⟨v, by simpa using hv⟩
  obtain ⟨b, off, sp⟩ := a
  obtain ⟨v0, hv0⟩ := hfirst
  have hsp : sp = none := by simpa [Addr.add] using World.cell?_spot hv0
  subst hsp
  have hb : b < w.heap.size := by
    obtain ⟨cs', h1, _⟩ := hXs ⟨0, h0⟩
    have := World.cells?_block h1 (by rw [hR.size]; exact hsz)
    simpa [Addr.add] using this
  refine ⟨b, off, rfl, rfl, hb, fun i u hu => ?_⟩
  have hi : i < len * E.size := by
    have := (List.getElem?_eq_some_iff.1 hu).1
    rw [flat_len, hlen] at this; exact this
  have hk : i / E.size < len := Nat.div_lt_of_lt_mul (by rw [Nat.mul_comm]; exact hi)
  have hj : i % E.size < E.size := Nat.mod_lt _ hsz
  have hij : i / E.size * E.size + i % E.size = i := by rw [Nat.mul_comm]; exact Nat.div_add_mod i E.size
  have hu2 := hu
  rw [← hij, flat_get E _ _ _ (by rw [hlen]; exact hk) hj, List.getElem?_ofFn, dif_pos hk] at hu2
  obtain ⟨v, hv, hd⟩ := hcell ⟨i / E.size, hk⟩ (i % E.size) u hu2
  refine ⟨v, ?_, hd⟩
  rw [← Go.WideShapes.add_plain]
  rw [hij] at hv
  exact hv
theorem rd_sl1 {c : Value} (hR : Rd P e E) (ht : P.underlying t = some (.slice e)) (h : DataW.trod enc P w base (fun _ => true) held n t [c] = some y) : ∃ xs, (Ty.sl E xs).den w pubs c := by
  obtain ⟨v, xs, e, hd⟩ := rd_sl hR ht h
  exact ⟨xs, by rw [show c = v by simpa using e]; exact hd⟩
end
section
variable {w w' : World} {S K : Nat → Prop} {M' : Tags}
theorem le_block (le : Le S K w pubs w' M') {b : Nat} (hb : b < w.heap.size) : w'.heap[b]? = w.heap[b]? := (le.pub b hb rfl).2
theorem le_same (le : Le S K w pubs w' M') {p : MemPlace} (hp : p.block < w.heap.size) : w.sameAt w' p := by
  cases p with
  | cell b o => exact World.cell?_of_block (w := w) (le_block le hp)
  | map b => exact le_block le hp
theorem le_kept (le : Le S K w pubs w' M') (may : MemPlace → Prop) : w.keptBut w' may := by
  refine ⟨le.os, le.out, fun i hi => ?_⟩
  have e := le_block le hi
  rw [e]
  split
  · rename_i h1 h2
    rw [h1] at h2
    simp only [Option.some.injEq, Obj.cells.injEq] at h2
    obtain ⟨rfl, rfl, rfl⟩ := h2
    exact ⟨rfl, rfl, rfl, fun _ _ => rfl⟩
  · rename_i h1 h2
    rw [h1] at h2
    simp only [Option.some.injEq, Obj.map.injEq] at h2
    exact Or.inr ⟨h2.1.symm, h2.2.symm⟩
  · rfl
theorem le_frozen (le : Le S K w pubs w' M') {a : Addr} (ha : a.block < w.heap.size) : w'.frozen? a = w.frozen? a := by
  unfold World.frozen?
  rw [le_block le ha]
end
section
variable {H : Type} {enc : TypeId × Value → H} {P : Program}
theorem trodAll_stays (hl : laidOutB P = true) {w w' : World} {sp : Nat → Bool} : ∀ {ts : List TypeId} {vs : List Value} {ds : List (DataW H)} {ps : List MemPlace}, (∀ t ∈ ts, P.readableRec t = true ∧ t < P.types.size) →
    DataW.TrodAll enc P w 0 (fun _ => true) true ts vs ds ps → (∀ p ∈ ps, w.sameAt w' p) → (∀ p ∈ ps, sp p.block = true) → DataW.TrodAll enc P w' 0 sp true ts vs ds ps
  | [], [], [], _, _, h, _, _ => h
  | t :: ts, v :: vs, d :: ds, _, ht, ⟨p, q, h1, h2, e⟩, hs, hsp => by
    subst e
    have h0 := ht t List.mem_cons_self
    exact ⟨p, q, Go.WideElems.Trod_stays hl h0.1 h0.2 h1 (fun x hx => hs x (List.mem_append_left _ hx)) (fun x hx => hsp x (List.mem_append_left _ hx)),
      trodAll_stays hl (fun t h => ht t (List.mem_cons_of_mem _ h)) h2 (fun x hx => hs x (List.mem_append_right _ hx)) (fun x hx => hsp x (List.mem_append_right _ hx)), rfl⟩
theorem post_true {f : Func} {s : ChangeSpec} {apart fresh handsOn again : Bool} {W W' : World} {args : Array Value} {ds : List (DataW H)} {before : List MemPlace} {S K : Nat → Prop} {M' : Tags}
    (hl : laidOutB P = true) (hv : s.vars = []) (hrd : ∀ t ∈ f.params.toList, P.readableRec t = true ∧ t < P.types.size) {tb : TypeId} (htb : P.underlying tb = some .bool) (hrt : f.resultTypes = #[tb])
    (hW : DataW.Whole enc P f.params.toList s.vars apart W args.toList ds [] before) (hres : (s.fn H (ds ++ [])).results = [.lit (.bool true)]) (hargs : (s.fn H (ds ++ [])).args = ds) (hvars : (s.fn H (ds ++ [])).vars = [])
    (le : Le S K W pubs W' M') : s.post enc P f apart fresh handsOn again W args (.bool true) W' := by
  have hW0 := hW
  obtain ⟨p, q, hA, hV, hb, hfz, hn⟩ := hW0
  have hlt := DataW.TrodAll.lt hA
  have hq : q = [] := by rw [hv] at hV; exact (trodVars_none hV).2
  subst hq
  have hbp : before = p := by rw [hb]; simp
  have hre : ∀ (b : Nat) (sp : Nat → Bool) (hd : Bool), DataW.TrodAll enc P W' b sp hd f.resultTypes.toList ((Value.bool true).resultList f.resultTypes.size) (s.fn H (ds ++ [])).results [] := fun b sp hd => by
    rw [hrt, hres]; exact trodAll_mk1 (shut_bool htb true)
  have har : ∀ sp : Nat → Bool, (∀ x ∈ p, sp x.block = true) → DataW.TrodAll enc P W' 0 sp true f.params.toList args.toList (s.fn H (ds ++ [])).args p := fun sp hsp => by
    rw [hargs]; exact trodAll_stays hl hrd hA (fun x hx => le_same le (hlt x hx)) hsp
  have hva : ∀ sp : Nat → Bool, DataW.TrodVars enc P W' sp s.vars (s.fn H (ds ++ [])).vars [] := fun sp => by
    rw [hvars, hv]; exact rfl
  have hok : ∀ (j : Nat) (t : TypeId) (r : Value), f.resultTypes[j]? = some t → ((Value.bool true).resultList f.resultTypes.size)[j]? = some r → Value.okWide P W' .any 0 t r := by
    exact ok_one (by rw [hrt]) rfl (okWide_bool_mk htb true)
  refine ⟨ds, [], before, [], p, [], hW, hre _ _ _, har _ (fun x hx => by simpa using hlt x hx), hva _, World.keptBut_mono (fun x hx => hx) (le_kept le _), fun _ => ?_⟩
  refine ⟨hok, _, _, ([] ++ p) ++ [], ⟨[] ++ p, [], trodAll_append (har _ (fun _ _ => rfl)) (hre _ _ _), hva _, rfl, ?_, ?_⟩, ?_⟩
  · intro b off hp
    have hp' : MemPlace.cell b off ∈ p := by simpa using hp
    rw [le_frozen le (hlt _ hp')]
    exact hfz b off (by rw [hbp]; exact hp')
  · intro ha
    have := hn ha
    rw [hbp] at this
    simpa using this
  · intro x hx _
    rw [hbp]
    simpa using hx
end
end Go.T

namespace Go.Proofs.YtjjndkenddigiaaDoor
open Go Go.T Go.RowKit Go.ChangeShapes Go.WideShapes Go.ChangeAt
abbrev laidL : List (String × DataW Unit) := [("math/bits.deBruijn32tab", Rows.laid_math_bits_deBruijn32tab), ("math/bits.deBruijn64tab", Rows.laid_math_bits_deBruijn64tab), ("internal/strconv.uint64pow10", Rows.laid_internal_strconv_uint64pow10)]
theorem gPow : Tryd.prog.globalNamed "internal/strconv.uint64pow10" = some 0 := by kernel_rfl
theorem tPow : (Tryd.prog.globals[0]?).map (·.type) = some 173 := by kernel_rfl
theorem uPow : Tryd.prog.underlying 173 = some (.array 20 163) := by kernel_rfl
theorem uPowE : Tryd.prog.underlying 163 = some (.int .u64) := by kernel_rfl
theorem arr_cells {H : Type} {enc : TypeId × Value → H} {W : World} {base : Nat} {spare : Nat → Bool} {held : Bool} {m n t : Nat} {k : IntKind} {cs : List Value} {xs : List (DataW H × List MemPlace)} {zs : List Int} (hE : Tryd.prog.underlying t = some (.int k)) (hc : Tryd.prog.cellsOf t = 1) (hlen : cs.length = n) (hxl : xs.length = n) (hzl : zs.length = n)
    (hel : ∀ i, i < n → DataW.trod enc Tryd.prog W base spare held m t ((cs.drop (i * Tryd.prog.cellsOf t)).take (Tryd.prog.cellsOf t)) = xs[i]?) (hx : xs.map (·.1) = zs.map fun z => .lit (.int k z)) : cs = zs.map fun z => .int k z := by
  apply List.ext_getElem (by simp [hlen, hzl])
  intro i h1 h2
  have hi : i < n := by omega
  have h := hel i hi
  rw [hc, Nat.mul_one, List.drop_eq_getElem_cons h1, List.take_succ_cons, List.take_zero, List.getElem?_eq_getElem (by omega)] at h
  obtain ⟨z, e1, e2, _⟩ := DataW.trod_int hE h
  have e3 : (xs.map (·.1))[i]? = some (.lit (.int k z)) := by rw [List.getElem?_map, List.getElem?_eq_getElem (by omega), e2]; rfl
  rw [hx, List.getElem?_map, List.getElem?_eq_getElem (by omega)] at e3
  simp only [Option.map_some, Option.some.injEq, DataW.lit.injEq, Lit.int.injEq, true_and] at e3
  have e4 : cs[i] = .int k z := by injection e1
  rw [e4, List.getElem_map, e3]
set_option maxRecDepth 100000 in
theorem amb_of {W : World} (h : laidMetH Tryd.prog laidL W) : Amb W pubs := by
  rw [MakeChecks.laidMetH_plain _ _ _ (by kernel_rfl)] at h
  obtain ⟨ps, ⟨_, _, _, _, _, _, _, _, _, _, ⟨_, _, _, _, _, _, _, _, _, _, ⟨g, t, cs, fu, p, q, hg, ht, hv, hd, _, _⟩, _⟩, _⟩, _⟩ := h
  obtain rfl := Option.some.inj (gPow.symm.trans hg)
  obtain rfl := Option.some.inj (tPow.symm.trans ht)
  obtain ⟨xs, m, _, hx, hlen, hn, hel⟩ := DataW.trod_array uPow hd
  have hE : Tryd.prog.cellsOf 163 = 1 := by kernel_rfl
  have hA : Tryd.prog.cellsOf 173 = 20 := by kernel_rfl
  simp only [Prod.mk.injEq] at hx
  have hcs : cs.toList = Lib.pow10Tab.map fun z => Value.int .u64 z := arr_cells uPowE hE (hlen.trans hA) hn rfl hel (by
    have h1 := hx.1
    injection h1 with h1
    exact h1.symm)
  intro x hx
  rw [List.mem_singleton.1 hx]
  refine ⟨rfl, ?_⟩
  simp only [World.var?, gPow, Option.bind_some] at hv
  split at hv
  · rename_i c T z hh
    injection hv with hv
    subst hv
    refine ⟨T, z, ?_⟩
    rw [hh]
    congr 2
    rw [← hcs]
  · cases hv
set_option maxRecDepth 100000 in
theorem door_met (os : Os) (args : Array Value) : laidMetH Tryd.prog laidL ((World.doorLaid Tryd.prog 2000 os).forCall (fun _ _ => 0) ⟨#[], args, []⟩).memory :=
  laidMetH_of_parts3 (fuel := 40) (laidMet_of_run' 40 (by kernel_rfl) (by kernel_rfl)) (by kernel_rfl) (by kernel_rfl)
section
variable {H : Type} {enc : TypeId × Value → H} {W : World} {base : Nat} {held : Bool} {v : Value} {d : DataW H} {p : List MemPlace}
end
end Go.Proofs.YtjjndkenddigiaaDoor

namespace Go.Proofs.YtjjndkenddigiaaDoor
open Go Go.T Go.RowKit Go.ChangeShapes Go.WideShapes Go.ChangeAt
theorem rdU8n : Rd Tryd.prog 5 U8 := ⟨by kernel_rfl, by decide, fun h => by
  obtain ⟨i, rfl, _⟩ := DataW.trod_int Tryd.underlying5 h
  exact ⟨i, rfl, trivial⟩⟩
section
variable {H : Type} {enc : TypeId × Value → H} {W : World} {base : Nat} {held : Bool} {v : Value} {d : DataW H} {p : List MemPlace}
set_option maxRecDepth 100000 in
theorem rd_u8 (hv : Value.okWide Tryd.prog W .any base 5 v) (h : DataW.Trod enc Tryd.prog W 0 (fun _ => true) held 5 v d p) : ∃ n : Int, (0 ≤ n ∧ n ≤ 255) ∧ (Ty.int .u8 n).den W pubs v := by
  obtain ⟨n, rfl, _, _, hw⟩ := open_int Tryd.underlying5 hv h
  refine ⟨n, ?_, rfl⟩
  simp [Lit.wf, IntKind.wrap] at hw
  have e1 : IntKind.u8.min = 0 := rfl
  have e2 : IntKind.u8.max = 255 := rfl
  omega
set_option maxRecDepth 100000 in
theorem rd_u16 (hv : Value.okWide Tryd.prog W .any base 51 v) (h : DataW.Trod enc Tryd.prog W 0 (fun _ => true) held 51 v d p) : ∃ n : Int, (0 ≤ n ∧ n ≤ 65535) ∧ (Ty.int .u16 n).den W pubs v := by
  obtain ⟨n, rfl, _, _, hw⟩ := open_int Tryd.underlying51 hv h
  refine ⟨n, ?_, rfl⟩
  simp [Lit.wf, IntKind.wrap] at hw
  have e1 : IntKind.u16.min = 0 := rfl
  have e2 : IntKind.u16.max = 65535 := rfl
  omega
set_option maxRecDepth 100000 in
theorem rd_sack (hv : Value.okWide Tryd.prog W .any base 27 v) (h : DataW.Trod enc Tryd.prog W 0 (fun _ => true) held 27 v d p) : ∃ l, (Ty.sl U8 l).den W pubs v := by
  obtain ⟨a, len, cap, rfl⟩ := okWide_slice Tryd.underlying27 hv
  obtain ⟨n, hn⟩ := h
  exact rd_sl1 rdU8n Tryd.underlying27 (by simpa [Value.cells] using hn)
end
end Go.Proofs.YtjjndkenddigiaaDoor
