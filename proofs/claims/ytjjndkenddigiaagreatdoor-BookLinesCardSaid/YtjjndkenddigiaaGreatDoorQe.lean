/- Lemmas: the program and the reference walked, plain laws. -/
import Derived.Test.YtjjndkenddigiaaGreatDoorQd
namespace Go.Proofs.YtjjndkenddigiaaGreatDoor
open Go Go.T
set_option maxHeartbeats 2000000
theorem ten_0 : (1 : Int) = ten ((0 : Nat) : Int) := rfl
theorem ten_s {k : Int} (h : 0 ≤ k) : ten k * 10 = ten (k + 1) := by rw [ten_next h]; omega
theorem ent_next (f : BForm) (s : Sk) (k : Nat) : entN f s k ++ [skBelow (skN s (1 + 2 * k + 1)) (skAmong (skN s (1 + 2 * k)) 1 (ten (nth f.widths k)))] = entN f s (k + 1) := (entN_succ f s k).symm
theorem mdS_0 (s : Sk) : skN s (2 + mdC s + 1) = mdS s 0 := by unfold mdS; simp
attribute [local irreducible] skAmong skBelow skRare mdS ten
attribute [local irreducible] dInt dBool dSl dPp dPtr dAgg dTup dClo dAny dEx dStr dGd dCells dVec dVs dRow dOp nth Tri Into TOps Ctr bodyPost Exit.then Exit.inBlock Code.wp Code.wpIn dPa dArr dMp dMap CtrG keepPost iterPost bodyPostM roundQ
set_option maxRecDepth 100000 in
theorem c_limits (w : Int) (h : 1 ≤ w ∧ w ≤ 4) : Ctr Tryz.prog 100 [Ty.int .i64 w] (Ty.int .i64 (ten w)) := by
  refine fn_intro Tryz.func100 rfl (by decide) Tryz.ntmps100 (by exact Nat.le_of_ble_eq_true rfl) fun w0 M0 => ?_
  refine t_seq ?_
  refine t_region ?_
  refine asI rfl ?_
  refine r_nil ?_
  refine i_then ?_
  refine t_seq ?_
  refine t_region ?_
  refine asI rfl ?_
  refine r_nil ?_
  refine i_then ?_
  refine t_seq ?_
  refine t_seq ?_
  refine t_region ?_
  refine mvI rfl ?_
  refine mvI rfl ?_
  refine r_nil ?_
  refine i_then ?_
  refine t_block ?_
  refine t_loop (fun (k : {k : Nat // (k : Int) ≤ w}) => live [(3, Ty.int .i64 (ten ((k.1 : Nat) : Int))), (4, Ty.int .i64 w), (5, Ty.int .i64 (k.1 : Nat))] []) (fun k => w.toNat - k.1) (⟨0, by omega⟩) ?_ fun k => ?_
  · (refine Ent.mk' ?_ ?_ <;> (repeat' (first | exact allSub_zero | exact allTags_nil | refine allSub_succ' ?_ (Ty.sub_any _) | refine allSub_succ' ?_ (Ty.sub_refl _) | refine allSub_succ' ?_ ?_)))
    all_goals exact Ty.sub_int ten_0
  ·
    have hk := k.2
    have ht := ten_small (k := k.1) (by omega)
    refine t_seq ?_
    refine t_region ?_
    refine r_bin rfl rfl rfl ?_
    refine r_nil ?_
    refine i_then ?_
    refine t_seq ?_
    refine t_cond_dec rfl (fun hc1 => ?_) (fun hc1 => ?_)
    ·
      refine t_skip ?_
      refine i_then ?_
      refine t_seq ?_
      refine t_block ?_
      refine t_region ?_
      refine mvI rfl ?_
      refine r_mul rfl rfl (by omega) (by omega) ?_
      refine asI rfl ?_
      refine r_nil ?_
      refine i_block ?_
      refine i_then ?_
      refine t_region ?_
      refine r_add rfl rfl (by omega) (by omega) ?_
      refine mvI rfl ?_
      refine r_nil ?_
      refine i_round (⟨k.1 + 1, by omega⟩) ?_ (by show w.toNat - (k.1 + 1) < w.toNat - k.1; omega)
      (refine Ent.mk' ?_ ?_ <;> (repeat' (first | exact allSub_zero | exact allTags_nil | refine allSub_succ' ?_ (Ty.sub_any _) | refine allSub_succ' ?_ (Ty.sub_refl _) | refine allSub_succ' ?_ ?_)))
      all_goals skip
      all_goals exact Ty.sub_int ((ten_s (k := ((k.1 : Nat) : Int)) (by omega)).trans (congrArg ten (Int.natCast_add k.1 1).symm))
    ·
      refine t_exit ?_
      refine i_then_exit ?_
      refine i_then_exit ?_
      refine i_block_exit rfl ?_
      refine i_then ?_
      refine t_seq ?_
      refine t_region ?_
      refine mvI rfl ?_
      refine asI rfl ?_
      refine r_nil ?_
      refine i_then ?_
      refine t_ret ?_
      refine i_rp1 rfl rfl ?_
      all_goals skip
      have hw : ((k.1 : Nat) : Int) = w := by omega
      exact ret_eq rfl rfl (congrArg (fun x => Ty.int .i64 (ten x)) hw)
set_option maxRecDepth 100000 in
theorem c_Entry (f : BForm) (hf : FormOk f) (s : Sk) (hs : s.Ok 20) : CtrG Tryz.prog 46 [1000] [(1000, Cont.cells 147 (skTys s))] [Ty.ptr 1000 0, frmT f] [(1000, Cont.cells 147 (skTys (skN s (stp f))))] (rowT (entR f s)) := by
  refine fnG_intro Tryz.func46 rfl (by decide) Tryz.ntmps46 (by exact Nat.le_of_ble_eq_true rfl) fun w0 M0 => ?_
  have hfw := hf.n2
  refine t_seq ?_
  refine t_region ?_
  refine r_box_agg rfl ?_
  refine r_alloc rfl (by exact List.cons_ne_nil _ _) rfl ?_
  refine r_nil ?_
  refine i_then ?_
  refine t_seq ?_
  refine t_region ?_
  refine mvO rfl ?_
  refine r_callG [(1000, 1000)] [] [(1000, Cont.cells 147 (skTys (skN s 1)))] (c_Rare s (skN_ok (k := 0) hs (by omega)) 5) rfl rfl (by repeat (first | exact cv_nil | refine cv_cons ?_ ?_ | exact cv_ptr List.mem_cons_self | exact cv_pub rfl rfl)) (pre_cons (a := 1000) (b := 1000) (by exact List.mem_cons_self) rfl (cc_cells_eq (by exact List.mem_cons_self) rfl rfl rfl) pre_nil) (post_cons (a := 1000) (b := 1000) (by exact List.mem_cons_self) rfl (cc_cells_eq (by exact List.mem_cons_self) rfl rfl rfl) post_nil) (cv_pub rfl rfl) ?_
  refine r_build rfl rfl (by exact List.cons_ne_nil _ _) rfl (by repeat (first | exact (Parts.nil : Parts _ _ [] _) | (show Parts _ _ ((_, _) :: _) _; apply Parts.one; (· exact (rfl : _ = Ty.bool _)); (· exact rfl)))) (by exact (rfl : _ = some [_, _])) ?_
  refine r_alloc rfl (by exact List.cons_ne_nil _ _) rfl ?_
  refine r_storeN rfl rfl (by decide) rfl rfl rfl rfl rfl rfl ?_
  refine r_nil ?_
  refine i_then ?_
  refine t_seq ?_
  refine t_seq ?_
  refine t_region ?_
  refine r_field_pp rfl rfl rfl rfl rfl (by decide) ?_
  refine r_load_pp rfl rfl rfl rfl ?_
  refine r_len rfl rfl rfl ?_
  refine mvI rfl ?_
  refine r_nil ?_
  refine i_then ?_
  refine t_block ?_
  refine t_loop (fun (k : {k : Nat // k ≤ f.widths.length}) => live [(0, Ty.ptr 1000 0), (3, Ty.pp (frmTys f)), (4, Ty.ptr 5 0), (5, Ty.ptr 6 0), (13, Ty.sl I64 f.widths), (14, Ty.int .i64 f.widths.length), (15, Ty.int .i64 (k.1 : Nat))] [(5, Cont.cells 66 [Ty.ex (.slice none 0 0), Ty.bool false]), (6, Cont.cells 66 [Ty.row I64 3 30 (entN f s k.1), Ty.bool (skRare s 5)]), (1000, Cont.cells 147 (skTys (skN s (1 + 2 * k.1))))]) (fun k => f.widths.length - k.1) (⟨0, by omega⟩) ?_ fun k => ?_
  · (refine Ent.mk' ?_ ?_ <;> (repeat' (first | exact allSub_zero | exact allTags_nil | exact subs_nil | refine allSub_succ' ?_ (Ty.sub_any _) | refine allSub_succ' ?_ (Ty.sub_refl _) | refine allTags_cons rfl (Cont.sub_refl _) ?_ | refine allTags_cons rfl (Cont.sub_subs ?_) ?_ | refine subs_cons ?_ (Ty.sub_refl _) | refine subs_cons ?_ Ty.nil_row)))
    all_goals trace_state
  ·
    have hk := k.2
    have hel := entN_len f s k.1
    refine t_seq ?_
    refine t_region ?_
    refine r_bin rfl rfl rfl ?_
    refine r_nil ?_
    refine i_then ?_
    refine t_seq ?_
    refine t_cond_dec rfl (fun hc1 => ?_) (fun hc1 => ?_)
    ·
      refine t_skip ?_
      refine i_then ?_
      refine t_seq ?_
      refine t_block ?_
      refine t_seq ?_
      have hw := nth_wid hf (c := k.1) (by omega)
      have ht := ten_small (k := (nth f.widths k.1).toNat) (by omega)
      rw [Int.toNat_of_nonneg (by omega)] at ht
      refine t_region ?_
      refine r_index_slN rfl rfl rfl rfl rfl rfl (by omega) ?_
      refine r_load_pp rfl rfl rfl rfl ?_
      refine asI rfl ?_
      refine r_nil ?_
      refine i_then ?_
      refine t_seq ?_
      refine t_region ?_
      refine mvI rfl ?_
      refine r_call (c_limits _ hw) rfl rfl rfl rfl rfl ?_
      refine asI rfl ?_
      refine r_nil ?_
      refine i_then ?_
      refine t_draw mixed rfl ?_
      refine r_field_ptr rfl rfl rfl rfl rfl (by decide) ?_
      refine r_load_ptr rfl rfl (by decide) rfl rfl rfl ?_
      refine mvO rfl ?_
      refine mvO rfl ?_
      refine mvI rfl ?_
      refine r_callG [(1000, 1000)] [] [(1000, Cont.cells 147 (skTys (skN s (1 + 2 * k.1 + 1))))] (c_Among (skN s (1 + 2 * k.1)) (skN_ok hs (by omega)) 1 (ten (nth f.widths k.1)) (by omega) (by omega)) rfl rfl (by repeat (first | exact cv_nil | refine cv_cons ?_ ?_ | exact cv_ptr List.mem_cons_self | exact cv_pub rfl rfl)) (pre_cons (a := 1000) (b := 1000) (by exact List.mem_cons_self) rfl (cc_cells_eq (by exact List.mem_cons_self) rfl rfl rfl) pre_nil) (post_cons (a := 1000) (b := 1000) (by exact List.mem_cons_self) rfl (cc_cells_eq (by exact List.mem_cons_self) rfl rfl rfl) post_nil) (cv_pub rfl rfl) ?_
      refine r_callG [(1000, 1000)] [] [(1000, Cont.cells 147 (skTys (skN s (1 + 2 * (k.1 + 1)))))] (c_Below (skN s (1 + 2 * k.1 + 1)) (skN_ok hs (by omega)) (skAmong (skN s (1 + 2 * k.1)) 1 (ten (nth f.widths k.1)))) rfl rfl (by repeat (first | exact cv_nil | refine cv_cons ?_ ?_ | exact cv_ptr List.mem_cons_self | exact cv_pub rfl rfl)) (pre_cons (a := 1000) (b := 1000) (by exact List.mem_cons_self) rfl (cc_cells_eq (by exact List.mem_cons_self) rfl rfl rfl) pre_nil) (post_cons (a := 1000) (b := 1000) (by exact List.mem_cons_self) rfl (cc_cells_eq (by exact List.mem_cons_self) rfl rfl rfl) post_nil) (cv_pub rfl rfl) ?_
      refine r_buildSlice (E := I64) (xs := [skBelow (skN s (1 + 2 * k.1 + 1)) (skAmong (skN s (1 + 2 * k.1)) 1 (ten (nth f.widths k.1)))]) rfl rfl rfl rfl rfl (by decide) (by decide) (by repeat (first | exact (Parts.nil : Parts _ _ [] _) | (show Parts _ _ ((_, _) :: _) _; apply Parts.one; (· exact (rfl : _ = Ty.int _ _)); (· exact rfl)))) (by exact rfl) rfl ?_
      refine r_append rfl rfl (by decide) rfl rfl rfl rfl rfl rfl (by decide) (by (simp <;> omega)) (by (simp <;> omega)) ?_
      refine r_field_ptr rfl rfl rfl rfl rfl (by decide) ?_
      refine r_store1 rfl rfl (by decide) rfl rfl (by exact (rfl : _ = Ty.row _ _ _ _)) rfl (by exact Nat.le_of_ble_eq_true rfl) rfl rfl (by exact rfl) ?_
      refine r_nil ?_
      refine ⟨by kernel_rfl, ?_⟩
      refine i_block ?_
      refine i_then ?_
      refine t_region ?_
      refine r_add rfl rfl (by omega) (by omega) ?_
      refine mvI rfl ?_
      refine r_nil ?_
      refine i_round (⟨k.1 + 1, by omega⟩) ?_ (by show f.widths.length - (k.1 + 1) < f.widths.length - k.1; omega)
      (refine Ent.mk' ?_ ?_ <;> (repeat' (first | exact allSub_zero | exact allTags_nil | exact subs_nil | refine allSub_succ' ?_ (Ty.sub_any _) | refine allSub_succ' ?_ (Ty.sub_refl _) | refine allTags_cons rfl (Cont.sub_refl _) ?_ | refine allTags_cons rfl (Cont.sub_subs ?_) ?_ | refine subs_cons ?_ (Ty.sub_refl _) | refine subs_cons ?_ ?_)))
      all_goals skip
      all_goals exact Ty.sub_row (ent_next f s k.1)
    ·
      refine t_exit ?_
      refine i_then_exit ?_
      refine i_then_exit ?_
      refine i_block_exit rfl ?_
      refine i_then ?_
      refine t_seq ?_
      refine t_pubC (tg := 30) [] [(6, Cont.cells 66 (BRowE.tys (entR f s)))] (by decide) rfl trivial ⟨pubC_cells rfl rfl ⟨pubTy_row_eq (by show entN f s k.1 = entN f s f.widths.length; rw [show k.1 = f.widths.length by omega]), pubTy_same rfl, trivial⟩, trivial⟩ ?_
      refine t_region ?_
      refine r_load_ptrN rfl rfl (by decide) rfl rfl (by exact Nat.le_of_ble_eq_true rfl) ?_
      refine r_storeN rfl rfl (by decide) rfl rfl rfl rfl rfl rfl ?_
      refine r_nil ?_
      refine i_then ?_
      refine t_ret ?_
      refine g_rcell [1000] rfl rfl rfl rfl (by decide) rfl rfl rfl (by decide) ?_ ?_
      exact rc_cons rfl (cc_cells_eq (by decide) rfl rfl (by rw [show k.1 = f.widths.length by omega]; rfl)) rc_nil
      all_goals exact rg_cv (cv_pub rfl rfl)
      all_goals trace_state
attribute [local irreducible] entR
set_option maxRecDepth 100000 in
theorem c_Made (s : Sk) (hs : s.Ok 200) (n : Int) (hn : 0 ≤ n ∧ n ≤ 12) : CtrG Tryz.prog 44 [1000] [(1000, Cont.cells 147 (skTys s))] [Ty.ptr 1000 0, Ty.int .i64 n] [] (bokT (mdB s n)) := by
  refine fnG_intro Tryz.func44 rfl (by decide) Tryz.ntmps44 (by exact Nat.le_of_ble_eq_true rfl) fun w0 M0 => ?_
  have hc := mdC_bnd s
  have hci := mdC_int s
  have hni := mdN_int s n
  have hnb := mdN_bnd s hn.1
  have hff := mdF_ok s
  have hst : stp (mdF s) = 1 + 2 * mdC s := by unfold stp; rw [mdF_wid]
  refine t_seq ?_
  refine t_region ?_
  refine r_alloc rfl (by exact List.cons_ne_nil _ _) rfl ?_
  refine r_nil ?_
  refine i_then ?_
  refine t_seq ?_
  refine t_region ?_
  refine mvO rfl ?_
  refine r_callG [(1000, 1000)] [] [(1000, Cont.cells 147 (skTys (skN s 1)))] (c_Among s (skN_ok (k := 0) hs (by omega)) 1 6 (by decide) (by decide)) rfl rfl (by repeat (first | exact cv_nil | refine cv_cons ?_ ?_ | exact cv_ptr List.mem_cons_self | exact cv_pub rfl rfl)) (pre_cons (a := 1000) (b := 1000) (by exact List.mem_cons_self) rfl (cc_cells_eq (by exact List.mem_cons_self) rfl rfl rfl) pre_nil) (post_cons (a := 1000) (b := 1000) (by exact List.mem_cons_self) rfl (cc_cells_eq (by exact List.mem_cons_self) rfl rfl rfl) post_nil) (cv_pub rfl rfl) ?_
  refine r_build rfl rfl (by exact List.cons_ne_nil _ _) rfl (by repeat (first | exact (Parts.nil : Parts _ _ [] _) | (show Parts _ _ ((_, _) :: _) _; apply Parts.one; (· exact (rfl : _ = Ty.int _ _)); (· exact rfl)))) (by exact (rfl : _ = some [_, _])) ?_
  refine r_build rfl rfl (by exact List.cons_ne_nil _ _) rfl (by repeat (first | exact (Parts.nil : Parts _ _ [] _) | (show Parts _ _ ((_, _) :: _) _; apply Parts.agg; (· exact (rfl : _ = Ty.agg _))))) (by exact (rfl : _ = some [_, _, _])) ?_
  refine r_alloc rfl (by exact List.cons_ne_nil _ _) rfl ?_
  refine r_storeN rfl rfl (by decide) rfl rfl rfl rfl rfl rfl ?_
  refine r_nil ?_
  refine i_then ?_
  refine t_seq ?_
  refine t_seq ?_
  refine t_region ?_
  refine mvO rfl ?_
  refine r_callG [(1000, 1000)] [] [(1000, Cont.cells 147 (skTys (skN s 2)))] (c_Among (skN s 1) (skN_ok hs (by omega)) 1 4 (by decide) (by decide)) rfl rfl (by repeat (first | exact cv_nil | refine cv_cons ?_ ?_ | exact cv_ptr List.mem_cons_self | exact cv_pub rfl rfl)) (pre_cons (a := 1000) (b := 1000) (by exact List.mem_cons_self) rfl (cc_cells_eq (by exact List.mem_cons_self) rfl rfl rfl) pre_nil) (post_cons (a := 1000) (b := 1000) (by exact List.mem_cons_self) rfl (cc_cells_eq (by exact List.mem_cons_self) rfl rfl rfl) post_nil) (cv_pub rfl rfl) ?_
  refine mvI rfl ?_
  refine r_nil ?_
  refine i_then ?_
  refine t_block ?_
  refine t_loop (fun (k : {k : Nat // k ≤ mdC s}) => live [(0, Ty.ptr 1000 0), (1, Ty.int .i64 n), (4, Ty.ptr 5 0), (5, Ty.ptr 6 0), (11, Ty.int .i64 (mdC s : Nat)), (12, Ty.int .i64 (k.1 : Nat))] [(5, Cont.cells 27 [Ty.ex (.slice none 0 0), Ty.int .i64 0, Ty.ex (.slice none 0 0)]), (6, Cont.cells 27 [Ty.row I64 3 21 (mdW s k.1), Ty.int .i64 (skAmong s 1 6), Ty.ex (.slice none 0 0)]), (1000, Cont.cells 147 (skTys (skN s (2 + k.1))))]) (fun k => mdC s - k.1) (⟨0, by omega⟩) ?_ fun k => ?_
  · (refine Ent.mk' ?_ ?_ <;> (repeat' (first | exact allSub_zero | exact allTags_nil | exact subs_nil | refine allSub_succ' ?_ (Ty.sub_any _) | refine allSub_succ' ?_ (Ty.sub_refl _) | refine allTags_cons rfl (Cont.sub_refl _) ?_ | refine allTags_cons rfl (Cont.sub_subs ?_) ?_ | refine subs_cons ?_ (Ty.sub_refl _) | refine subs_cons ?_ Ty.nil_row | refine allSub_succ' ?_ ?_)))
    all_goals exact Ty.sub_int hci.symm
  ·
    have hk := k.2
    have hwl := mdW_len s k.1
    refine t_seq ?_
    refine t_region ?_
    refine r_bin rfl rfl rfl ?_
    refine r_nil ?_
    refine i_then ?_
    refine t_seq ?_
    refine t_cond_dec rfl (fun hc1 => ?_) (fun hc1 => ?_)
    ·
      refine t_skip ?_
      refine i_then ?_
      refine t_seq ?_
      refine t_block ?_
      refine t_draw mixed rfl ?_
      refine r_field_ptr rfl rfl rfl rfl rfl (by decide) ?_
      refine r_field_ptr rfl rfl rfl rfl rfl (by decide) ?_
      refine r_load_ptr rfl rfl (by decide) rfl rfl rfl ?_
      refine mvO rfl ?_
      refine r_callG [(1000, 1000)] [] [(1000, Cont.cells 147 (skTys (skN s (2 + (k.1 + 1)))))] (c_Among (skN s (2 + k.1)) (skN_ok hs (by omega)) 1 4 (by decide) (by decide)) rfl rfl (by repeat (first | exact cv_nil | refine cv_cons ?_ ?_ | exact cv_ptr List.mem_cons_self | exact cv_pub rfl rfl)) (pre_cons (a := 1000) (b := 1000) (by exact List.mem_cons_self) rfl (cc_cells_eq (by exact List.mem_cons_self) rfl rfl rfl) pre_nil) (post_cons (a := 1000) (b := 1000) (by exact List.mem_cons_self) rfl (cc_cells_eq (by exact List.mem_cons_self) rfl rfl rfl) post_nil) (cv_pub rfl rfl) ?_
      refine r_buildSlice (E := I64) (xs := [skAmong (skN s (2 + k.1)) 1 4]) rfl rfl rfl rfl rfl (by decide) (by decide) (by repeat (first | exact (Parts.nil : Parts _ _ [] _) | (show Parts _ _ ((_, _) :: _) _; apply Parts.one; (· exact (rfl : _ = Ty.int _ _)); (· exact rfl)))) (by exact rfl) rfl ?_
      refine r_append rfl rfl (by decide) rfl rfl rfl rfl rfl rfl (by decide) (by (simp <;> omega)) (by (simp <;> omega)) ?_
      refine r_field_ptr rfl rfl rfl rfl rfl (by decide) ?_
      refine r_field_ptr rfl rfl rfl rfl rfl (by decide) ?_
      refine r_store1 rfl rfl (by decide) rfl rfl (by exact (rfl : _ = Ty.row _ _ _ _)) rfl (by exact Nat.le_of_ble_eq_true rfl) rfl rfl (by exact rfl) ?_
      refine r_nil ?_
      refine ⟨by kernel_rfl, ?_⟩
      refine i_block ?_
      refine i_then ?_
      refine t_region ?_
      refine r_add rfl rfl (by omega) (by omega) ?_
      refine mvI rfl ?_
      refine r_nil ?_
      refine i_round (⟨k.1 + 1, by omega⟩) ?_ (by show mdC s - (k.1 + 1) < mdC s - k.1; omega)
      (refine Ent.mk' ?_ ?_ <;> (repeat' (first | exact allSub_zero | exact allTags_nil | exact subs_nil | refine allSub_succ' ?_ (Ty.sub_any _) | refine allSub_succ' ?_ (Ty.sub_refl _) | refine allTags_cons rfl (Cont.sub_refl _) ?_ | refine allTags_cons rfl (Cont.sub_subs ?_) ?_ | refine subs_cons ?_ (Ty.sub_refl _) | refine subs_cons ?_ ?_)))
      all_goals skip
      all_goals exact Ty.sub_row (mdW_succ s k.1).symm
    ·
      refine t_exit ?_
      refine i_then_exit ?_
      refine i_then_exit ?_
      refine i_block_exit rfl ?_
      refine i_then ?_
      refine t_seq ?_
      refine t_seq ?_
      refine t_forget (B := live [(0, Ty.ptr 1000 0), (1, Ty.int .i64 n), (4, Ty.ptr 5 0), (5, Ty.ptr 6 0)] [(5, Cont.cells 27 [Ty.ex (.slice none 0 0), Ty.int .i64 0, Ty.ex (.slice none 0 0)]), (6, Cont.cells 27 [Ty.row I64 3 21 (mdW s k.1), Ty.int .i64 (skAmong s 1 6), Ty.ex (.slice none 0 0)]), (1000, Cont.cells 147 (skTys (skN s (2 + k.1))))]) ?_ ?_
      · (refine Ent.mk' ?_ ?_ <;> (repeat' (first | exact allSub_zero | exact allTags_nil | refine allSub_succ' ?_ (Ty.sub_any _) | refine allSub_succ' ?_ (Ty.sub_refl _) | refine allTags_cons rfl (Cont.sub_refl _) ?_)))
      have hkc : k.1 = mdC s := by omega
      refine t_pubC (tg := 21) [] [(6, Cont.cells 27 [Ty.sl I64 (mdF s).widths, Ty.int .i64 (mdF s).lines, Ty.ex (.slice none 0 0)])] (by decide) rfl trivial ⟨pubC_cells rfl rfl ⟨pubTy_row_eq (by rw [hkc]; rfl), pubTy_same rfl, pubTy_same rfl, trivial⟩, trivial⟩ ?_
      refine t_asC (tg := 1000) (D := Cont.cells 147 (skTys (skN s (2 + mdC s)))) rfl (by rw [hkc]; exact Cont.sub_refl _) ?_
      refine t_region ?_
      refine mvO rfl ?_
      refine mvI rfl ?_
      refine r_add rfl rfl (by omega) (by omega) ?_
      refine r_callG [(1000, 1000)] [] [(1000, Cont.cells 147 (skTys (skN s (2 + mdC s + 1))))] (c_Below (skN s (2 + mdC s)) (skN_ok hs (by omega)) (n + 1)) rfl rfl (by repeat (first | exact cv_nil | refine cv_cons ?_ ?_ | exact cv_ptr List.mem_cons_self | exact cv_pub rfl rfl)) (pre_cons (a := 1000) (b := 1000) (by exact List.mem_cons_self) rfl (cc_cells_eq (by exact List.mem_cons_self) rfl rfl rfl) pre_nil) (post_cons (a := 1000) (b := 1000) (by exact List.mem_cons_self) rfl (cc_cells_eq (by exact List.mem_cons_self) rfl rfl rfl) post_nil) (cv_pub rfl rfl) ?_
      refine mvI rfl ?_
      refine r_nil ?_
      refine i_then ?_
      refine t_block ?_
      refine t_loop (fun (j : {j : Nat // j ≤ mdN s n}) => live [(0, Ty.ptr 1000 0), (4, Ty.ptr 5 0), (5, Ty.ptr 6 0), (27, Ty.int .i64 (mdN s n : Nat)), (28, Ty.int .i64 (j.1 : Nat))] [(5, Cont.cells 27 [Ty.ex (.slice none 0 0), Ty.int .i64 0, Ty.ex (.slice none 0 0)]), (6, Cont.cells 27 [Ty.sl I64 (mdF s).widths, Ty.int .i64 (mdF s).lines, Ty.row BRowE 66 38 (mdR s j.1)]), (1000, Cont.cells 147 (skTys (mdS s j.1)))]) (fun j => mdN s n - j.1) (⟨0, by omega⟩) ?_ fun j => ?_
      · (refine Ent.mk' ?_ ?_ <;> (repeat' (first | exact allSub_zero | exact allTags_nil | exact subs_nil | refine allSub_succ' ?_ (Ty.sub_any _) | refine allSub_succ' ?_ (Ty.sub_refl _) | refine allTags_cons rfl (Cont.sub_refl _) ?_ | refine allTags_cons rfl (Cont.sub_subs ?_) ?_ | refine subs_cons ?_ (Ty.sub_refl _) | refine subs_cons ?_ Ty.nil_row | refine subs_cons ?_ ?_ | refine allSub_succ' ?_ ?_)))
        all_goals first | exact Ty.sub_int hni.symm | exact Ty.sub_int (congrArg Sk.mixed (mdS_0 s)) | exact Ty.sub_int (congrArg Sk.taken (mdS_0 s)) | exact Ty.sub_sl (congrArg Sk.grain (mdS_0 s))
      ·
        have hj := j.2
        have hrl := mdR_len s j.1
        have hso : (mdS s j.1).Ok 20 := by
          unfold mdS
          refine skN_ok hs ?_
          rw [hst]
          have h1 : j.1 * (1 + 2 * mdC s) ≤ 12 * 9 := Nat.mul_le_mul (by omega) (by omega)
          omega
        refine t_seq ?_
        refine t_region ?_
        refine r_bin rfl rfl rfl ?_
        refine r_nil ?_
        refine i_then ?_
        refine t_seq ?_
        refine t_cond_dec rfl (fun hc2 => ?_) (fun hc2 => ?_)
        ·
          refine t_skip ?_
          refine i_then ?_
          refine t_seq ?_
          refine t_block ?_
          refine t_draw mixed rfl ?_
          refine r_field_ptr rfl rfl rfl rfl rfl (by decide) ?_
          refine r_load_ptr rfl rfl (by decide) rfl rfl rfl ?_
          refine mvO rfl ?_
          refine r_field_ptr rfl rfl rfl rfl rfl (by decide) ?_
          refine r_load_ptrN rfl rfl (by decide) rfl rfl (by exact Nat.le_of_ble_eq_true rfl) ?_
          refine r_callG (res' := rowT (entR (mdF s) (mdS s j.1))) [(1000, 1000)] [] [(1000, Cont.cells 147 (skTys (mdS s (j.1 + 1))))] (c_Entry (mdF s) hff (mdS s j.1) hso) rfl rfl (cv_cons (cv_cons cv_nil (cv_pub rfl rfl)) (cv_ptr (by exact List.mem_cons_self))) (pre_cons (a := 1000) (b := 1000) (by exact List.mem_cons_self) rfl (cc_cells_eq (by exact List.mem_cons_self) rfl rfl rfl) pre_nil) (post_cons (a := 1000) (b := 1000) (by exact List.mem_cons_self) rfl (cc_cells_eq (by exact List.mem_cons_self) rfl rfl (by rw [mdS_succ])) post_nil) (cv_pub rfl rfl) ?_
          refine r_buildSlice (E := BRowE) (xs := [entR (mdF s) (mdS s j.1)]) rfl rfl rfl rfl rfl (by decide) (by decide) (by repeat (first | exact (Parts.nil : Parts _ _ [] _) | (show Parts _ _ ((_, _) :: _) _; apply Parts.agg; (· exact (rfl : _ = Ty.agg _))))) (by exact rfl) rfl ?_
          refine r_append rfl rfl (by decide) rfl rfl rfl rfl rfl rfl (by decide) (by (simp <;> omega)) (by (simp <;> omega)) ?_
          refine r_field_ptr rfl rfl rfl rfl rfl (by decide) ?_
          refine r_store1 rfl rfl (by decide) rfl rfl (by exact (rfl : _ = Ty.row _ _ _ _)) rfl (by exact Nat.le_of_ble_eq_true rfl) rfl rfl (by exact rfl) ?_
          refine r_nil ?_
          refine ⟨by kernel_rfl, ?_⟩
          refine i_block ?_
          refine i_then ?_
          refine t_region ?_
          refine r_add rfl rfl (by omega) (by omega) ?_
          refine mvI rfl ?_
          refine r_nil ?_
          refine i_round (⟨j.1 + 1, by omega⟩) ?_ (by show mdN s n - (j.1 + 1) < mdN s n - j.1; omega)
          (refine Ent.mk' ?_ ?_ <;> (repeat' (first | exact allSub_zero | exact allTags_nil | exact subs_nil | refine allSub_succ' ?_ (Ty.sub_any _) | refine allSub_succ' ?_ (Ty.sub_refl _) | refine allTags_cons rfl (Cont.sub_refl _) ?_ | refine allTags_cons rfl (Cont.sub_subs ?_) ?_ | refine subs_cons ?_ (Ty.sub_refl _) | refine subs_cons ?_ ?_)))
          all_goals skip
          all_goals exact Ty.sub_row (mdR_succ s j.1).symm
        ·
          refine t_exit ?_
          refine i_then_exit ?_
          refine i_then_exit ?_
          refine i_block_exit rfl ?_
          refine i_then ?_
          refine t_seq ?_
          refine t_pubC (tg := 38) [] [(6, Cont.cells 27 (bokTys (mdB s n)))] (by decide) rfl trivial ⟨pubC_cells rfl rfl ⟨pubTy_same rfl, pubTy_same rfl, pubTy_row_eq (by rw [show j.1 = mdN s n by omega]; rfl), trivial⟩, trivial⟩ ?_
          refine t_region ?_
          refine r_load_ptrN rfl rfl (by decide) rfl rfl (by exact Nat.le_of_ble_eq_true rfl) ?_
          refine r_storeN rfl rfl (by decide) rfl rfl rfl rfl rfl rfl ?_
          refine r_nil ?_
          refine i_then ?_
          refine t_ret ?_
          refine g_rcell [1000] rfl rfl rfl rfl (by decide) rfl rfl rfl (by decide) ?_ ?_
          exact rc_nil
          all_goals exact rg_cv (cv_pub rfl rfl)
          all_goals trace_state
end Go.Proofs.YtjjndkenddigiaaGreatDoor

namespace Go.Proofs.YtjjndkenddigiaaGreatDoor
open Go Go.T
set_option maxHeartbeats 4000000
theorem zr_row {f : BForm} (hf : FormOk f) {r : BRow} (hr : RowOk f r) : Rng r.nums := fun x hx => by
  obtain ⟨c, hc, e⟩ := List.getElem_of_mem hx
  have h := (small_of hf hr).2 c
  rw [show nth r.nums c = x by simp [nth, hc, e]] at h
  omega
theorem zr_of {b : Book} (hb : BookOk b) : ∀ r ∈ b.rows, Rng r.nums := fun r hr => zr_row hb.form (hb.row r hr)
theorem fill_200z (g : List Int) : (skFill g).Ok 200 := by have := skFill_ok g; unfold Sk.Ok at *; omega
theorem c_FootsOk {b : Book} (hb : BookOk b) : Ctr Tryz.prog 17 [bokT b] (Ty.tup [Ty.sl RowE (footL b), Ty.int .i64 0]) := by
  have h := c_Foots b (zr_of hb)
  rwa [show footV b = footL b from if_pos (bokY_zero.2 hb), bokY_zero.2 hb] at h
theorem c_EqualIs {a b : List Int} (h : a = b) : Ctr Tryz.prog 48 [Ty.sl I64 a, Ty.sl I64 b] (Ty.bool true) := by
  have h2 := c_Equal_int a b
  rwa [decide_eq_true h] at h2
theorem mul_72 {f : BForm} (hf : FormOk f) {p : Nat} (hp : p < 12) : 0 ≤ ((p : Int) + 1) * f.lines ∧ ((p : Int) + 1) * f.lines ≤ 72 := by
  have h1 := hf.l1
  have h2 := hf.l2
  exact ⟨Int.mul_nonneg (by omega) (by omega), Int.le_trans (Int.mul_le_mul (show (p : Int) + 1 ≤ 12 by omega) h2 (by omega) (by omega)) (by decide)⟩
attribute [local irreducible] footV footL mdB mdF skFill entR
attribute [local irreducible] dInt dBool dSl dPp dPtr dAgg dTup dClo dAny dEx dStr dGd dCells dVec dVs dRow dOp nth Tri Into TOps Ctr bodyPost Exit.then Exit.inBlock Code.wp Code.wpIn dPa dArr dMp dMap CtrG keepPost iterPost bodyPostM roundQ
end Go.Proofs.YtjjndkenddigiaaGreatDoor

namespace Go.Proofs.YtjjndkenddigiaaGreatDoor
open Go Go.T
end Go.Proofs.YtjjndkenddigiaaGreatDoor

namespace Go.Proofs.YtjjndkenddigiaaGreatDoor
open Go Go.T
theorem print_pos {b : Book} (hb : BookOk b) : 0 < (printB b).length := by
  rw [print_prnt hb]
  cases hr : b.rows with
  | nil => simp [prnt]
  | cons r rs =>
    rw [prnt, if_pos (by have := hb.form.l1; omega), rowB_cols]; simp
end Go.Proofs.YtjjndkenddigiaaGreatDoor

namespace Go.Proofs.YtjjndkenddigiaaGreatDoor
open Go Go.T
set_option maxHeartbeats 4000000
instance : Inhabited Tok := ⟨.row 0⟩
theorem wd_bnd (t : Tok) : 0 ≤ wdT t ∧ wdT t ≤ 2 := by
  cases t with
  | row i => exact ⟨Int.le_refl _, by show (0 : Int) ≤ 2; decide⟩
  | eq i => exact ⟨by show (0 : Int) ≤ 2; decide, Int.le_refl _⟩
  | plus i => exact ⟨by show (0 : Int) ≤ 2; decide, Int.le_refl _⟩
def tksB (b : Book) : List Tok := tksR b.form.lines.toNat b.rows.length ++ [.eq b.rows.length]
def linB (b : Book) : List Byt := (tksB b).map (tokL b.form b.rows)
def enB (b : Book) : List Int := endsL b.form.lines.toNat b.rows.length
def okB (b : Book) (j r p : Nat) : Prop := okT b.form.lines.toNat b.rows.length (enB b) r p ((tksB b).drop j) = true
theorem tks_text {b : Book} (hb : BookOk b) : toksB b.form b.rows (tksB b) = printB b := by
  rw [← ref_print hb]
  unfold tksB
  rw [toksB_app]
  congr 1
  unfold toksB
  rw [List.map_cons, List.map_nil, List.flatten_cons, List.flatten_nil, List.append_nil]
  show 61 :: lineB b.form (b.rows.take b.rows.length) = _
  rw [List.take_length]
theorem ok_first {b : Book} (hb : BookOk b) : okB b 0 0 0 := by
  have hL := lin_pos hb
  have hn := hb.few
  have h := ok_all ⟨b.form.lines.toNat - 1, by omega⟩ ⟨b.rows.length, by omega⟩
  have e : b.form.lines.toNat - 1 + 1 = b.form.lines.toNat := by omega
  simp only [e] at h
  exact h
theorem nm_fit {b : Book} (hb : BookOk b) {t : Tok} (h : ∀ i, t = .row i → i < b.rows.length) : TkOk b.form b.rows t := by
  intro c hc
  have hw := nth_wid hb.form hc
  have h4 := ten_4 hw.2
  cases t with
  | row i =>
    have h1 := (hb.row _ (nth_mem (h i rfl))).num c hc
    have e : nth b.form.widths c + wdT (.row i) = nth b.form.widths c := Int.add_zero _
    rw [e]
    exact ⟨h1.1, h1.2, by show nth (nth b.rows i).nums c ≤ _; omega⟩
  | eq i => have := sum_fits hb.form (take_rows hb i) (take_12 hb i) hc; exact ⟨this.1, this.2.1, by show sumC _ _ ≤ _; omega⟩
  | plus i => have := sum_fits hb.form (take_rows hb i) (take_12 hb i) hc; exact ⟨this.1, this.2.1, by show sumC _ _ ≤ _; omega⟩
theorem nm_all {b : Book} (hb : BookOk b) : ∀ t ∈ tksB b, TkOk b.form b.rows t := fun t ht => nm_fit hb fun i e => ok_mem (ok_first hb) t ht i e
theorem lin_text {b : Book} (hb : BookOk b) : ∃ x l, linB b = x :: l ∧ jn (x :: l) ++ [10] = printB b ∧ ∀ y ∈ x :: l, (10 : UInt8) ∉ y := by
  have hm := nm_all hb
  cases ht : tksB b with
  | nil => simp [tksB] at ht
  | cons t l =>
    refine ⟨tokL b.form b.rows t, l.map (tokL b.form b.rows), by unfold linB; rw [ht]; rfl, ?_, ?_⟩
    · rw [← List.map_cons, jn_toks, ← ht, tks_text hb]
    · intro y hy
      rw [← List.map_cons] at hy
      obtain ⟨u, hu, rfl⟩ := List.mem_map.1 hy
      exact line_no (hm u (by rw [ht]; exact hu))
theorem lin_len (b : Book) : (linB b).length = (tksB b).length := by unfold linB; rw [List.length_map]
theorem lin_nth {b : Book} {j : Nat} (h : j < (tksB b).length) : nth (linB b) j = tokL b.form b.rows (nth (tksB b) j) := by
  unfold linB
  rw [nth_lt (by rw [List.length_map]; exact h), nth_lt h, List.getElem_map]
theorem tks_len {b : Book} (hb : BookOk b) : (tksB b).length ≤ 1000 := by
  have hL := lin_pos hb
  have hn := hb.few
  have key : ∀ L : Fin 6, ∀ n : Fin 13, (tksR (L.1 + 1) n.1 ++ [Tok.eq n.1]).length ≤ 1000 := by decide +kernel
  have h := key ⟨b.form.lines.toNat - 1, by omega⟩ ⟨b.rows.length, by omega⟩
  have e : b.form.lines.toNat - 1 + 1 = b.form.lines.toNat := by omega
  simp only [e] at h
  exact h
theorem c_SplitIs {b : Book} (hb : BookOk b) : Ctr Tryz.prog 59 [Ty.str (bs ((printB b).take ((printB b).length - 1))), Ty.str (bs [10])] (Ty.sl StrE (linB b)) := by
  obtain ⟨x, l, e1, e2, e3⟩ := lin_text hb
  have hl := print_len hb
  have h := c_Split l x e3 (by rw [← e2, List.length_append] at hl; simp at hl; omega)
  rw [e1]
  have e : (printB b).take ((printB b).length - 1) = jn (x :: l) := by
    rw [← e2, List.length_append, List.length_singleton, Nat.add_sub_cancel, List.take_left]
  rw [e]; exact h
theorem c_SuffixIs {b : Book} (hb : BookOk b) : Ctr Tryz.prog 55 [Ty.str (bs (printB b)), Ty.str (bs [10])] (Ty.bool true) := by
  obtain ⟨x, l, e1, e2, e3⟩ := lin_text hb
  have hl := print_len hb
  have h := c_HasSuffix (printB b) [10] (by omega)
  rwa [show (decide (([10] : Byt).length ≤ (printB b).length) && decide ((printB b).drop ((printB b).length - ([10] : Byt).length) = [10])) = true by
    rw [← e2, List.length_append, List.length_singleton, Nat.add_sub_cancel, List.drop_left]; simp] at h
theorem c_PrintOkZ {b : Book} (hb : BookOk b) : Ctr Tryz.prog 16 [bokT b] (Ty.tup [Ty.str (bs (printB b)), Ty.int .i64 0]) := by
  have h := c_Print b (zr_of hb)
  rwa [show printV b = printB b from if_pos (bokY_zero.2 hb), bokY_zero.2 hb] at h
theorem c_fieldT {f : BForm} {rows : List BRow} {t : Tok} (hf : FormOk f) (h : TkOk f rows t) {c : Nat} (hc : c < f.widths.length) : Ctr Tryz.prog 56 [Ty.str (bs (rsT f rows t c)), Ty.int .i64 (nth f.widths c + wdT t)] (Ty.tup [Ty.int .i64 (nmT rows t c), Ty.str (bs (rsT f rows t (c + 1))), Ty.bool true]) := by
  have h1 := h c hc
  have hw := nth_wid hf hc
  have h2 := wd_bnd t
  rw [rs_succ hc]
  exact c_fieldIs _ _ _ h1.1 (by omega) h1.2.1 h1.2.2
theorem ft_ends {b : Book} (hb : BookOk b) {p i : Nat} (h : (enB b)[p]? = some (i : Int)) : p < (footL b).length ∧ nth (footL b) p = sumW b.form.widths.length (b.rows.take i) := by
  have e : (footL b)[p]? = some (sumW b.form.widths.length (b.rows.take i)) := by
    unfold footL
    rw [List.getElem?_map, show (endsL b.form.lines.toNat b.rows.length)[p]? = some (i : Int) from h, sum_take hb.form]; rfl
  refine ⟨(List.getElem?_eq_some_iff.1 e).1, ?_⟩
  unfold nth; rw [List.getD_eq_getElem?_getD, e]; rfl
theorem en_len (b : Book) : (enB b).length = (footL b).length := by unfold footL enB; rw [List.length_map]
theorem ok_drop {b : Book} {j r p : Nat} (h : okB b j r p) (hj : j < (tksB b).length) : okT b.form.lines.toNat b.rows.length (enB b) r p (nth (tksB b) j :: (tksB b).drop (j + 1)) = true := by
  unfold okB at h; rwa [drop_nth hj] at h
theorem ok_step {b : Book} {j r p : Nat} (h : okB b j r p) (hj : j < (tksB b).length) : okB b (j + 1) (nxQ (nth (tksB b) j) r p).1 (nxQ (nth (tksB b) j) r p).2 := (ok_next (ok_drop h hj)).1
theorem ok_fin {b : Book} {j r p : Nat} (h : okB b j r p) (hj : j = (tksB b).length) : r = b.rows.length ∧ p = (footL b).length ∧ (p : Int) = max 1 (((r : Int) + (b.form.lines.toNat : Nat) - 1).tdiv (b.form.lines.toNat : Nat)) := by
  unfold okB at h
  rw [hj, List.drop_length] at h
  have := ok_end h
  rw [en_len] at this
  exact this
theorem tl_0 (f : BForm) (rows : List BRow) (t : Tok) : nth (tokL f rows t) 0 = ldT rows t := rfl
theorem tl_1 (f : BForm) (rows : List BRow) (t : Tok) : (tokL f rows t).drop 1 = rsT f rows t 0 := rfl
theorem tl_p (f : BForm) (rows : List BRow) (t : Tok) : 1 ≤ (tokL f rows t).length := by unfold tokL; simp
theorem tl_e (f : BForm) (rows : List BRow) (t : Tok) : ¬ tokL f rows t = [] := by unfold tokL; simp
theorem wd_2 {rows : List BRow} {t : Tok} (h : (decide (((ldT rows t).toNat : Int) = 61) || decide (((ldT rows t).toNat : Int) = 43)) = true) : 2 = wdT t := by
  rcases ld_bnd rows t with ⟨_, i, rfl⟩ | ⟨_, i, rfl⟩ | ⟨i, rfl, ⟨_, e⟩ | ⟨_, e⟩⟩
  · rfl
  · rfl
  · rw [e] at h; simp at h
  · rw [e] at h; simp at h
theorem wd_0 {rows : List BRow} {t : Tok} (h : (decide (((ldT rows t).toNat : Int) = 61) || decide (((ldT rows t).toNat : Int) = 43)) = false) : 0 = wdT t := by
  rcases ld_bnd rows t with ⟨e, i, rfl⟩ | ⟨e, i, rfl⟩ | ⟨i, rfl, _⟩
  · rw [e] at h; simp at h
  · rw [e] at h; simp at h
  · rfl
theorem ld_row (rows : List BRow) (i : Nat) : (nth rows i).struck = decide (((ldT rows (.row i)).toNat : Int) = 45) ∧ (((ldT rows (.row i)).toNat : Int) = 45 ∨ ((ldT rows (.row i)).toNat : Int) = 32) := by
  show _ = decide ((((if (nth rows i).struck = true then (45 : UInt8) else 32).toNat : Nat) : Int) = 45) ∧ ((((if (nth rows i).struck = true then (45 : UInt8) else 32).toNat : Nat) : Int) = 45 ∨ (((if (nth rows i).struck = true then (45 : UInt8) else 32).toNat : Nat) : Int) = 32)
  cases (nth rows i).struck with
  | true => exact ⟨rfl, .inl rfl⟩
  | false => exact ⟨rfl, .inr rfl⟩
theorem sub_is {rows : List BRow} {t : Tok} {W c : Nat} (h : ¬ wdT t = 0) (hc : c < W) : nmT rows t c = nth (vsT W rows t c) c := by
  rw [vs_nth hc]
  cases t with
  | row i => exact absurd rfl h
  | eq i => rfl
  | plus i => rfl
theorem vs_not {rows : List BRow} {t : Tok} {W c d : Nat} (h : ¬ wdT t = 0) : vsT W rows t c = vsT W rows t d := by
  cases t with
  | row i => exact absurd rfl h
  | eq i => rfl
  | plus i => rfl
theorem c_lettIs {b : Book} (hb : BookOk b) {i : Nat} (hi : i < b.rows.length) : Ctr Tryz.prog 60 [Ty.str (bs ((tokL b.form b.rows (.row i)).take ((tokL b.form b.rows (.row i)).length - 1)))] (Ty.int .u8 ((letB b.form (nth b.rows i)).toNat : Int)) := by
  have hr := hb.row _ (nth_mem hi)
  have h := c_lawLetter _ (lett_ok hb.form hr)
  rw [lett_row hb.form hr] at h
  rw [row_cut, List.length_append, List.length_singleton, Nat.add_sub_cancel, List.take_left]
  exact h
theorem is_eq {rows : List BRow} {t : Tok} (h : ((ldT rows t).toNat : Int) = 61) : ∃ i, t = .eq i := by
  rcases ld_bnd rows t with ⟨_, i, e⟩ | ⟨e, _⟩ | ⟨i, _, ⟨_, e⟩ | ⟨_, e⟩⟩
  · exact ⟨i, e⟩
  · omega
  · omega
  · omega
theorem is_plus {rows : List BRow} {t : Tok} (h : ((ldT rows t).toNat : Int) = 43) : ∃ i, t = .plus i := by
  rcases ld_bnd rows t with ⟨e, _⟩ | ⟨_, i, e⟩ | ⟨i, _, ⟨_, e⟩ | ⟨_, e⟩⟩
  · omega
  · exact ⟨i, e⟩
  · omega
  · omega
theorem is_row {rows : List BRow} {t : Tok} (h1 : ¬ ((ldT rows t).toNat : Int) = 61) (h2 : ¬ ((ldT rows t).toNat : Int) = 43) : ∃ i, t = .row i := by
  rcases ld_bnd rows t with ⟨e, _⟩ | ⟨e, _⟩ | ⟨i, e, _⟩
  · omega
  · omega
  · exact ⟨i, e⟩
theorem fin_page {f : BForm} (hf : FormOk f) {p r : Nat} (h : (p : Int) = max 1 (((r : Int) + (f.lines.toNat : Nat) - 1).tdiv (f.lines.toNat : Nat))) : (p : Int) = max 1 (((r : Int) + f.lines - 1).tdiv f.lines) := by
  have e : ((f.lines.toNat : Nat) : Int) = f.lines := (lin_nat hf).symm
  rwa [e] at h
theorem mul_page {f : BForm} (hf : FormOk f) (p : Nat) : (p : Int) * f.lines = ((p * f.lines.toNat : Nat) : Int) := by
  rw [Int.natCast_mul, ← lin_nat hf]
theorem tl_eq (f : BForm) (rows : List BRow) (i : Nat) : tlT f rows (.eq i) = [] := rfl
theorem tl_plus (f : BForm) (rows : List BRow) (i : Nat) : tlT f rows (.plus i) = [] := rfl
theorem tl_row (f : BForm) (rows : List BRow) (i : Nat) : tlT f rows (.row i) = [letB f (nth rows i)] := rfl
theorem nx_eq (i r p : Nat) : nxQ (.eq i) r p = (r, p + 1) := rfl
theorem nx_plus (i r p : Nat) : nxQ (.plus i) r p = (r, p) := rfl
theorem nx_row (i r p : Nat) : nxQ (.row i) r p = (r + 1, p) := rfl
theorem cut_eq {r n p F : Nat} {m : Int} (h1 : p < F) (h2 : n ≤ r ∨ (r : Int) = m) : (!decide (([] : Byt) = []) || decide ((F : Int) ≤ (p : Int)) || !true || decide ((r : Int) < (n : Int)) && !decide ((r : Int) = m)) = false := by
  rw [decide_eq_false (show ¬ (F : Int) ≤ (p : Int) by omega)]
  rcases h2 with h2 | h2
  · rw [decide_eq_false (show ¬ (r : Int) < (n : Int) by omega)]; rfl
  · rw [decide_eq_true h2]; simp
theorem cut_let (x : UInt8) : (!decide ((([x] : Byt).length : Int) = 1) || !decide (((nth ([x] : Byt) 0).toNat : Int) = (x.toNat : Int))) = false := by
  rw [show nth ([x] : Byt) 0 = x from rfl]; simp
theorem let_one (x : UInt8) : 0 < ([x] : Byt).length := Nat.one_pos
theorem row_len {b : Book} (hb : BookOk b) {i : Nat} (hi : i < b.rows.length) : (tokL b.form b.rows (.row i)).length ≤ 200 := by
  have h := rwP_len hb.form (hb.row _ (nth_mem hi)) (Nat.le_refl _)
  have := hb.form.n2
  rw [row_cut, List.length_append, List.length_singleton]; omega
theorem nm_row (rows : List BRow) (i c : Nat) : nmT rows (.row i) c = nth (nth rows i).nums c := rfl
theorem fin_wrap {a b : Int} (h : 0 ≤ a ∧ a ≤ 1000) (hb : 1 ≤ b) : IntKind.i64.wrap (a.tdiv b) = a.tdiv b := by
  have h1 := Int.tdiv_nonneg h.1 (show 0 ≤ b by omega)
  have h2 := Int.tdiv_le_self b h.1
  exact IntWalk.i64_in _ (by omega)
attribute [local irreducible] tksB linB enB okB tokL rsT ldT wdT nmT tlT vsT okT printB footL mdB skFill letB sumW sumC nxQ
attribute [local irreducible] dInt dBool dSl dPp dPtr dAgg dTup dClo dAny dEx dStr dGd dCells dVec dVs dRow dOp nth Tri Into TOps Ctr bodyPost Exit.then Exit.inBlock Code.wp Code.wpIn dPa dArr dMp dMap CtrG keepPost iterPost bodyPostM roundQ
set_option maxRecDepth 100000 in
theorem c_BookLines (g : List Int) : Ctr Tryz.prog 8 [Ty.sl U8 g] (Ty.bool true) := by
  refine fn_intro Tryz.func8 rfl (by decide) Tryz.ntmps8 (by exact Nat.le_of_ble_eq_true rfl) fun w0 M0 => ?_
  refine t_seq ?_
  refine t_region ?_
  refine asB rfl ?_
  refine r_nil ?_
  refine i_then ?_
  refine t_seq ?_
  refine t_region ?_
  refine mvS rfl ?_
  refine r_callG [(23, 10)] [23] [(23, Cont.cells 147 (skTys (skFill g)))] (c_Fill g) rfl rfl (cv_cons cv_nil (cv_pub rfl rfl)) pre_nil (post_cons (a := 23) (b := 10) (by exact List.mem_cons_self) rfl (cc_cells_eq (by exact List.mem_cons_self) rfl rfl rfl) post_nil) (cv_ptr (by exact List.mem_cons_self)) ?_
  refine r_callG (res' := bokT (mdB (skFill g) 12)) [(23, 1000)] [] [] (c_Made (skFill g) (fill_200z g) 12 (by decide)) rfl rfl (cv_cons (cv_cons cv_nil (cv_pub rfl rfl)) (cv_ptr (by exact List.mem_cons_self))) (pre_cons (a := 23) (b := 1000) (by exact List.mem_cons_self) rfl (cc_cells_eq (by exact List.mem_cons_self) rfl rfl rfl) pre_nil) post_nil (cv_pub rfl rfl) ?_
  refine r_alloc rfl (by exact List.cons_ne_nil _ _) rfl ?_
  refine r_storeN rfl rfl (by decide) rfl rfl rfl rfl rfl rfl ?_
  refine r_nil ?_
  refine i_then ?_
  refine t_seq ?_
  refine t_forget (B := live [(3, Ty.ptr 4 0)] [(4, Cont.cells 27 (bokTys (mdB (skFill g) 12)))]) ?_ ?_
  · (refine Ent.mk' ?_ ?_ <;> (repeat' (first | exact allSub_zero | exact allTags_nil | refine allSub_succ' ?_ (Ty.sub_any _) | refine allSub_succ' ?_ (Ty.sub_refl _) | refine allTags_cons rfl (Cont.sub_refl _) ?_)))
  have hb : BookOk (mdB (skFill g) 12) := mdB_ok _ (by decide)
  generalize hB : mdB (skFill g) 12 = b at hb ⊢
  have hp := print_pos hb
  have hln := print_len hb
  have hfw := hb.form.n2
  have hl1 := hb.form.l1
  have hl2 := hb.form.l2
  have hfew := hb.few
  have htl := tks_len hb
  have hll := lin_len b
  have h12 : (footL b).length ≤ 12 := by rw [footL_len2]; exact pgs_le (lin_pos hb) hfew
  refine t_region ?_
  refine r_load_ptrN rfl rfl (by decide) rfl rfl (by exact Nat.le_of_ble_eq_true rfl) ?_
  refine r_call (c_PrintOkZ hb) rfl rfl rfl rfl rfl ?_
  refine mvT rfl ?_
  refine r_extract rfl rfl ?_
  refine r_extract rfl rfl ?_
  refine asS' rfl ?_
  refine asI rfl ?_
  refine r_nil ?_
  refine i_then ?_
  refine t_seq ?_
  refine t_region ?_
  refine r_load_ptrN rfl rfl (by decide) rfl rfl (by exact Nat.le_of_ble_eq_true rfl) ?_
  refine r_call (c_FootsOk hb) rfl rfl rfl rfl rfl ?_
  refine mvT rfl ?_
  refine r_extract rfl rfl ?_
  refine r_extract rfl rfl ?_
  refine asS rfl ?_
  refine asI rfl ?_
  refine r_nil ?_
  refine i_then ?_
  refine t_seq ?_
  refine t_seq ?_
  refine t_region ?_
  refine mvI rfl ?_
  refine r_bin rfl rfl rfl ?_
  refine mvB rfl ?_
  apply r_guard (s := 36) rfl rfl rfl
  · intro hg; apply opT_of; (refine mvI rfl ?_); refine r_nil ?_; exact rfl
  · exact rfl
  · exact rfl
  apply r_guard (s := 36) rfl rfl rfl
  · intro hg; apply opT_strip (s := 37) rfl (by (rw [hg]; rfl)); apply opT_of; (refine r_bin rfl rfl rfl ?_); refine r_nil ?_; exact rfl
  · exact rfl
  · exact rfl
  refine r_or rfl rfl ?_
  refine mvB rfl ?_
  apply r_guard (s := 40) rfl rfl rfl
  · intro hg; apply opT_of; (refine mvS' rfl ?_); refine r_nil ?_; exact rfl
  · exact rfl
  · exact rfl
  apply r_guard (s := 40) rfl rfl rfl
  · intro hg; apply opT_strip (s := 41) rfl (by (rw [hg]; rfl)); apply opT_of; (refine r_call (c_SuffixIs hb) rfl rfl rfl rfl rfl ?_); refine r_nil ?_; exact rfl
  · exact rfl
  · exact rfl
  apply r_guard (s := 40) rfl rfl rfl
  · intro hg; apply opT_strip (s := 42) rfl (by (rw [hg]; rfl)); apply opT_of; (refine r_not rfl ?_); refine r_nil ?_; exact rfl
  · exact rfl
  · exact rfl
  refine r_or rfl rfl ?_
  refine r_nil ?_
  refine i_then ?_
  refine t_cond_ff rfl ((by rfl)) ?_
  refine t_skip ?_
  refine i_then ?_
  refine t_seq ?_
  refine t_region ?_
  refine asI rfl ?_
  refine asI rfl ?_
  refine r_nil ?_
  refine i_then ?_
  refine t_seq ?_
  refine t_region ?_
  refine r_field_ptr rfl rfl rfl rfl rfl (by decide) ?_
  refine r_field_ptr rfl rfl rfl rfl rfl (by decide) ?_
  refine r_load_ptr rfl rfl (by decide) rfl rfl rfl ?_
  refine r_len rfl rfl rfl ?_
  refine r_makeV (E := I64) (x0 := 0) rfl rfl rfl rfl rfl rfl rfl (by decide) rfl (by omega) (by (dsimp only; omega)) (by omega) ?_
  refine asV rfl ?_
  refine r_nil ?_
  refine i_then ?_
  refine t_seq ?_
  refine t_region ?_
  refine asF rfl ?_
  refine r_nil ?_
  refine i_then ?_
  refine t_seq ?_
  refine t_seq ?_
  refine t_region ?_
  refine mvS' rfl ?_
  refine mvS' rfl ?_
  refine r_lenS rfl rfl rfl ?_
  refine r_sub rfl rfl (by omega) (by omega) ?_
  refine r_cutS_hi (hi := (printB b).length - 1) rfl (congrArg (Ty.int .i64) (show ((printB b).length : Int) - 1 = (((printB b).length - 1 : Nat) : Int) by omega)) rfl rfl (by omega) ?_
  refine r_call (c_SplitIs hb) rfl rfl rfl rfl rfl ?_
  refine r_len rfl rfl rfl ?_
  refine mvI rfl ?_
  refine r_nil ?_
  refine i_then ?_
  refine t_block ?_
  refine t_loop (fun (q : {q : Nat × Nat × Nat // q.1 ≤ (tksB b).length ∧ okB b q.1 q.2.1 q.2.2}) => live [(3, Ty.ptr 4 0), (4, Ty.str (bs (printB b))), (6, Ty.sl RowE (footL b)), (8, Ty.int .i64 (q.1.2.1 : Nat)), (9, Ty.int .i64 (q.1.2.2 : Nat)), (10, Ty.vs 50 b.form.widths.length), (11, Ty.clo 56 []), (55, Ty.sl StrE (linB b)), (56, Ty.int .i64 (tksB b).length), (57, Ty.int .i64 (q.1.1 : Nat))] [(4, Cont.cells 27 (bokTys b)), (50, Cont.vec I64 3 (sumW b.form.widths.length (b.rows.take q.1.2.1)))]) (fun q => (tksB b).length - q.1.1) (⟨(0, 0, 0), Nat.zero_le _, ok_first hb⟩) ?_ fun q => ?_
  · (refine Ent.mk' ?_ ?_ <;> (repeat' (first | exact allSub_zero | exact allTags_nil | refine allSub_succ' ?_ (Ty.sub_any _) | refine allSub_succ' ?_ (Ty.sub_refl _) | refine allTags_cons rfl (Cont.sub_refl _) ?_ | refine allTags_cons rfl ?_ ?_ | refine allSub_succ' ?_ ?_)))
    all_goals first | exact Ty.sub_int (by rw [hll]) | exact Cont.sub_vec ((sumW_nil _).trans sumW_take)
  ·
    have hq1 := q.2.1
    have hq2 := q.2.2
    refine t_seq ?_
    refine t_region ?_
    refine r_bin rfl rfl rfl ?_
    refine r_nil ?_
    refine i_then ?_
    refine t_seq ?_
    refine t_cond_dec rfl (fun hc2 => ?_) (fun hc2 => ?_)
    ·
      refine t_skip ?_
      refine i_then ?_
      refine t_seq ?_
      refine t_block ?_
      refine t_seq ?_
      have hj : q.1.1 < (tksB b).length := by omega
      have hod := ok_drop hq2 hj
      have hat := ok_at hod
      have hnx := ok_next hod
      have htk := nm_fit hb hat.2
      have hlj := lin_nth hj
      generalize hT : nth (tksB b) q.1.1 = t at hod hat hnx htk hlj
      have htp := tl_p b.form b.rows t
      refine t_region ?_
      refine r_index_slN rfl rfl rfl rfl rfl rfl (by omega) ?_
      refine r_load_pp rfl rfl rfl rfl ?_
      refine asS' rfl ?_
      refine r_nil ?_
      refine i_then ?_
      refine t_seq ?_
      refine t_seq ?_
      refine t_as (s := 13) rfl (Ty.str_eq hlj) ?_
      refine t_region ?_
      refine mvS' rfl ?_
      refine r_eqlS (b := []) rfl rfl ?_
      refine r_nil ?_
      refine i_then ?_
      refine t_cond_ff rfl ((by rw [decide_eq_false (tl_e b.form b.rows t)])) ?_
      refine t_skip ?_
      refine i_then ?_
      refine t_seq ?_
      refine t_region ?_
      refine mvS' rfl ?_
      refine r_cutS_lo (lo := 1) rfl rfl rfl rfl htp ?_
      refine asS' rfl ?_
      refine asI rfl ?_
      refine r_nil ?_
      refine i_then ?_
      refine t_join (J := live [(3, Ty.ptr 4 0), (4, Ty.str (bs (printB b))), (6, Ty.sl RowE (footL b)), (8, Ty.int .i64 (q.1.2.1 : Nat)), (9, Ty.int .i64 (q.1.2.2 : Nat)), (10, Ty.vs 50 b.form.widths.length), (11, Ty.clo 56 []), (13, Ty.str (bs (tokL b.form b.rows t))), (14, Ty.str (bs (rsT b.form b.rows t 0))), (15, Ty.int .i64 (wdT t)), (55, Ty.sl StrE (linB b)), (56, Ty.int .i64 (tksB b).length), (57, Ty.int .i64 (q.1.1 : Nat))] [(4, Cont.cells 27 (bokTys b)), (50, Cont.vec I64 3 (sumW b.form.widths.length (b.rows.take q.1.2.1)))]) ?_ ?_
      ·
        refine t_seq ?_
        refine t_region ?_
        refine mvS' rfl ?_
        refine r_idxS (i := 0) rfl rfl rfl rfl htp ?_
        refine r_bin rfl rfl rfl ?_
        refine mvB rfl ?_
        apply r_guard (s := 68) rfl rfl rfl
        · intro hg; apply opT_of; (refine mvS' rfl ?_); refine r_nil ?_; exact rfl
        · exact rfl
        · exact rfl
        apply r_guard (s := 68) rfl rfl rfl
        · intro hg; apply opT_strip (s := 69) rfl (by (rw [hg]; rfl)); apply opT_of; (refine r_idxS (i := 0) rfl rfl rfl rfl htp ?_); refine r_nil ?_; exact rfl
        · exact rfl
        · exact rfl
        apply r_guard (s := 68) rfl rfl rfl
        · intro hg; apply opT_strip (s := 70) rfl (by (rw [hg]; rfl)); apply opT_of; (refine r_bin rfl rfl rfl ?_); refine r_nil ?_; exact rfl
        · exact rfl
        · exact rfl
        refine r_or rfl rfl ?_
        refine r_nil ?_
        refine i_then ?_
        refine t_cond rfl (fun hc4 => ?_) (fun hc4 => ?_)
        ·
          refine t_region ?_
          refine asI rfl ?_
          refine r_nil ?_
          refine i_join ?_
          (refine Ent.mk' ?_ ?_ <;> (repeat' (first | exact allSub_zero | exact allTags_nil | refine allSub_succ' ?_ (Ty.sub_any _) | refine allSub_succ' ?_ (Ty.sub_refl _) | refine allTags_cons rfl (Cont.sub_refl _) ?_ | refine allSub_succ' ?_ ?_)))
          all_goals first | exact Ty.sub_int (wd_2 (rows := b.rows) (by rw [← tl_0 b.form b.rows t]; exact hc4)) | exact Ty.str_eq (tl_1 _ _ _)
        ·
          refine t_skip ?_
          refine i_join ?_
          (refine Ent.mk' ?_ ?_ <;> (repeat' (first | exact allSub_zero | exact allTags_nil | refine allSub_succ' ?_ (Ty.sub_any _) | refine allSub_succ' ?_ (Ty.sub_refl _) | refine allTags_cons rfl (Cont.sub_refl _) ?_ | refine allSub_succ' ?_ ?_)))
          all_goals first | exact Ty.sub_int (wd_0 (rows := b.rows) (by rw [← tl_0 b.form b.rows t]; exact hc4)) | exact Ty.str_eq (tl_1 _ _ _)
      ·
        refine t_seq ?_
        refine t_seq ?_
        refine t_region ?_
        refine r_field_ptr rfl rfl rfl rfl rfl (by decide) ?_
        refine r_field_ptr rfl rfl rfl rfl rfl (by decide) ?_
        refine r_load_ptr rfl rfl (by decide) rfl rfl rfl ?_
        refine r_len rfl rfl rfl ?_
        refine mvI rfl ?_
        refine r_nil ?_
        refine i_then ?_
        refine t_block ?_
        refine t_loop (fun (c : {c : Nat // c ≤ b.form.widths.length}) => live [(3, Ty.ptr 4 0), (4, Ty.str (bs (printB b))), (6, Ty.sl RowE (footL b)), (8, Ty.int .i64 (q.1.2.1 : Nat)), (9, Ty.int .i64 (q.1.2.2 : Nat)), (10, Ty.vs 50 b.form.widths.length), (11, Ty.clo 56 []), (13, Ty.str (bs (tokL b.form b.rows t))), (14, Ty.str (bs (rsT b.form b.rows t c.1))), (15, Ty.int .i64 (wdT t)), (55, Ty.sl StrE (linB b)), (56, Ty.int .i64 (tksB b).length), (57, Ty.int .i64 (q.1.1 : Nat)), (75, Ty.sl I64 b.form.widths), (76, Ty.int .i64 b.form.widths.length), (77, Ty.int .i64 (c.1 : Nat))] [(4, Cont.cells 27 (bokTys b)), (50, Cont.vec I64 3 (vsT b.form.widths.length b.rows t c.1))]) (fun c => b.form.widths.length - c.1) (⟨0, Nat.zero_le _⟩) ?_ fun c => ?_
        · (refine Ent.mk' ?_ ?_ <;> (repeat' (first | exact allSub_zero | exact allTags_nil | refine allSub_succ' ?_ (Ty.sub_any _) | refine allSub_succ' ?_ (Ty.sub_refl _) | refine allTags_cons rfl (Cont.sub_refl _) ?_ | refine allTags_cons rfl ?_ ?_)))
          all_goals exact Cont.sub_vec (by rw [← hat.1]; exact vs_0 _ _ _)
        ·
          have hcl := c.2
          refine t_seq ?_
          refine t_region ?_
          refine r_bin rfl rfl rfl ?_
          refine r_nil ?_
          refine i_then ?_
          refine t_seq ?_
          refine t_cond_dec rfl (fun hc5 => ?_) (fun hc5 => ?_)
          ·
            refine t_skip ?_
            refine i_then ?_
            refine t_seq ?_
            refine t_block ?_
            refine t_seq ?_
            refine t_region ?_
            refine mvI rfl ?_
            refine r_index_slN rfl rfl rfl rfl rfl rfl (by omega) ?_
            refine r_load_pp rfl rfl rfl rfl ?_
            refine asI rfl ?_
            refine asI rfl ?_
            refine r_nil ?_
            refine i_then ?_
            refine t_seq ?_
            have hcw : c.1 < b.form.widths.length := by omega
            have hwid := nth_wid hb.form hcw
            have hnm := htk c.1 hcw
            have hvl := vs_len b.form.widths.length b.rows t c.1
            have hvn := vs_nth (rows := b.rows) (t := t) hcw
            have hsm := take_smallW (fun r hr => small_of hb.form (hb.row r hr)) (by omega) (atT t) c.1
            have hwd : 0 ≤ wdT t ∧ wdT t ≤ 2 := wd_bnd t
            refine t_region ?_
            refine mvF rfl ?_
            refine mvS' rfl ?_
            refine mvI rfl ?_
            refine mvI rfl ?_
            refine r_add rfl rfl (by omega) (by omega) ?_
            refine r_callv rfl (c_fieldT hb.form htk hcw) rfl rfl rfl rfl rfl ?_
            refine mvT rfl ?_
            refine r_extract rfl rfl ?_
            refine r_extract rfl rfl ?_
            refine r_extract rfl rfl ?_
            refine asI rfl ?_
            refine asS' rfl ?_
            refine asB rfl ?_
            refine r_nil ?_
            refine i_then ?_
            refine t_seq ?_
            refine t_seq ?_
            refine t_region ?_
            refine mvB rfl ?_
            refine r_not rfl ?_
            refine r_nil ?_
            refine i_then ?_
            refine t_cond_ff rfl (rfl) ?_
            refine t_skip ?_
            refine i_then ?_
            refine t_seq ?_
            refine t_block ?_
            refine t_seq ?_
            refine t_region ?_
            refine mvI rfl ?_
            refine r_bin rfl rfl rfl ?_
            refine asB rfl ?_
            refine r_nil ?_
            refine i_then ?_
            refine t_cond_dec rfl (fun hc7 => ?_) (fun hc7 => ?_)
            ·
              refine t_seq ?_
              refine t_seq ?_
              obtain ⟨i, rfl⟩ := wd_row hc7
              obtain ⟨rfl, hrn, hok2⟩ := ok_row hod
              have hlr := ld_row b.rows q.1.2.1
              have hrw := (hb.row _ (nth_mem hrn)).len
              refine t_draw mixed rfl ?_
              refine mvI rfl ?_
              refine r_field_ptr rfl rfl rfl rfl rfl (by decide) ?_
              refine r_load_ptr rfl rfl (by decide) rfl rfl rfl ?_
              refine r_len rfl rfl rfl ?_
              refine r_bin rfl rfl rfl ?_
              refine mvB rfl ?_
              apply r_guard (s := 102) rfl rfl rfl
              · intro hg; apply opT_of; (refine mvI rfl ?_); refine r_nil ?_; exact rfl
              · exact rfl
              · exact rfl
              apply r_guard (s := 102) rfl rfl rfl
              · intro hg; apply opT_of; (refine r_field_ptr rfl rfl rfl rfl rfl (by decide) ?_); refine r_nil ?_; exact rfl
              · exact rfl
              · exact rfl
              apply r_guard (s := 102) rfl rfl rfl
              · intro hg; apply opT_strip (s := 104) rfl (by (rw [hg]; rfl)); apply opT_of; (refine r_load_ptr rfl rfl (by decide) rfl rfl rfl ?_); refine r_nil ?_; exact rfl
              · exact rfl
              · exact rfl
              apply r_guard (s := 102) rfl rfl rfl
              · intro hg; apply opT_of; (refine mvI rfl ?_); refine r_nil ?_; exact rfl
              · exact rfl
              · exact rfl
              apply r_guard (s := 102) rfl rfl rfl
              · intro hg; apply opT_strip (s := 105) rfl (by (rw [hg]; rfl)); apply opT_strip (s := 106) rfl (by (rw [hg]; rfl)); apply opT_of; (refine r_index_slN rfl rfl rfl rfl rfl rfl (by omega) ?_); refine r_nil ?_; exact rfl
              · exact rfl
              · exact rfl
              apply r_guard (s := 102) rfl rfl rfl
              · intro hg; apply opT_strip (s := 107) rfl (by (rw [hg]; rfl)); apply opT_of; (refine r_field_pp rfl rfl rfl rfl rfl (by decide) ?_); refine r_nil ?_; exact rfl
              · exact rfl
              · exact rfl
              apply r_guard (s := 102) rfl rfl rfl
              · intro hg; apply opT_strip (s := 108) rfl (by (rw [hg]; rfl)); apply opT_of; (refine r_load_pp rfl rfl rfl rfl ?_); refine r_nil ?_; exact rfl
              · exact rfl
              · exact rfl
              apply r_guard (s := 102) rfl rfl rfl
              · intro hg; apply opT_of; (refine mvI rfl ?_); refine r_nil ?_; exact rfl
              · exact rfl
              · exact rfl
              apply r_guard (s := 102) rfl rfl rfl
              · intro hg; apply opT_strip (s := 109) rfl (by (rw [hg]; rfl)); apply opT_strip (s := 110) rfl (by (rw [hg]; rfl)); apply opT_of; (refine r_index_slN rfl rfl rfl rfl rfl rfl (by omega) ?_); refine r_nil ?_; exact rfl
              · exact rfl
              · exact rfl
              apply r_guard (s := 102) rfl rfl rfl
              · intro hg; apply opT_strip (s := 111) rfl (by (rw [hg]; rfl)); apply opT_of; (refine r_load_pp rfl rfl rfl rfl ?_); refine r_nil ?_; exact rfl
              · exact rfl
              · exact rfl
              apply r_guard (s := 102) rfl rfl rfl
              · intro hg; apply opT_strip (s := 103) rfl (by (rw [hg]; rfl)); apply opT_strip (s := 112) rfl (by (rw [hg]; rfl)); apply opT_of; (refine r_bin rfl rfl rfl ?_); refine r_nil ?_; exact rfl
              · exact rfl
              · exact rfl
              refine r_or rfl rfl ?_
              refine mvB rfl ?_
              apply r_guard (s := 115) rfl rfl rfl
              · intro hg; apply opT_of; (refine r_field_ptr rfl rfl rfl rfl rfl (by decide) ?_); refine r_nil ?_; exact rfl
              · exact rfl
              · exact rfl
              apply r_guard (s := 115) rfl rfl rfl
              · intro hg; apply opT_strip (s := 116) rfl (by (rw [hg]; rfl)); apply opT_of; (refine r_load_ptr rfl rfl (by decide) rfl rfl rfl ?_); refine r_nil ?_; exact rfl
              · exact rfl
              · exact rfl
              apply r_guard (s := 115) rfl rfl rfl
              · intro hg; apply opT_of; (refine mvI rfl ?_); refine r_nil ?_; exact rfl
              · exact rfl
              · exact rfl
              apply r_guard (s := 115) rfl rfl rfl
              · intro hg; apply opT_strip (s := 117) rfl (by (rw [hg]; rfl)); apply opT_strip (s := 118) rfl (by (rw [hg]; rfl)); apply opT_of; (refine r_index_slN rfl rfl rfl rfl rfl rfl (by omega) ?_); refine r_nil ?_; exact rfl
              · exact rfl
              · exact rfl
              apply r_guard (s := 115) rfl rfl rfl
              · intro hg; apply opT_strip (s := 119) rfl (by (rw [hg]; rfl)); apply opT_of; (refine r_field_pp rfl rfl rfl rfl rfl (by decide) ?_); refine r_nil ?_; exact rfl
              · exact rfl
              · exact rfl
              apply r_guard (s := 115) rfl rfl rfl
              · intro hg; apply opT_strip (s := 120) rfl (by (rw [hg]; rfl)); apply opT_of; (refine r_load_pp rfl rfl rfl rfl ?_); refine r_nil ?_; exact rfl
              · exact rfl
              · exact rfl
              apply r_guard (s := 115) rfl rfl rfl
              · intro hg; apply opT_of; (refine mvS' rfl ?_); refine r_nil ?_; exact rfl
              · exact rfl
              · exact rfl
              apply r_guard (s := 115) rfl rfl rfl
              · intro hg; apply opT_strip (s := 122) rfl (by (rw [hg]; rfl)); apply opT_of; (refine r_idxS (i := 0) rfl rfl rfl rfl (tl_p _ _ _) ?_); refine r_nil ?_; exact rfl
              · exact rfl
              · exact rfl
              apply r_guard (s := 115) rfl rfl rfl
              · intro hg; apply opT_strip (s := 123) rfl (by (rw [hg]; rfl)); apply opT_of; (refine r_bin rfl rfl rfl ?_); refine r_nil ?_; exact rfl
              · exact rfl
              · exact rfl
              apply r_guard (s := 115) rfl rfl rfl
              · intro hg; apply opT_strip (s := 121) rfl (by (rw [hg]; rfl)); apply opT_strip (s := 124) rfl (by (rw [hg]; rfl)); apply opT_of; (refine r_neq_B und4 rfl rfl ?_); refine r_nil ?_; exact rfl
              · exact rfl
              · exact rfl
              refine r_or rfl rfl ?_
              refine mvB rfl ?_
              apply r_guard (s := 127) rfl rfl rfl
              · intro hg; apply opT_of; (refine mvS' rfl ?_); refine r_nil ?_; exact rfl
              · exact rfl
              · exact rfl
              apply r_guard (s := 127) rfl rfl rfl
              · intro hg; apply opT_strip (s := 128) rfl (by (rw [hg]; rfl)); apply opT_of; (refine r_idxS (i := 0) rfl rfl rfl rfl (tl_p _ _ _) ?_); refine r_nil ?_; exact rfl
              · exact rfl
              · exact rfl
              apply r_guard (s := 127) rfl rfl rfl
              · intro hg; apply opT_strip (s := 129) rfl (by (rw [hg]; rfl)); apply opT_of; (refine r_bin rfl rfl rfl ?_); refine r_nil ?_; exact rfl
              · exact rfl
              · exact rfl
              apply r_guard (s := 127) rfl rfl rfl
              · intro hg; apply opT_strip (s := 130) rfl (by (rw [hg]; rfl)); apply opT_of; (refine mvB rfl ?_); refine r_nil ?_; exact rfl
              · exact rfl
              · exact rfl
              apply r_guardG (s := 131) rfl rfl rfl
              · intro hg1 hg2; apply opT_of; (refine mvS' rfl ?_); refine r_nil ?_; exact rfl
              · exact rfl
              · exact rfl
              apply r_guardG (s := 131) rfl rfl rfl
              · intro hg1 hg2; apply opT_strip (s := 132) rfl (by (rw [hg1, hg2]; rfl)); apply opT_of; (refine r_idxS (i := 0) rfl rfl rfl rfl (tl_p _ _ _) ?_); refine r_nil ?_; exact rfl
              · exact rfl
              · exact rfl
              apply r_guardG (s := 131) rfl rfl rfl
              · intro hg1 hg2; apply opT_strip (s := 133) rfl (by (rw [hg1, hg2]; rfl)); apply opT_of; (refine r_bin rfl rfl rfl ?_); refine r_nil ?_; exact rfl
              · exact rfl
              · exact rfl
              apply r_guard (s := 127) rfl rfl rfl
              · intro hg; apply opT_strip (s := 131) rfl (by (rw [hg]; rfl)); apply opT_stripG (s := 134) rfl (by (rw [hg]; rfl)); apply opT_of; (refine r_and rfl rfl ?_); refine r_nil ?_; exact rfl
              · exact rfl
              · exact rfl
              refine r_or rfl rfl ?_
              refine r_nil ?_
              refine ⟨by kernel_rfl, ?_⟩
              refine i_then ?_
              refine t_cond_ff rfl ((by rw [tl_0, nm_row, decide_eq_false (show ¬ (b.rows.length : Int) ≤ (q.1.2.1 : Int) by omega), hlr.1]; rcases hlr.2 with e | e <;> simp [e])) ?_
              refine t_skip ?_
              refine i_then ?_
              refine t_seq ?_
              refine t_region ?_
              refine r_field_ptr rfl rfl rfl rfl rfl (by decide) ?_
              refine r_load_ptr rfl rfl (by decide) rfl rfl rfl ?_
              refine mvI rfl ?_
              refine r_index_slN rfl rfl rfl rfl rfl rfl (by omega) ?_
              refine r_field_pp rfl rfl rfl rfl rfl (by decide) ?_
              refine r_load_pp rfl rfl rfl rfl ?_
              refine r_not rfl ?_
              refine r_nil ?_
              refine i_then ?_
              refine t_cond rfl (fun hc9 => ?_) (fun hc9 => ?_)
              ·
                refine t_region ?_
                refine mvV rfl ?_
                refine mvI rfl ?_
                refine r_index_vs rfl rfl rfl rfl rfl (by omega) ?_
                refine r_load_vecB rfl rfl rfl (by decide) rfl rfl (by omega) rfl ?_
                refine mvI rfl ?_
                refine r_add rfl rfl (by omega) (by omega) ?_
                refine r_index_vs rfl rfl rfl rfl rfl (by omega) ?_
                refine r_store_vecB rfl rfl rfl (by decide) rfl rfl (by exact (rfl : _ = Ty.int _ _)) rfl (by omega) (by decide) rfl rfl ?_
                refine r_nil ?_
                refine i_block ?_
                refine i_then ?_
                refine t_region ?_
                refine mvS' rfl ?_
                refine asS' rfl ?_
                refine r_nil ?_
                refine i_block ?_
                refine i_then ?_
                refine t_region ?_
                refine r_add rfl rfl (by omega) (by omega) ?_
                refine mvI rfl ?_
                refine r_nil ?_
                refine i_round (⟨c.1 + 1, by omega⟩) ?_ (by show b.form.widths.length - (c.1 + 1) < b.form.widths.length - c.1; omega)
                (refine Ent.mk' ?_ ?_ <;> (repeat' (first | exact allSub_zero | exact allTags_nil | refine allSub_succ' ?_ (Ty.sub_any _) | refine allSub_succ' ?_ (Ty.sub_refl _) | refine allTags_cons rfl (Cont.sub_refl _) ?_ | refine allTags_cons rfl ?_ ?_)))
                all_goals skip
                all_goals exact Cont.sub_vec (by rw [hvn, nm_row]; exact vs_set hcw (by simpa using hc9))
              ·
                refine t_skip ?_
                refine i_block ?_
                refine i_then ?_
                refine t_region ?_
                refine mvS' rfl ?_
                refine asS' rfl ?_
                refine r_nil ?_
                refine i_block ?_
                refine i_then ?_
                refine t_region ?_
                refine r_add rfl rfl (by omega) (by omega) ?_
                refine mvI rfl ?_
                refine r_nil ?_
                refine i_round (⟨c.1 + 1, by omega⟩) ?_ (by show b.form.widths.length - (c.1 + 1) < b.form.widths.length - c.1; omega)
                (refine Ent.mk' ?_ ?_ <;> (repeat' (first | exact allSub_zero | exact allTags_nil | refine allSub_succ' ?_ (Ty.sub_any _) | refine allSub_succ' ?_ (Ty.sub_refl _) | refine allTags_cons rfl (Cont.sub_refl _) ?_ | refine allTags_cons rfl ?_ ?_)))
                all_goals skip
                all_goals exact Cont.sub_vec (vs_str (by simpa using hc9))
            ·
              refine t_seq ?_
              refine t_region ?_
              refine mvI rfl ?_
              refine mvV rfl ?_
              refine mvI rfl ?_
              refine r_index_vs rfl rfl rfl rfl rfl (by omega) ?_
              refine r_load_vecB rfl rfl rfl (by decide) rfl rfl (by omega) rfl ?_
              refine r_bin rfl rfl rfl ?_
              refine asB rfl ?_
              refine r_nil ?_
              refine i_then ?_
              refine t_cond_ff rfl ((by rw [sub_is hc7 hcw]; simp)) ?_
              refine t_skip ?_
              refine i_block ?_
              refine i_then ?_
              refine t_region ?_
              refine mvS' rfl ?_
              refine asS' rfl ?_
              refine r_nil ?_
              refine i_block ?_
              refine i_then ?_
              refine t_region ?_
              refine r_add rfl rfl (by omega) (by omega) ?_
              refine mvI rfl ?_
              refine r_nil ?_
              refine i_round (⟨c.1 + 1, by omega⟩) ?_ (by show b.form.widths.length - (c.1 + 1) < b.form.widths.length - c.1; omega)
              (refine Ent.mk' ?_ ?_ <;> (repeat' (first | exact allSub_zero | exact allTags_nil | refine allSub_succ' ?_ (Ty.sub_any _) | refine allSub_succ' ?_ (Ty.sub_refl _) | refine allTags_cons rfl (Cont.sub_refl _) ?_ | refine allTags_cons rfl ?_ ?_)))
              all_goals skip
              all_goals exact Cont.sub_vec (vs_not hc7)
          ·
            refine t_exit ?_
            refine i_then_exit ?_
            refine i_then_exit ?_
            refine i_block_exit rfl ?_
            refine i_then ?_
            refine t_seq ?_
            have hce : c.1 = b.form.widths.length := by omega
            have hre := rs_end (f := b.form) (rows := b.rows) (t := t) hce
            have hve := vs_end (rows := b.rows) hat.2 hce
            refine t_region ?_
            refine mvS' rfl ?_
            refine r_idxS (i := 0) rfl rfl rfl rfl htp ?_
            refine r_nil ?_
            refine i_then ?_
            refine t_block ?_
            refine t_seq ?_
            refine t_region ?_
            refine r_bin rfl rfl rfl ?_
            refine asB rfl ?_
            refine r_nil ?_
            refine i_then ?_
            refine t_cond_dec rfl (fun hc11 => ?_) (fun hc11 => ?_)
            ·
              refine t_seq ?_
              refine t_seq ?_
              obtain ⟨i, rfl⟩ := is_eq (rows := b.rows) (by rw [← tl_0 b.form b.rows t]; exact hc11)
              obtain ⟨rfl, hen, hpg, hok2⟩ := ok_eq hod
              have hfe := ft_ends hb hen
              have h72 := mul_72 hb.form (p := q.1.2.2) (by omega)
              have hmp : ((q.1.2.2 : Int) + 1) * b.form.lines = (((q.1.2.2 + 1) * b.form.lines.toNat : Nat) : Int) := mul_page hb.form (q.1.2.2 + 1)
              refine t_region ?_
              refine mvS' rfl ?_
              refine r_neqS rfl rfl ?_
              refine mvB rfl ?_
              apply r_guard (s := 182) rfl rfl rfl
              · intro hg; apply opT_of; (refine mvI rfl ?_); refine r_nil ?_; exact rfl
              · exact rfl
              · exact rfl
              apply r_guard (s := 182) rfl rfl rfl
              · intro hg; apply opT_of; (refine mvS rfl ?_); refine r_nil ?_; exact rfl
              · exact rfl
              · exact rfl
              apply r_guard (s := 182) rfl rfl rfl
              · intro hg; apply opT_strip (s := 184) rfl (by (rw [hg]; rfl)); apply opT_of; (refine r_len rfl rfl rfl ?_); refine r_nil ?_; exact rfl
              · exact rfl
              · exact rfl
              apply r_guard (s := 182) rfl rfl rfl
              · intro hg; apply opT_strip (s := 183) rfl (by (rw [hg]; rfl)); apply opT_strip (s := 185) rfl (by (rw [hg]; rfl)); apply opT_of; (refine r_bin rfl rfl rfl ?_); refine r_nil ?_; exact rfl
              · exact rfl
              · exact rfl
              refine r_or rfl rfl ?_
              refine mvB rfl ?_
              apply r_guard (s := 188) rfl rfl rfl
              · intro hg; apply opT_of; (refine mvS rfl ?_); refine r_nil ?_; exact rfl
              · exact rfl
              · exact rfl
              apply r_guard (s := 188) rfl rfl rfl
              · intro hg; apply opT_of; (refine mvI rfl ?_); refine r_nil ?_; exact rfl
              · exact rfl
              · exact rfl
              apply r_guard (s := 188) rfl rfl rfl
              · intro hg; apply opT_strip (s := 189) rfl (by (rw [hg]; rfl)); apply opT_strip (s := 190) rfl (by (rw [hg]; rfl)); apply opT_of; (refine r_index_slN rfl rfl rfl rfl rfl rfl (by omega) ?_); refine r_nil ?_; exact rfl
              · exact rfl
              · exact rfl
              apply r_guard (s := 188) rfl rfl rfl
              · intro hg; apply opT_strip (s := 191) rfl (by (rw [hg]; rfl)); apply opT_of; (refine r_load_pp rfl rfl rfl rfl ?_); refine r_nil ?_; exact rfl
              · exact rfl
              · exact rfl
              apply r_guard (s := 188) rfl rfl rfl
              · intro hg; apply opT_of; (refine mvV rfl ?_); refine r_nil ?_; exact rfl
              · exact rfl
              · exact rfl
              apply r_guard (s := 188) rfl rfl rfl
              · intro hg; apply opT_strip (s := 192) rfl (by (rw [hg]; rfl)); apply opT_strip (s := 193) rfl (by (rw [hg]; rfl)); apply opT_of; (refine r_callLC [50] (c_EqualIs (hfe.2.trans hve.symm)) rfl (lendcs_cons (lendc_of (lend_pub rfl rfl)) (lendcs_cons (lendc_vs rfl (vs_len _ _ _ _) (by decide) rfl) lendcs_nil)) (plain_bool _) ?_); refine r_nil ?_; exact rfl
              · exact rfl
              · exact rfl
              apply r_guard (s := 188) rfl rfl rfl
              · intro hg; apply opT_strip (s := 194) rfl (by (rw [hg]; rfl)); apply opT_of; (refine r_not rfl ?_); refine r_nil ?_; exact rfl
              · exact rfl
              · exact rfl
              refine r_or rfl rfl ?_
              refine mvB rfl ?_
              apply r_guard (s := 197) rfl rfl rfl
              · intro hg; apply opT_of; (refine mvI rfl ?_); refine r_nil ?_; exact rfl
              · exact rfl
              · exact rfl
              apply r_guard (s := 197) rfl rfl rfl
              · intro hg; apply opT_of; (refine r_field_ptr rfl rfl rfl rfl rfl (by decide) ?_); refine r_nil ?_; exact rfl
              · exact rfl
              · exact rfl
              apply r_guard (s := 197) rfl rfl rfl
              · intro hg; apply opT_strip (s := 199) rfl (by (rw [hg]; rfl)); apply opT_of; (refine r_load_ptr rfl rfl (by decide) rfl rfl rfl ?_); refine r_nil ?_; exact rfl
              · exact rfl
              · exact rfl
              apply r_guard (s := 197) rfl rfl rfl
              · intro hg; apply opT_strip (s := 200) rfl (by (rw [hg]; rfl)); apply opT_of; (refine r_len rfl rfl rfl ?_); refine r_nil ?_; exact rfl
              · exact rfl
              · exact rfl
              apply r_guard (s := 197) rfl rfl rfl
              · intro hg; apply opT_strip (s := 198) rfl (by (rw [hg]; rfl)); apply opT_strip (s := 201) rfl (by (rw [hg]; rfl)); apply opT_of; (refine r_bin rfl rfl rfl ?_); refine r_nil ?_; exact rfl
              · exact rfl
              · exact rfl
              apply r_guard (s := 197) rfl rfl rfl
              · intro hg; apply opT_strip (s := 202) rfl (by (rw [hg]; rfl)); apply opT_of; (refine mvB rfl ?_); refine r_nil ?_; exact rfl
              · exact rfl
              · exact rfl
              apply r_guardG (s := 203) rfl rfl rfl
              · intro hg1 hg2; apply opT_of; (refine mvI rfl ?_); refine r_nil ?_; exact rfl
              · exact rfl
              · exact rfl
              apply r_guardG (s := 203) rfl rfl rfl
              · intro hg1 hg2; apply opT_of; (refine mvI rfl ?_); refine r_nil ?_; exact rfl
              · exact rfl
              · exact rfl
              apply r_guardG (s := 203) rfl rfl rfl
              · intro hg1 hg2; apply opT_strip (s := 205) rfl (by (rw [hg1, hg2]; rfl)); apply opT_of; (refine r_add rfl rfl (by omega) (by omega) ?_); refine r_nil ?_; exact rfl
              · exact rfl
              · exact rfl
              apply r_guardG (s := 203) rfl rfl rfl
              · intro hg1 hg2; apply opT_of; (refine r_field_ptr rfl rfl rfl rfl rfl (by decide) ?_); refine r_nil ?_; exact rfl
              · exact rfl
              · exact rfl
              apply r_guardG (s := 203) rfl rfl rfl
              · intro hg1 hg2; apply opT_strip (s := 207) rfl (by (rw [hg1, hg2]; rfl)); apply opT_of; (refine r_field_ptr rfl rfl rfl rfl rfl (by decide) ?_); refine r_nil ?_; exact rfl
              · exact rfl
              · exact rfl
              apply r_guardG (s := 203) rfl rfl rfl
              · intro hg1 hg2; apply opT_strip (s := 208) rfl (by (rw [hg1, hg2]; rfl)); apply opT_of; (refine r_load_ptr rfl rfl (by decide) rfl rfl rfl ?_); refine r_nil ?_; exact rfl
              · exact rfl
              · exact rfl
              apply r_guardG (s := 203) rfl rfl rfl
              · intro hg1 hg2; apply opT_strip (s := 206) rfl (by (rw [hg1, hg2]; rfl)); apply opT_strip (s := 209) rfl (by (rw [hg1, hg2]; rfl)); apply opT_of; (refine r_mul rfl rfl (by omega) (by omega) ?_); refine r_nil ?_; exact rfl
              · exact rfl
              · exact rfl
              apply r_guardG (s := 203) rfl rfl rfl
              · intro hg1 hg2; apply opT_strip (s := 204) rfl (by (rw [hg1, hg2]; rfl)); apply opT_strip (s := 210) rfl (by (rw [hg1, hg2]; rfl)); apply opT_of; (refine r_bin rfl rfl rfl ?_); refine r_nil ?_; exact rfl
              · exact rfl
              · exact rfl
              apply r_guard (s := 197) rfl rfl rfl
              · intro hg; apply opT_strip (s := 203) rfl (by (rw [hg]; rfl)); apply opT_stripG (s := 211) rfl (by (rw [hg]; rfl)); apply opT_of; (refine r_and rfl rfl ?_); refine r_nil ?_; exact rfl
              · exact rfl
              · exact rfl
              refine r_or rfl rfl ?_
              refine r_nil ?_
              refine i_then ?_
              refine t_cond_ff rfl ((by rw [hre, tl_eq]; exact cut_eq hfe.1 (by omega))) ?_
              refine t_skip ?_
              refine i_then ?_
              refine t_region ?_
              refine mvI rfl ?_
              refine r_add rfl rfl (by omega) (by omega) ?_
              refine asI rfl ?_
              refine r_nil ?_
              refine i_block ?_
              refine i_block ?_
              refine i_then ?_
              refine t_region ?_
              refine r_add rfl rfl (by omega) (by omega) ?_
              refine mvI rfl ?_
              refine r_nil ?_
              refine i_round (⟨(q.1.1 + 1, nxQ (nth (tksB b) q.1.1) q.1.2.1 q.1.2.2), by show q.1.1 + 1 ≤ _; omega, ok_step q.2.2 (by omega)⟩) ?_ (by show (tksB b).length - (q.1.1 + 1) < (tksB b).length - q.1.1; omega)
              (refine Ent.mk' ?_ ?_ <;> (repeat' (first | exact allSub_zero | exact allTags_nil | refine allSub_succ' ?_ (Ty.sub_any _) | refine allSub_succ' ?_ (Ty.sub_refl _) | refine allTags_cons rfl (Cont.sub_refl _) ?_ | refine allTags_cons rfl ?_ ?_ | refine allSub_succ' ?_ ?_)))
              all_goals skip
              all_goals first | exact Ty.sub_int (by show _ = (((nxQ (nth (tksB b) q.1.1) q.1.2.1 q.1.2.2).1 : Nat) : Int); rw [hT, nx_eq]; try rfl) | exact Ty.sub_int (by show _ = (((nxQ (nth (tksB b) q.1.1) q.1.2.1 q.1.2.2).2 : Nat) : Int); rw [hT, nx_eq]; try rfl) | exact Cont.sub_vec (by show _ = sumW _ (b.rows.take (nxQ (nth (tksB b) q.1.1) q.1.2.1 q.1.2.2).1); rw [hT, nx_eq]; exact hve)
            ·
              refine t_seq ?_
              refine t_region ?_
              refine r_bin rfl rfl rfl ?_
              refine asB rfl ?_
              refine r_nil ?_
              refine i_then ?_
              refine t_cond_dec rfl (fun hc13 => ?_) (fun hc13 => ?_)
              ·
                refine t_seq ?_
                obtain ⟨i, rfl⟩ := is_plus (rows := b.rows) (by rw [← tl_0 b.form b.rows t]; exact hc13)
                obtain ⟨rfl, hrp, hrn, hok2⟩ := ok_plus hod
                have hmp := mul_page hb.form q.1.2.2
                rw [← hrp] at hmp
                refine t_region ?_
                refine mvS' rfl ?_
                refine r_neqS rfl rfl ?_
                refine mvB rfl ?_
                apply r_guard (s := 220) rfl rfl rfl
                · intro hg; apply opT_of; (refine mvI rfl ?_); refine r_nil ?_; exact rfl
                · exact rfl
                · exact rfl
                apply r_guard (s := 220) rfl rfl rfl
                · intro hg; apply opT_of; (refine mvI rfl ?_); refine r_nil ?_; exact rfl
                · exact rfl
                · exact rfl
                apply r_guard (s := 220) rfl rfl rfl
                · intro hg; apply opT_of; (refine r_field_ptr rfl rfl rfl rfl rfl (by decide) ?_); refine r_nil ?_; exact rfl
                · exact rfl
                · exact rfl
                apply r_guard (s := 220) rfl rfl rfl
                · intro hg; apply opT_strip (s := 223) rfl (by (rw [hg]; rfl)); apply opT_of; (refine r_field_ptr rfl rfl rfl rfl rfl (by decide) ?_); refine r_nil ?_; exact rfl
                · exact rfl
                · exact rfl
                apply r_guard (s := 220) rfl rfl rfl
                · intro hg; apply opT_strip (s := 224) rfl (by (rw [hg]; rfl)); apply opT_of; (refine r_load_ptr rfl rfl (by decide) rfl rfl rfl ?_); refine r_nil ?_; exact rfl
                · exact rfl
                · exact rfl
                apply r_guard (s := 220) rfl rfl rfl
                · intro hg; apply opT_strip (s := 222) rfl (by (rw [hg]; rfl)); apply opT_strip (s := 225) rfl (by (rw [hg]; rfl)); apply opT_of; (refine r_mul rfl rfl (by omega) (by omega) ?_); refine r_nil ?_; exact rfl
                · exact rfl
                · exact rfl
                apply r_guard (s := 220) rfl rfl rfl
                · intro hg; apply opT_strip (s := 221) rfl (by (rw [hg]; rfl)); apply opT_strip (s := 226) rfl (by (rw [hg]; rfl)); apply opT_of; (refine r_bin rfl rfl rfl ?_); refine r_nil ?_; exact rfl
                · exact rfl
                · exact rfl
                refine r_or rfl rfl ?_
                refine mvB rfl ?_
                apply r_guard (s := 229) rfl rfl rfl
                · intro hg; apply opT_of; (refine mvI rfl ?_); refine r_nil ?_; exact rfl
                · exact rfl
                · exact rfl
                apply r_guard (s := 229) rfl rfl rfl
                · intro hg; apply opT_of; (refine r_field_ptr rfl rfl rfl rfl rfl (by decide) ?_); refine r_nil ?_; exact rfl
                · exact rfl
                · exact rfl
                apply r_guard (s := 229) rfl rfl rfl
                · intro hg; apply opT_strip (s := 231) rfl (by (rw [hg]; rfl)); apply opT_of; (refine r_load_ptr rfl rfl (by decide) rfl rfl rfl ?_); refine r_nil ?_; exact rfl
                · exact rfl
                · exact rfl
                apply r_guard (s := 229) rfl rfl rfl
                · intro hg; apply opT_strip (s := 232) rfl (by (rw [hg]; rfl)); apply opT_of; (refine r_len rfl rfl rfl ?_); refine r_nil ?_; exact rfl
                · exact rfl
                · exact rfl
                apply r_guard (s := 229) rfl rfl rfl
                · intro hg; apply opT_strip (s := 230) rfl (by (rw [hg]; rfl)); apply opT_strip (s := 233) rfl (by (rw [hg]; rfl)); apply opT_of; (refine r_bin rfl rfl rfl ?_); refine r_nil ?_; exact rfl
                · exact rfl
                · exact rfl
                refine r_or rfl rfl ?_
                refine r_nil ?_
                refine i_then ?_
                refine t_cond_ff rfl ((by rw [hre, tl_plus, hmp, decide_eq_false (show ¬ (b.rows.length : Int) ≤ (q.1.2.1 : Int) by omega)]; simp)) ?_
                refine t_skip ?_
                refine i_block ?_
                refine i_block ?_
                refine i_then ?_
                refine t_region ?_
                refine r_add rfl rfl (by omega) (by omega) ?_
                refine mvI rfl ?_
                refine r_nil ?_
                refine i_round (⟨(q.1.1 + 1, nxQ (nth (tksB b) q.1.1) q.1.2.1 q.1.2.2), by show q.1.1 + 1 ≤ _; omega, ok_step q.2.2 (by omega)⟩) ?_ (by show (tksB b).length - (q.1.1 + 1) < (tksB b).length - q.1.1; omega)
                (refine Ent.mk' ?_ ?_ <;> (repeat' (first | exact allSub_zero | exact allTags_nil | refine allSub_succ' ?_ (Ty.sub_any _) | refine allSub_succ' ?_ (Ty.sub_refl _) | refine allTags_cons rfl (Cont.sub_refl _) ?_ | refine allTags_cons rfl ?_ ?_ | refine allSub_succ' ?_ ?_)))
                all_goals skip
                all_goals first | exact Ty.sub_int (by show _ = (((nxQ (nth (tksB b) q.1.1) q.1.2.1 q.1.2.2).1 : Nat) : Int); rw [hT, nx_plus]; try rfl) | exact Ty.sub_int (by show _ = (((nxQ (nth (tksB b) q.1.1) q.1.2.1 q.1.2.2).2 : Nat) : Int); rw [hT, nx_plus]; try rfl) | exact Cont.sub_vec (by show _ = sumW _ (b.rows.take (nxQ (nth (tksB b) q.1.1) q.1.2.1 q.1.2.2).1); rw [hT, nx_plus]; exact hve)
              ·
                refine t_seq ?_
                refine t_seq ?_
                obtain ⟨i, rfl⟩ := is_row (rows := b.rows) (by rw [← tl_0 b.form b.rows t]; exact hc11) (by rw [← tl_0 b.form b.rows t]; exact hc13)
                obtain ⟨rfl, hrn, hok2⟩ := ok_row hod
                have htlen := row_len hb hrn
                refine t_draw mixed rfl ?_
                refine mvS' rfl ?_
                refine r_lenS rfl rfl rfl ?_
                refine r_bin rfl rfl rfl ?_
                refine mvB rfl ?_
                apply r_guard (s := 165) rfl rfl rfl
                · intro hg; apply opT_of; (refine mvS' rfl ?_); refine r_nil ?_; exact rfl
                · exact rfl
                · exact rfl
                apply r_guard (s := 165) rfl rfl rfl
                · intro hg; apply opT_strip (s := 166) rfl (by (rw [hg]; rfl)); apply opT_of; (refine r_idxS (i := 0) rfl rfl rfl rfl (by rw [hre, tl_row]; exact let_one _) ?_); refine r_nil ?_; exact rfl
                · exact rfl
                · exact rfl
                apply r_guard (s := 165) rfl rfl rfl
                · intro hg; apply opT_of; (refine mvS' rfl ?_); refine r_nil ?_; exact rfl
                · exact rfl
                · exact rfl
                apply r_guard (s := 165) rfl rfl rfl
                · intro hg; apply opT_of; (refine mvS' rfl ?_); refine r_nil ?_; exact rfl
                · exact rfl
                · exact rfl
                apply r_guard (s := 165) rfl rfl rfl
                · intro hg; apply opT_strip (s := 169) rfl (by (rw [hg]; rfl)); apply opT_of; (refine r_lenS rfl rfl rfl ?_); refine r_nil ?_; exact rfl
                · exact rfl
                · exact rfl
                apply r_guard (s := 165) rfl rfl rfl
                · intro hg; apply opT_strip (s := 170) rfl (by (rw [hg]; rfl)); apply opT_of; (refine r_sub rfl rfl (by omega) (by omega) ?_); refine r_nil ?_; exact rfl
                · exact rfl
                · exact rfl
                apply r_guard (s := 165) rfl rfl rfl
                · intro hg; apply opT_strip (s := 168) rfl (by (rw [hg]; rfl)); apply opT_strip (s := 171) rfl (by (rw [hg]; rfl)); apply opT_of; (refine r_cutS_hi (hi := (tokL b.form b.rows (.row q.1.2.1)).length - 1) rfl (congrArg (Ty.int .i64) (show ((tokL b.form b.rows (.row q.1.2.1)).length : Int) - 1 = (((tokL b.form b.rows (.row q.1.2.1)).length - 1 : Nat) : Int) by omega)) rfl rfl (by omega) ?_); refine r_nil ?_; exact rfl
                · exact rfl
                · exact rfl
                apply r_guard (s := 165) rfl rfl rfl
                · intro hg; apply opT_strip (s := 172) rfl (by (rw [hg]; rfl)); apply opT_of; (refine r_call (c_lettIs hb hrn) rfl rfl rfl rfl rfl ?_); refine r_nil ?_; exact rfl
                · exact rfl
                · exact rfl
                apply r_guard (s := 165) rfl rfl rfl
                · intro hg; apply opT_strip (s := 167) rfl (by (rw [hg]; rfl)); apply opT_strip (s := 173) rfl (by (rw [hg]; rfl)); apply opT_of; (refine r_bin rfl rfl rfl ?_); refine r_nil ?_; exact rfl
                · exact rfl
                · exact rfl
                refine r_or rfl rfl ?_
                refine r_nil ?_
                refine ⟨by kernel_rfl, ?_⟩
                refine i_then ?_
                refine t_cond_ff rfl ((by rw [hre, tl_row]; exact cut_let _)) ?_
                refine t_skip ?_
                refine i_then ?_
                refine t_region ?_
                refine mvI rfl ?_
                refine r_add rfl rfl (by omega) (by omega) ?_
                refine asI rfl ?_
                refine r_nil ?_
                refine i_block ?_
                refine i_block ?_
                refine i_then ?_
                refine t_region ?_
                refine r_add rfl rfl (by omega) (by omega) ?_
                refine mvI rfl ?_
                refine r_nil ?_
                refine i_round (⟨(q.1.1 + 1, nxQ (nth (tksB b) q.1.1) q.1.2.1 q.1.2.2), by show q.1.1 + 1 ≤ _; omega, ok_step q.2.2 (by omega)⟩) ?_ (by show (tksB b).length - (q.1.1 + 1) < (tksB b).length - q.1.1; omega)
                (refine Ent.mk' ?_ ?_ <;> (repeat' (first | exact allSub_zero | exact allTags_nil | refine allSub_succ' ?_ (Ty.sub_any _) | refine allSub_succ' ?_ (Ty.sub_refl _) | refine allTags_cons rfl (Cont.sub_refl _) ?_ | refine allTags_cons rfl ?_ ?_ | refine allSub_succ' ?_ ?_)))
                all_goals skip
                all_goals first | exact Ty.sub_int (by show _ = (((nxQ (nth (tksB b) q.1.1) q.1.2.1 q.1.2.2).1 : Nat) : Int); rw [hT, nx_row]; try rfl) | exact Ty.sub_int (by show _ = (((nxQ (nth (tksB b) q.1.1) q.1.2.1 q.1.2.2).2 : Nat) : Int); rw [hT, nx_row]; try rfl) | exact Cont.sub_vec (by show _ = sumW _ (b.rows.take (nxQ (nth (tksB b) q.1.1) q.1.2.1 q.1.2.2).1); rw [hT, nx_row]; exact hve)
    ·
      refine t_exit ?_
      refine i_then_exit ?_
      refine i_then_exit ?_
      refine i_block_exit rfl ?_
      refine i_then ?_
      refine t_seq ?_
      have hof := ok_fin hq2 (show q.1.1 = (tksB b).length by omega)
      have hpg := fin_page hb.form hof.2.2
      have hwr := fin_wrap (a := (q.1.2.1 : Int) + b.form.lines - 1) (b := b.form.lines) (by omega) (by omega)
      refine t_region ?_
      refine mvI rfl ?_
      refine r_field_ptr rfl rfl rfl rfl rfl (by decide) ?_
      refine r_load_ptr rfl rfl (by decide) rfl rfl rfl ?_
      refine r_len rfl rfl rfl ?_
      refine r_bin rfl rfl rfl ?_
      refine mvB rfl ?_
      apply r_guard (s := 242) rfl rfl rfl
      · intro hg; apply opT_of; (refine mvI rfl ?_); refine r_nil ?_; exact rfl
      · exact rfl
      · exact rfl
      apply r_guard (s := 242) rfl rfl rfl
      · intro hg; apply opT_of; (refine mvS rfl ?_); refine r_nil ?_; exact rfl
      · exact rfl
      · exact rfl
      apply r_guard (s := 242) rfl rfl rfl
      · intro hg; apply opT_strip (s := 244) rfl (by (rw [hg]; rfl)); apply opT_of; (refine r_len rfl rfl rfl ?_); refine r_nil ?_; exact rfl
      · exact rfl
      · exact rfl
      apply r_guard (s := 242) rfl rfl rfl
      · intro hg; apply opT_strip (s := 243) rfl (by (rw [hg]; rfl)); apply opT_strip (s := 245) rfl (by (rw [hg]; rfl)); apply opT_of; (refine r_bin rfl rfl rfl ?_); refine r_nil ?_; exact rfl
      · exact rfl
      · exact rfl
      refine r_and rfl rfl ?_
      refine mvB rfl ?_
      apply r_guard (s := 248) rfl rfl rfl
      · intro hg; apply opT_of; (refine mvI rfl ?_); refine r_nil ?_; exact rfl
      · exact rfl
      · exact rfl
      apply r_guard (s := 248) rfl rfl rfl
      · intro hg; apply opT_of; (refine mvI rfl ?_); refine r_nil ?_; exact rfl
      · exact rfl
      · exact rfl
      apply r_guard (s := 248) rfl rfl rfl
      · intro hg; apply opT_of; (refine r_field_ptr rfl rfl rfl rfl rfl (by decide) ?_); refine r_nil ?_; exact rfl
      · exact rfl
      · exact rfl
      apply r_guard (s := 248) rfl rfl rfl
      · intro hg; apply opT_strip (s := 251) rfl (by (rw [hg]; rfl)); apply opT_of; (refine r_field_ptr rfl rfl rfl rfl rfl (by decide) ?_); refine r_nil ?_; exact rfl
      · exact rfl
      · exact rfl
      apply r_guard (s := 248) rfl rfl rfl
      · intro hg; apply opT_strip (s := 252) rfl (by (rw [hg]; rfl)); apply opT_of; (refine r_load_ptr rfl rfl (by decide) rfl rfl rfl ?_); refine r_nil ?_; exact rfl
      · exact rfl
      · exact rfl
      apply r_guard (s := 248) rfl rfl rfl
      · intro hg; apply opT_strip (s := 250) rfl (by (rw [hg]; rfl)); apply opT_strip (s := 253) rfl (by (rw [hg]; rfl)); apply opT_of; (refine r_add rfl rfl (by omega) (by omega) ?_); refine r_nil ?_; exact rfl
      · exact rfl
      · exact rfl
      apply r_guard (s := 248) rfl rfl rfl
      · intro hg; apply opT_strip (s := 254) rfl (by (rw [hg]; rfl)); apply opT_of; (refine r_sub rfl rfl (by omega) (by omega) ?_); refine r_nil ?_; exact rfl
      · exact rfl
      · exact rfl
      apply r_guard (s := 248) rfl rfl rfl
      · intro hg; apply opT_of; (refine r_field_ptr rfl rfl rfl rfl rfl (by decide) ?_); refine r_nil ?_; exact rfl
      · exact rfl
      · exact rfl
      apply r_guard (s := 248) rfl rfl rfl
      · intro hg; apply opT_strip (s := 256) rfl (by (rw [hg]; rfl)); apply opT_of; (refine r_field_ptr rfl rfl rfl rfl rfl (by decide) ?_); refine r_nil ?_; exact rfl
      · exact rfl
      · exact rfl
      apply r_guard (s := 248) rfl rfl rfl
      · intro hg; apply opT_strip (s := 257) rfl (by (rw [hg]; rfl)); apply opT_of; (refine r_load_ptr rfl rfl (by decide) rfl rfl rfl ?_); refine r_nil ?_; exact rfl
      · exact rfl
      · exact rfl
      apply r_guard (s := 248) rfl rfl rfl
      · intro hg; apply opT_strip (s := 255) rfl (by (rw [hg]; rfl)); apply opT_strip (s := 258) rfl (by (rw [hg]; rfl)); apply opT_of; (refine r_quo rfl rfl (by omega) ?_); refine r_nil ?_; exact rfl
      · exact rfl
      · exact rfl
      apply r_guard (s := 248) rfl rfl rfl
      · intro hg; apply opT_strip (s := 259) rfl (by (rw [hg]; rfl)); apply opT_of; (refine r_max rfl rfl ?_); refine r_nil ?_; exact rfl
      · exact rfl
      · exact rfl
      apply r_guard (s := 248) rfl rfl rfl
      · intro hg; apply opT_strip (s := 249) rfl (by (rw [hg]; rfl)); apply opT_strip (s := 260) rfl (by (rw [hg]; rfl)); apply opT_of; (refine r_bin rfl rfl rfl ?_); refine r_nil ?_; exact rfl
      · exact rfl
      · exact rfl
      refine r_and rfl rfl ?_
      refine mvB rfl ?_
      apply r_guard (s := 263) rfl rfl rfl
      · intro hg; apply opT_of; (refine r_call c_awake rfl rfl rfl rfl rfl ?_); refine r_nil ?_; exact rfl
      · exact rfl
      · exact rfl
      refine r_and rfl rfl ?_
      refine asB rfl ?_
      refine r_nil ?_
      refine i_then ?_
      refine t_ret ?_
      refine i_rp1 rfl rfl ?_
      all_goals skip
      all_goals exact ret_eq rfl rfl (congrArg Ty.bool (by rw [hwr, ← hpg, hof.1, hof.2.1]; simp))
end Go.Proofs.YtjjndkenddigiaaGreatDoor

namespace Go.T
open Go Go.RowKit Go.ChangeShapes Go.WideShapes Go.ChangeAt
def pubs : Tags := fun _ => none
theorem wf_pubs (w : World) (h : Amb w pubs) : Wf w pubs := ⟨fun _ _ h => (by cases h), fun _ _ _ _ h => (by cases h), h⟩
theorem pubs_zero : ∀ b t, pubs b = some t → t = 0 := fun _ _ h => by cases h
structure Rd {α : Type} (P : Program) (e : TypeId) (E : El α) : Prop where
  size : P.cellsOf e = E.size
  pos : 0 < E.size
  rd : ∀ {H : Type} {enc : TypeId × Value → H} {w : World} {base : Nat} {held : Bool} {n : Nat} {cs : List Value} {y : DataW H × List MemPlace}, DataW.trod enc P w base (fun _ => true) held n e cs = some y → ∃ x, dens w pubs (E.tys x) cs
section
variable {H : Type} {enc : TypeId × Value → H} {P : Program} {w : World} {base : Nat} {held : Bool} {α : Type} {E : El α} {t e : TypeId} {n : Nat} {cs : List Value} {y : DataW H × List MemPlace}
theorem rd_sl (hR : Rd P e E) (ht : P.underlying t = some (.slice e)) (h : DataW.trod enc P w base (fun _ => true) held n t cs = some y) : ∃ v xs, cs = [v] ∧ (Ty.sl E xs).den w pubs v := by
  rcases Go.Deep.open_slice ht h with ⟨rfl, _⟩ | ⟨a, len, cap, m, k, D, Pl, rfl, _, hl, hm, hmm, _, hel⟩
  · exact ⟨_, [], rfl, none, 0, rfl, Nat.le_refl _, Nat.zero_le _, fun h => absurd h (Nat.lt_irrefl _)⟩
  have hlm : len ≤ m := by rw [hmm]; simpa using hl
  have hX : ∀ i : Fin len, ∃ x : α, ∃ cs', w.cells? base (a.add (i.1 * P.cellsOf e)) (P.cellsOf e) = some cs' ∧ dens w pubs (E.tys x) cs' := fun i => by
    obtain ⟨cs', h1, h2⟩ := hel i.1 (Nat.lt_of_lt_of_le i.2 hlm)
    obtain ⟨x, hx⟩ := hR.rd h2
    exact ⟨x, cs', h1, hx⟩
  let X : Fin len → α := fun i => (hX i).choose
  have hXs : ∀ i : Fin len, ∃ cs', w.cells? base (a.add (i.1 * P.cellsOf e)) (P.cellsOf e) = some cs' ∧ dens w pubs (E.tys (X i)) cs' := fun i => (hX i).choose_spec
  have hlen : (List.ofFn X).length = len := by simp
  refine ⟨_, List.ofFn X, rfl, some a, cap, by rw [hlen], by rw [hlen]; exact hl, hm, fun h0 => ?_⟩
  rw [hlen] at h0
  have hcell : ∀ (i : Fin len) (j : Nat) (u : Ty), (E.tys (X i))[j]? = some u → ∃ v, w.cell? (a.add (i.1 * E.size + j)) = some v ∧ u.den w pubs v := fun i j u hu => by
    obtain ⟨cs', h1, h2⟩ := hXs i
    obtain ⟨v, hv, hd⟩ := dens_get h2 j u hu
    obtain ⟨_, g1, g2⟩ := World.cells?_some h1
    have hj : j < P.cellsOf e := by
      rw [hR.size, ← E.len (X i)]
      exact (List.getElem?_eq_some_iff.1 hu).1
    refine ⟨v, ?_, hd⟩
    have := g2 j hj
    rw [Go.Deep.add_add, hv, hR.size] at this
    exact this
  have hsz := hR.pos
  have hfirst : ∃ v, w.cell? (a.add 0) = some v := by
    obtain ⟨u, hu⟩ : ∃ u, (E.tys (X ⟨0, h0⟩))[0]? = some u := ⟨_, List.getElem?_eq_getElem (by rw [E.len]; exact hsz)⟩
    obtain ⟨v, hv, _⟩ := hcell ⟨0, h0⟩ 0 u hu
    exact ⟨v, by simpa using hv⟩
  obtain ⟨b, off, sp⟩ := a
  obtain ⟨v0, hv0⟩ := hfirst
  have hsp : sp = none := by simpa [Addr.add] using World.cell?_spot hv0
  subst hsp
  have hb : b < w.heap.size := by
    obtain ⟨cs', h1, _⟩ := hXs ⟨0, h0⟩
    have := World.cells?_block h1 (by rw [hR.size]; exact hsz)
    simpa [Addr.add] using this
  refine ⟨b, off, rfl, rfl, hb, fun i u hu => ?_⟩
  have hi : i < len * E.size := by
    have := (List.getElem?_eq_some_iff.1 hu).1
    rw [flat_len, hlen] at this; exact this
  have hk : i / E.size < len := Nat.div_lt_of_lt_mul (by rw [Nat.mul_comm]; exact hi)
  have hj : i % E.size < E.size := Nat.mod_lt _ hsz
  have hij : i / E.size * E.size + i % E.size = i := by rw [Nat.mul_comm]; exact Nat.div_add_mod i E.size
  have hu2 := hu
  rw [← hij, flat_get E _ _ _ (by rw [hlen]; exact hk) hj, List.getElem?_ofFn, dif_pos hk] at hu2
  obtain ⟨v, hv, hd⟩ := hcell ⟨i / E.size, hk⟩ (i % E.size) u hu2
  refine ⟨v, ?_, hd⟩
  rw [← Go.WideShapes.add_plain]
  rw [hij] at hv
  exact hv
theorem rd_sl1 {c : Value} (hR : Rd P e E) (ht : P.underlying t = some (.slice e)) (h : DataW.trod enc P w base (fun _ => true) held n t [c] = some y) : ∃ xs, (Ty.sl E xs).den w pubs c := by
  obtain ⟨v, xs, e, hd⟩ := rd_sl hR ht h
  exact ⟨xs, by rw [show c = v by simpa using e]; exact hd⟩
end
section
variable {w w' : World} {S K : Nat → Prop} {M' : Tags}
theorem le_block (le : Le S K w pubs w' M') {b : Nat} (hb : b < w.heap.size) : w'.heap[b]? = w.heap[b]? := (le.pub b hb rfl).2
theorem le_same (le : Le S K w pubs w' M') {p : MemPlace} (hp : p.block < w.heap.size) : w.sameAt w' p := by
  cases p with
  | cell b o => exact World.cell?_of_block (w := w) (le_block le hp)
  | map b => exact le_block le hp
theorem le_kept (le : Le S K w pubs w' M') (may : MemPlace → Prop) : w.keptBut w' may := by
  refine ⟨le.os, le.out, fun i hi => ?_⟩
  have e := le_block le hi
  rw [e]
  split
  · rename_i h1 h2
    rw [h1] at h2
    simp only [Option.some.injEq, Obj.cells.injEq] at h2
    obtain ⟨rfl, rfl, rfl⟩ := h2
    exact ⟨rfl, rfl, rfl, fun _ _ => rfl⟩
  · rename_i h1 h2
    rw [h1] at h2
    simp only [Option.some.injEq, Obj.map.injEq] at h2
    exact Or.inr ⟨h2.1.symm, h2.2.symm⟩
  · rfl
theorem le_frozen (le : Le S K w pubs w' M') {a : Addr} (ha : a.block < w.heap.size) : w'.frozen? a = w.frozen? a := by
  unfold World.frozen?
  rw [le_block le ha]
end
section
variable {H : Type} {enc : TypeId × Value → H} {P : Program}
theorem trodAll_stays (hl : laidOutB P = true) {w w' : World} {sp : Nat → Bool} : ∀ {ts : List TypeId} {vs : List Value} {ds : List (DataW H)} {ps : List MemPlace}, (∀ t ∈ ts, P.readableRec t = true ∧ t < P.types.size) →
    DataW.TrodAll enc P w 0 (fun _ => true) true ts vs ds ps → (∀ p ∈ ps, w.sameAt w' p) → (∀ p ∈ ps, sp p.block = true) → DataW.TrodAll enc P w' 0 sp true ts vs ds ps
  | [], [], [], _, _, h, _, _ => h
  | t :: ts, v :: vs, d :: ds, _, ht, ⟨p, q, h1, h2, e⟩, hs, hsp => by
    subst e
    have h0 := ht t List.mem_cons_self
    exact ⟨p, q, Go.WideElems.Trod_stays hl h0.1 h0.2 h1 (fun x hx => hs x (List.mem_append_left _ hx)) (fun x hx => hsp x (List.mem_append_left _ hx)),
      trodAll_stays hl (fun t h => ht t (List.mem_cons_of_mem _ h)) h2 (fun x hx => hs x (List.mem_append_right _ hx)) (fun x hx => hsp x (List.mem_append_right _ hx)), rfl⟩
theorem post_true {f : Func} {s : ChangeSpec} {apart fresh handsOn again : Bool} {W W' : World} {args : Array Value} {ds : List (DataW H)} {before : List MemPlace} {S K : Nat → Prop} {M' : Tags}
    (hl : laidOutB P = true) (hv : s.vars = []) (hrd : ∀ t ∈ f.params.toList, P.readableRec t = true ∧ t < P.types.size) {tb : TypeId} (htb : P.underlying tb = some .bool) (hrt : f.resultTypes = #[tb])
    (hW : DataW.Whole enc P f.params.toList s.vars apart W args.toList ds [] before) (hres : (s.fn H (ds ++ [])).results = [.lit (.bool true)]) (hargs : (s.fn H (ds ++ [])).args = ds) (hvars : (s.fn H (ds ++ [])).vars = [])
    (le : Le S K W pubs W' M') : s.post enc P f apart fresh handsOn again W args (.bool true) W' := by
  have hW0 := hW
  obtain ⟨p, q, hA, hV, hb, hfz, hn⟩ := hW0
  have hlt := DataW.TrodAll.lt hA
  have hq : q = [] := by rw [hv] at hV; exact (trodVars_none hV).2
  subst hq
  have hbp : before = p := by rw [hb]; simp
  have hre : ∀ (b : Nat) (sp : Nat → Bool) (hd : Bool), DataW.TrodAll enc P W' b sp hd f.resultTypes.toList ((Value.bool true).resultList f.resultTypes.size) (s.fn H (ds ++ [])).results [] := fun b sp hd => by
    rw [hrt, hres]; exact trodAll_mk1 (shut_bool htb true)
  have har : ∀ sp : Nat → Bool, (∀ x ∈ p, sp x.block = true) → DataW.TrodAll enc P W' 0 sp true f.params.toList args.toList (s.fn H (ds ++ [])).args p := fun sp hsp => by
    rw [hargs]; exact trodAll_stays hl hrd hA (fun x hx => le_same le (hlt x hx)) hsp
  have hva : ∀ sp : Nat → Bool, DataW.TrodVars enc P W' sp s.vars (s.fn H (ds ++ [])).vars [] := fun sp => by
    rw [hvars, hv]; exact rfl
  have hok : ∀ (j : Nat) (t : TypeId) (r : Value), f.resultTypes[j]? = some t → ((Value.bool true).resultList f.resultTypes.size)[j]? = some r → Value.okWide P W' .any 0 t r := by
    exact ok_one (by rw [hrt]) rfl (okWide_bool_mk htb true)
  refine ⟨ds, [], before, [], p, [], hW, hre _ _ _, har _ (fun x hx => by simpa using hlt x hx), hva _, World.keptBut_mono (fun x hx => hx) (le_kept le _), fun _ => ?_⟩
  refine ⟨hok, _, _, ([] ++ p) ++ [], ⟨[] ++ p, [], trodAll_append (har _ (fun _ _ => rfl)) (hre _ _ _), hva _, rfl, ?_, ?_⟩, ?_⟩
  · intro b off hp
    have hp' : MemPlace.cell b off ∈ p := by simpa using hp
    rw [le_frozen le (hlt _ hp')]
    exact hfz b off (by rw [hbp]; exact hp')
  · intro ha
    have := hn ha
    rw [hbp] at this
    simpa using this
  · intro x hx _
    rw [hbp]
    simpa using hx
end
end Go.T

namespace Go.Proofs.YtjjndkenddigiaaGreatDoor
open Go Go.T Go.RowKit Go.ChangeShapes Go.WideShapes Go.ChangeAt
theorem gPow : Tryz.prog.globalNamed "internal/strconv.uint64pow10" = some 3 := by kernel_rfl
theorem tPow : (Tryz.prog.globals[3]?).map (·.type) = some 219 := by kernel_rfl
theorem uPow : Tryz.prog.underlying 219 = some (.array 20 188) := by kernel_rfl
theorem uPowE : Tryz.prog.underlying 188 = some (.int .u64) := by kernel_rfl
theorem arr_cells {H : Type} {enc : TypeId × Value → H} {W : World} {base : Nat} {spare : Nat → Bool} {held : Bool} {m n t : Nat} {k : IntKind} {cs : List Value} {xs : List (DataW H × List MemPlace)} {zs : List Int} (hE : Tryz.prog.underlying t = some (.int k)) (hc : Tryz.prog.cellsOf t = 1) (hlen : cs.length = n) (hxl : xs.length = n) (hzl : zs.length = n)
    (hel : ∀ i, i < n → DataW.trod enc Tryz.prog W base spare held m t ((cs.drop (i * Tryz.prog.cellsOf t)).take (Tryz.prog.cellsOf t)) = xs[i]?) (hx : xs.map (·.1) = zs.map fun z => .lit (.int k z)) : cs = zs.map fun z => .int k z := by
  apply List.ext_getElem (by simp [hlen, hzl])
  intro i h1 h2
  have hi : i < n := by omega
  have h := hel i hi
  rw [hc, Nat.mul_one, List.drop_eq_getElem_cons h1, List.take_succ_cons, List.take_zero, List.getElem?_eq_getElem (by omega)] at h
  obtain ⟨z, e1, e2, _⟩ := DataW.trod_int hE h
  have e3 : (xs.map (·.1))[i]? = some (.lit (.int k z)) := by rw [List.getElem?_map, List.getElem?_eq_getElem (by omega), e2]; rfl
  rw [hx, List.getElem?_map, List.getElem?_eq_getElem (by omega)] at e3
  simp only [Option.map_some, Option.some.injEq, DataW.lit.injEq, Lit.int.injEq, true_and] at e3
  have e4 : cs[i] = .int k z := by injection e1
  rw [e4, List.getElem_map, e3]
section
variable {H : Type} {enc : TypeId × Value → H} {W : World} {base : Nat} {held : Bool} {v : Value} {d : DataW H} {p : List MemPlace}
end
end Go.Proofs.YtjjndkenddigiaaGreatDoor

namespace Go.Proofs.YtjjndkenddigiaaGreatDoor
open Go Go.T Go.RowKit Go.ChangeShapes Go.WideShapes Go.ChangeAt
theorem rdU8n : Rd Tryz.prog 5 U8 := ⟨by kernel_rfl, by decide, fun h => by
  obtain ⟨i, rfl, _⟩ := DataW.trod_int Tryz.underlying5 h
  exact ⟨i, rfl, trivial⟩⟩
section
variable {H : Type} {enc : TypeId × Value → H} {W : World} {base : Nat} {held : Bool} {v : Value} {d : DataW H} {p : List MemPlace}
set_option maxRecDepth 100000 in
theorem rd_sack (hv : Value.okWide Tryz.prog W .any base 81 v) (h : DataW.Trod enc Tryz.prog W 0 (fun _ => true) held 81 v d p) : ∃ l, (Ty.sl U8 l).den W pubs v := by
  obtain ⟨a, len, cap, rfl⟩ := okWide_slice Tryz.underlying81 hv
  obtain ⟨n, hn⟩ := h
  exact rd_sl1 rdU8n Tryz.underlying81 (by simpa [Value.cells] using hn)
end
end Go.Proofs.YtjjndkenddigiaaGreatDoor
