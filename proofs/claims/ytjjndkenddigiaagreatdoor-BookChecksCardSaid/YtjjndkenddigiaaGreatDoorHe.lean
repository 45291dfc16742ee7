/- Lemmas: the program and the reference walked, plain laws. -/
import Derived.Test.YtjjndkenddigiaaGreatDoorHd
namespace Go.Proofs.YtjjndkenddigiaaGreatDoor
open Go Go.T
set_option maxHeartbeats 4000000
def allT (l : List BRow) : List (BRow × Bool) := l.map fun r => (r, true)
theorem half_allT {k : Nat} {l : List BRow} (h : k = l.length) : halfL k l = allT l := by subst h; exact half_end l
theorem all_app (l : List BRow) (r : BRow) : allT l ++ [(r, true)] = allT (l ++ [r]) := by simp [allT]
theorem all_len (l : List BRow) : (allT l).length = l.length := by simp [allT]
theorem all_nth {l : List BRow} {k : Nat} (h : k < l.length) : nth (allT l) k = (nth l k, true) := by
  unfold allT nth
  rw [List.getD_eq_getElem?_getD, List.getD_eq_getElem?_getD, List.getElem?_map, List.getElem?_eq_getElem h]; rfl
theorem all_set (l : List BRow) (k : Nat) (r : BRow) : (allT l).set k (r, true) = allT (l.set k r) := by unfold allT; rw [List.map_set]
theorem all_subs (m : Nat) (l : List BRow) : Subs ((allT l).flatMap (BRowH m).tys) (l.flatMap (BRowV m).tys) := half_flat1 m l
theorem all_subs2 (m : Nat) {l : List BRow} {xs : List (BRow × Bool)} (h : xs = allT l) : Subs (xs.flatMap (BRowH m).tys) (l.flatMap (BRowV m).tys) := h ▸ all_subs m l
attribute [local irreducible] putV strV corV bokY rowY inB
attribute [local irreducible] dInt dBool dSl dPp dPtr dAgg dTup dClo dAny dEx dStr dGd dCells dVec dVs dRow dOp nth Tri Into TOps Ctr bodyPost Exit.then Exit.inBlock Code.wp Code.wpIn dPa dArr dMp dMap CtrG keepPost iterPost bodyPostM roundQ
set_option maxRecDepth 100000 in
theorem n_ownK (m : Nat) (b : Book) (h : b.rows.length ≤ 13) (hw : b.form.widths.length ≤ 1000) (hn : ∀ r ∈ b.rows, r.nums.length ≤ 1000) : CtrG Tryz.prog 95 [] [(4998, Cont.lo m)] [bokT b] [(22, Cont.rcv (BRowH m) 66 (allT b.rows) (some (b.rows.length + 1)))] (Ty.agg [Ty.nw m I64 3 b.form.widths, Ty.int .i64 b.form.lines, Ty.rc 22 b.rows.length (some (b.rows.length + 1))]) := by
  refine fnG_intro Tryz.func95 rfl (by decide) Tryz.ntmps95 (by exact Nat.le_of_ble_eq_true rfl) fun w0 M0 => ?_
  refine t_seq ?_
  refine t_region ?_
  refine r_box_agg rfl ?_
  refine r_alloc rfl (by exact List.cons_ne_nil _ _) rfl ?_
  refine r_nil ?_
  refine i_then ?_
  refine t_seq ?_
  refine t_draw mixed rfl ?_
  refine r_field_pp rfl rfl rfl rfl rfl (by decide) ?_
  refine r_field_pp rfl rfl rfl rfl rfl (by decide) ?_
  refine r_load_pp rfl rfl rfl rfl ?_
  refine r_callN (n_Clone_int _ hw) rfl rfl rfl rfl rfl rfl ?_
  refine r_field_pp rfl rfl rfl rfl rfl (by decide) ?_
  refine r_field_pp rfl rfl rfl rfl rfl (by decide) ?_
  refine r_load_pp rfl rfl rfl rfl ?_
  refine r_build rfl rfl (by exact List.cons_ne_nil _ _) rfl (by repeat (first | exact (Parts.nil : Parts _ _ [] _) | (show Parts _ _ ((_, _) :: _) _; apply Parts.one; (· first | exact (rfl : _ = Ty.int _ _) | exact (rfl : _ = Ty.nw _ _ _ _)); (· exact rfl)))) (by exact (rfl : _ = some [_, _])) ?_
  refine r_field_pp rfl rfl rfl rfl rfl (by decide) ?_
  refine r_load_pp rfl rfl rfl rfl ?_
  refine r_len rfl rfl rfl ?_
  refine r_field_pp rfl rfl rfl rfl rfl (by decide) ?_
  refine r_load_pp rfl rfl rfl rfl ?_
  refine r_len rfl rfl rfl ?_
  refine r_add rfl rfl (by omega) (by omega) ?_
  refine r_makeRcZ (E := BRowH m) (x0 := (⟨[], false⟩, false)) rfl rfl rfl rfl rfl rfl zro_rowH (by decide) rfl (by omega) (by omega) (by (dsimp only; omega)) (by omega) ?_
  refine r_build rfl rfl (by exact List.cons_ne_nil _ _) rfl (by repeat (first | exact (Parts.nil : Parts _ _ [] _) | (show Parts _ _ ((_, _) :: _) _; apply Parts.one; (· exact (rfl : _ = Ty.rc _ _ _)); (· exact rfl)) | (show Parts _ _ ((_, _) :: _) _; apply Parts.agg; (· exact (rfl : _ = Ty.agg _))))) (by exact (rfl : _ = some [_, _, _])) ?_
  refine r_alloc rfl (by exact List.cons_ne_nil _ _) rfl ?_
  refine r_storeN rfl rfl (by decide) rfl rfl rfl rfl rfl rfl ?_
  refine r_nil ?_
  refine ⟨by kernel_rfl, ?_⟩
  refine i_then ?_
  refine t_seq ?_
  refine t_region ?_
  refine r_field_ptr rfl rfl rfl rfl rfl (by decide) ?_
  refine r_load_ptr rfl rfl (by decide) rfl rfl rfl ?_
  refine r_field_pp rfl rfl rfl rfl rfl (by decide) ?_
  refine tops_weak (Ty.sl (BRowH m) (b.rows.map fun r => (r, false))) (by apply opT_of; refine r_load_pp rfl rfl rfl rfl ?_; refine r_nil ?_; exact rfl) (sl_half m b.rows) ?_
  refine r_copyRc (E := BRowH m) (ys := b.rows.map fun r => (r, false)) rfl rfl rfl (by decide) rfl rfl rfl rfl (by simp) (by simp) ?_
  refine r_nil ?_
  refine i_then ?_
  refine t_seq ?_
  refine t_seq ?_
  refine t_region ?_
  refine r_field_ptr rfl rfl rfl rfl rfl (by decide) ?_
  refine r_load_ptr rfl rfl (by decide) rfl rfl rfl ?_
  refine r_len_rc rfl rfl rfl ?_
  refine mvI rfl ?_
  refine r_nil ?_
  refine i_then ?_
  refine t_block ?_
  refine t_loop (fun (k : {k : Nat // k ≤ b.rows.length}) => live [(1, Ty.pp (bokTys b)), (2, Ty.ptr 3 0), (3, Ty.ptr 4 0), (29, Ty.rc 22 b.rows.length (some (b.rows.length + 1))), (30, Ty.int .i64 b.rows.length), (31, Ty.int .i64 (k.1 : Nat))] [(3, Cont.cells 27 [Ty.ex (.slice none 0 0), Ty.int .i64 0, Ty.ex (.slice none 0 0)]), (4, Cont.cells 27 [Ty.nw m I64 3 b.form.widths, Ty.int .i64 b.form.lines, Ty.rc 22 b.rows.length (some (b.rows.length + 1))]), (22, Cont.rcv (BRowH m) 66 (halfL k.1 b.rows) (some (b.rows.length + 1))), (4998, Cont.lo m)]) (fun k => b.rows.length - k.1) (⟨0, Nat.zero_le _⟩) ?_ fun k => ?_
  · (refine Ent.mk' ?_ ?_ <;> (repeat' (first | exact allSub_zero | exact allTags_nil | refine allSub_succ' ?_ (Ty.sub_any _) | refine allSub_succ' ?_ (Ty.sub_refl _) | refine allTags_cons rfl (Cont.sub_refl _) ?_ | refine allTags_cons rfl ?_ ?_)))
    all_goals exact Cont.sub_rcv (rep_half (by simp))
  ·
    have hk := k.2
    have hhl := half_len (l := b.rows) hk
    refine t_seq ?_
    refine t_region ?_
    refine r_bin rfl rfl rfl ?_
    refine r_nil ?_
    refine i_then ?_
    refine t_seq ?_
    refine t_cond_dec rfl (fun hc1 => ?_) (fun hc1 => ?_)
    ·
      refine t_skip ?_
      refine i_then ?_
      refine t_seq ?_
      refine t_block ?_
      refine t_seq ?_
      have hkl : k.1 < b.rows.length := by omega
      have hnk := hn _ (nth_mem hkl)
      have hnh := half_nth hkl
      refine t_region ?_
      refine mvI rfl ?_
      refine r_index_rc rfl rfl rfl rfl rfl (by omega) ?_
      refine tops_weak (Ty.agg (BRowE.tys (nth b.rows k.1))) (by apply opT_of; refine r_load_rcE (E := BRowH m) (tg := 22) k.1 rfl rfl rfl (by decide) rfl rfl rfl (by omega) ?_; refine r_nil ?_; exact rfl) (by show (Ty.agg ((BRowH m).tys (nth (halfL k.1 b.rows) k.1))).Sub _; rw [hnh]; exact Ty.sub_refl _) ?_
      refine r_alloc rfl (by exact List.cons_ne_nil _ _) rfl ?_
      refine asI rfl ?_
      refine r_storeN rfl rfl (by decide) rfl rfl rfl rfl rfl rfl ?_
      refine r_nil ?_
      refine i_then ?_
      refine t_draw mixed rfl ?_
      refine r_field_ptr rfl rfl rfl rfl rfl (by decide) ?_
      refine r_load_ptr rfl rfl (by decide) rfl rfl rfl ?_
      refine mvI rfl ?_
      refine r_field_ptr rfl rfl rfl rfl rfl (by decide) ?_
      refine r_load_ptr rfl rfl (by decide) rfl rfl rfl ?_
      refine r_callN (n_Clone_int _ hnk) rfl rfl rfl rfl rfl rfl ?_
      refine r_index_rc rfl rfl rfl rfl rfl (by omega) ?_
      refine r_field_ptr rfl rfl rfl rfl rfl (by decide) ?_
      refine r_store_rc (E := BRowH m) (tg := 22) (i := k.1) (o := 0) (z := (⟨(nth b.rows k.1).nums, (nth b.rows k.1).struck⟩, true)) rfl rfl (by decide) rfl rfl rfl rfl (by omega) (show 0 < 2 by decide) rfl (by rw [hnh]; rfl) ?_
      refine r_nil ?_
      refine ⟨by kernel_rfl, ?_⟩
      refine i_block ?_
      refine i_then ?_
      refine t_region ?_
      refine r_add rfl rfl (by omega) (by omega) ?_
      refine mvI rfl ?_
      refine r_nil ?_
      refine i_round (⟨k.1 + 1, by omega⟩) ?_ (by show b.rows.length - (k.1 + 1) < b.rows.length - k.1; omega)
      (refine Ent.mk' ?_ ?_ <;> (repeat' (first | exact allSub_zero | exact allTags_nil | refine allSub_succ' ?_ (Ty.sub_any _) | refine allSub_succ' ?_ (Ty.sub_refl _) | refine allTags_cons rfl (Cont.sub_refl _) ?_ | refine allTags_cons rfl ?_ ?_)))
      all_goals skip
      all_goals exact Cont.sub_rcv (half_set hkl)
    ·
      refine t_exit ?_
      refine i_then_exit ?_
      refine i_then_exit ?_
      refine i_block_exit rfl ?_
      refine i_then ?_
      refine t_seq ?_
      refine t_region ?_
      refine r_load_ptrN rfl rfl (by decide) rfl rfl (by exact Nat.le_of_ble_eq_true rfl) ?_
      refine r_storeN rfl rfl (by decide) rfl rfl rfl rfl rfl rfl ?_
      refine r_nil ?_
      refine i_then ?_
      refine t_ret ?_
      refine g_rcell [22] rfl rfl rfl rfl (by decide) rfl rfl rfl (by decide) ?_ ?_
      all_goals first | exact rc_cons rfl (cc_rcv (by decide) (half_allT (by omega))) rc_nil | trace_state
      all_goals skip
      all_goals exact rg_cv (cv_agg (cv_cons (cv_cons (cv_cons cv_nil (cv_rc (by decide))) (cv_pub rfl rfl)) (cv_pub rfl rfl)))
set_option maxRecDepth 100000 in
theorem n_Put (b : Book) (hb : ∀ r ∈ b.rows, Rng r.nums) (r : BRow) (hr : Rng r.nums) : CtrN Tryz.prog 41 [bokT b, rowT r] (fun m => Ty.tup [bokNT m (putV b r).1, Ty.int .i64 (putV b r).2]) := by
  refine fnN_intro Tryz.func41 rfl (by decide) Tryz.ntmps41 (by exact Nat.le_of_ble_eq_true rfl) fun m w0 M0 => ?_
  refine t_seq ?_
  refine t_region ?_
  refine r_box_agg rfl ?_
  refine r_box_agg rfl ?_
  refine r_alloc rfl (by exact List.cons_ne_nil _ _) rfl ?_
  refine asI rfl ?_
  refine r_nil ?_
  refine i_then ?_
  refine t_seq ?_
  refine t_seq ?_
  refine t_region ?_
  refine r_load_ppN rfl rfl rfl (by exact Nat.le_of_ble_eq_true rfl) ?_
  refine r_call (c_Check b hb) rfl rfl rfl rfl rfl ?_
  refine asI rfl ?_
  refine r_nil ?_
  refine i_then ?_
  refine t_seq ?_
  refine t_region ?_
  refine mvI rfl ?_
  refine r_bin rfl rfl rfl ?_
  refine r_nil ?_
  refine i_then ?_
  refine t_cond_ndec rfl (fun hc1 => ?_) (fun hc1 => ?_)
  ·
    refine t_seq ?_
    refine t_region ?_
    refine r_build rfl rfl (by exact List.cons_ne_nil _ _) rfl (by repeat (exact (Parts.nil : Parts _ _ [] _))) (by exact (rfl : _ = some [_, _, _])) ?_
    refine mvI rfl ?_
    refine r_storeN rfl rfl (by decide) rfl rfl rfl rfl rfl rfl ?_
    refine asI rfl ?_
    refine r_nil ?_
    refine i_then ?_
    refine t_ret ?_
    refine i_then_ret ?_
    refine i_rcell2 rfl rfl rfl rfl rfl (by decide) rfl rfl rfl ?_ ?_
    all_goals skip
    all_goals (rw [pv_1 hc1]; first | exact ret_sub rfl rfl zero_bokN | exact ret_refl rfl rfl)
  ·
    refine t_skip ?_
    refine i_then ?_
    refine t_seq ?_
    refine t_seq ?_
    refine t_region ?_
    refine r_field_pp rfl rfl rfl rfl rfl (by decide) ?_
    refine r_load_pp rfl rfl rfl rfl ?_
    refine r_len rfl rfl rfl ?_
    refine r_bin rfl rfl rfl ?_
    refine r_nil ?_
    refine i_then ?_
    refine t_cond_dec rfl (fun hc2 => ?_) (fun hc2 => ?_)
    ·
      refine t_seq ?_
      refine t_region ?_
      refine r_build rfl rfl (by exact List.cons_ne_nil _ _) rfl (by repeat (exact (Parts.nil : Parts _ _ [] _))) (by exact (rfl : _ = some [_, _, _])) ?_
      refine r_storeN rfl rfl (by decide) rfl rfl rfl rfl rfl rfl ?_
      refine asI rfl ?_
      refine r_nil ?_
      refine i_then ?_
      refine t_ret ?_
      refine i_then_ret ?_
      refine i_rcell2 rfl rfl rfl rfl rfl (by decide) rfl rfl rfl ?_ ?_
      all_goals skip
      all_goals (rw [pv_2 hc1 hc2]; first | exact ret_sub rfl rfl zero_bokN | exact ret_refl rfl rfl)
    ·
      refine t_skip ?_
      refine i_then ?_
      refine t_seq ?_
      refine t_seq ?_
      have hok := bokY_zero.1 (show bokY b = 0 by omega)
      refine t_region ?_
      refine r_field_pp rfl rfl rfl rfl rfl (by decide) ?_
      refine r_load_ppN rfl rfl rfl (by exact Nat.le_of_ble_eq_true rfl) ?_
      refine r_load_ppN rfl rfl rfl (by exact Nat.le_of_ble_eq_true rfl) ?_
      refine r_call (c_check b.form hok.form r hr) rfl rfl rfl rfl rfl ?_
      refine asI rfl ?_
      refine r_nil ?_
      refine i_then ?_
      refine t_seq ?_
      refine t_region ?_
      refine mvI rfl ?_
      refine r_bin rfl rfl rfl ?_
      refine r_nil ?_
      refine i_then ?_
      refine t_cond_ndec rfl (fun hc3 => ?_) (fun hc3 => ?_)
      ·
        refine t_seq ?_
        refine t_region ?_
        refine r_build rfl rfl (by exact List.cons_ne_nil _ _) rfl (by repeat (exact (Parts.nil : Parts _ _ [] _))) (by exact (rfl : _ = some [_, _, _])) ?_
        refine mvI rfl ?_
        refine r_storeN rfl rfl (by decide) rfl rfl rfl rfl rfl rfl ?_
        refine asI rfl ?_
        refine r_nil ?_
        refine i_then ?_
        refine t_ret ?_
        refine i_then_ret ?_
        refine i_rcell2 rfl rfl rfl rfl rfl (by decide) rfl rfl rfl ?_ ?_
        all_goals skip
        all_goals (rw [pv_3 hc1 hc2 hc3]; first | exact ret_sub rfl rfl zero_bokN | exact ret_refl rfl rfl)
      ·
        refine t_skip ?_
        refine i_then ?_
        refine t_seq ?_
        have hrk := rowY_zero.1 (show rowY b.form r = 0 by omega)
        have hfew := hok.few
        have hfw := hok.form.n2
        have hrl := hrk.len
        have hnl : ∀ r ∈ b.rows, r.nums.length ≤ 1000 := fun x hx => by have := (hok.row x hx).len; omega
        have hal := all_len b.rows
        refine t_region ?_
        refine r_load_ppN rfl rfl rfl (by exact Nat.le_of_ble_eq_true rfl) ?_
        refine r_callGN (res' := Ty.agg [Ty.nw m I64 3 b.form.widths, Ty.int .i64 b.form.lines, Ty.rc 50 b.rows.length (some (b.rows.length + 1))]) [(50, 22)] [50] [(50, Cont.rcv (BRowH m) 66 (allT b.rows) (some (b.rows.length + 1)))] (n_ownK m b (by omega) (by omega) hnl) rfl rfl rfl (cv_cons cv_nil (cv_pub rfl rfl)) pre_nil (post_cons (a := 50) (b := 22) (by exact List.mem_cons_self) rfl (cc_rcv (by exact List.mem_cons_self) rfl) post_nil) (cv_agg (cv_cons (cv_cons (cv_cons cv_nil (cv_rc (by exact List.mem_cons_self))) (cv_pub rfl rfl)) (cv_pub rfl rfl))) ?_
        refine r_alloc rfl (by exact List.cons_ne_nil _ _) rfl ?_
        refine r_storeN rfl rfl (by decide) rfl rfl rfl rfl rfl rfl ?_
        refine r_nil ?_
        refine i_then ?_
        refine t_seq ?_
        refine t_unownCellC (D := 9) (Tb := 27) (tg := 50) (E := BRowH m) [Ty.nw m I64 3 b.form.widths, Ty.int .i64 b.form.lines] (by decide) rfl rfl hal.symm ?_
        refine t_draw mixed rfl ?_
        refine r_field_ptr rfl rfl rfl rfl rfl (by decide) ?_
        refine r_load_ptr rfl rfl (by decide) rfl rfl rfl ?_
        refine r_field_pp rfl rfl rfl rfl rfl (by decide) ?_
        refine r_load_pp rfl rfl rfl rfl ?_
        refine r_callN (n_Clone_int r.nums (by omega)) rfl rfl rfl rfl rfl rfl ?_
        refine r_field_pp rfl rfl rfl rfl rfl (by decide) ?_
        refine r_load_pp rfl rfl rfl rfl ?_
        refine r_build rfl rfl (by exact List.cons_ne_nil _ _) rfl (by repeat (first | exact (Parts.nil : Parts _ _ [] _) | (show Parts _ _ ((_, _) :: _) _; apply Parts.one; (· first | exact (rfl : _ = Ty.bool _) | exact (rfl : _ = Ty.nw _ _ _ _)); (· exact rfl)))) (by exact (rfl : _ = some [_, _])) ?_
        refine r_buildSlice (E := BRowH m) (xs := [(r, true)]) rfl rfl rfl rfl rfl (by decide) (by decide) (by repeat (first | exact (Parts.nil : Parts _ _ [] _) | (show Parts _ _ ((_, _) :: _) _; apply Parts.agg; (· exact (rfl : _ = Ty.agg _))))) (by exact rfl) rfl ?_
        refine r_append rfl rfl (by decide) rfl rfl rfl rfl rfl rfl (by decide) (by (simp <;> omega)) (by (simp <;> omega)) ?_
        refine r_field_ptr rfl rfl rfl rfl rfl (by decide) ?_
        refine r_store1 rfl rfl (by decide) rfl rfl (by exact (rfl : _ = Ty.row _ _ _ _)) rfl (by exact Nat.le_of_ble_eq_true rfl) rfl rfl (by exact rfl) ?_
        refine r_nil ?_
        refine ⟨by kernel_rfl, ?_⟩
        refine i_then ?_
        refine t_seq ?_
        refine t_pubC (tg := 50) [] [(9, Cont.cells 27 (bokNTys m ⟨b.form, b.rows ++ [r]⟩))] (by decide) rfl trivial ⟨pubC_cells rfl rfl ⟨pubTy_same rfl, pubTy_same rfl, pubTy_rowN rfl (by decide) (show 1 ≤ 2 by decide) (by rw [all_app, all_len]) (all_subs2 m (all_app b.rows r)), trivial⟩, trivial⟩ ?_
        refine t_region ?_
        refine r_load_ptrN rfl rfl (by decide) rfl rfl (by exact Nat.le_of_ble_eq_true rfl) ?_
        refine r_storeN rfl rfl (by decide) rfl rfl rfl rfl rfl rfl ?_
        refine asI rfl ?_
        refine r_nil ?_
        refine i_then ?_
        refine t_ret ?_
        refine i_rcell2 rfl rfl rfl rfl rfl (by decide) rfl rfl rfl ?_ ?_
        all_goals skip
        all_goals (rw [pv_4 hc1 hc2 hc3]; exact ret_refl rfl rfl)
set_option maxRecDepth 100000 in
theorem n_Strike (b : Book) (hb : ∀ r ∈ b.rows, Rng r.nums) (i : Int) : CtrN Tryz.prog 42 [bokT b, Ty.int .i64 i] (fun m => Ty.tup [bokNT m (strV b i).1, Ty.int .i64 (strV b i).2]) := by
  refine fnN_intro Tryz.func42 rfl (by decide) Tryz.ntmps42 (by exact Nat.le_of_ble_eq_true rfl) fun m w0 M0 => ?_
  refine t_seq ?_
  refine t_region ?_
  refine r_box_agg rfl ?_
  refine r_alloc rfl (by exact List.cons_ne_nil _ _) rfl ?_
  refine asI rfl ?_
  refine r_nil ?_
  refine i_then ?_
  refine t_seq ?_
  refine t_seq ?_
  refine t_region ?_
  refine r_load_ppN rfl rfl rfl (by exact Nat.le_of_ble_eq_true rfl) ?_
  refine r_call (c_Check b hb) rfl rfl rfl rfl rfl ?_
  refine asI rfl ?_
  refine r_nil ?_
  refine i_then ?_
  refine t_seq ?_
  refine t_region ?_
  refine mvI rfl ?_
  refine r_bin rfl rfl rfl ?_
  refine r_nil ?_
  refine i_then ?_
  refine t_cond_ndec rfl (fun hc1 => ?_) (fun hc1 => ?_)
  ·
    refine t_seq ?_
    refine t_region ?_
    refine r_build rfl rfl (by exact List.cons_ne_nil _ _) rfl (by repeat (exact (Parts.nil : Parts _ _ [] _))) (by exact (rfl : _ = some [_, _, _])) ?_
    refine mvI rfl ?_
    refine r_storeN rfl rfl (by decide) rfl rfl rfl rfl rfl rfl ?_
    refine asI rfl ?_
    refine r_nil ?_
    refine i_then ?_
    refine t_ret ?_
    refine i_then_ret ?_
    refine i_rcell2 rfl rfl rfl rfl rfl (by decide) rfl rfl rfl ?_ ?_
    all_goals skip
    all_goals (rw [sv_1 hc1]; first | exact ret_sub rfl rfl zero_bokN | exact ret_refl rfl rfl)
  ·
    refine t_skip ?_
    refine i_then ?_
    refine t_seq ?_
    have hok := bokY_zero.1 (show bokY b = 0 by omega)
    have hfew := hok.few
    have hfw := hok.form.n2
    have hnl : ∀ r ∈ b.rows, r.nums.length ≤ 1000 := fun x hx => by have := (hok.row x hx).len; omega
    have hal := all_len b.rows
    refine t_region ?_
    refine r_load_ppN rfl rfl rfl (by exact Nat.le_of_ble_eq_true rfl) ?_
    refine r_makeMth rfl ?_
    refine asT2 rfl ?_
    refine r_nil ?_
    refine i_then ?_
    refine t_seq ?_
    refine t_block ?_
    refine t_seq ?_
    refine t_region ?_
    refine mvT2 rfl ?_
    refine mvI rfl ?_
    refine r_callc rfl (cal_mth (c_hasRow b (by omega) i) rfl rfl rfl rfl rfl rfl) rfl ?_
    refine r_not rfl ?_
    refine asB rfl ?_
    refine r_nil ?_
    refine i_then ?_
    refine t_cond rfl (fun hc2 => ?_) (fun hc2 => ?_)
    ·
      refine t_seq ?_
      refine t_region ?_
      refine r_build rfl rfl (by exact List.cons_ne_nil _ _) rfl (by repeat (exact (Parts.nil : Parts _ _ [] _))) (by exact (rfl : _ = some [_, _, _])) ?_
      refine r_storeN rfl rfl (by decide) rfl rfl rfl rfl rfl rfl ?_
      refine asI rfl ?_
      refine r_nil ?_
      refine i_then ?_
      refine t_ret ?_
      refine i_block_ret ?_
      refine i_then_ret ?_
      refine i_rcell2 rfl rfl rfl rfl rfl (by decide) rfl rfl rfl ?_ ?_
      all_goals skip
      all_goals (rw [sv_2 hc1 (by simpa using hc2)]; first | exact ret_sub rfl rfl zero_bokN | exact ret_refl rfl rfl)
    ·
      refine t_seq ?_
      obtain ⟨k, hk, hik⟩ := in_nat (show inB i 0 ((b.rows.length : Int) - 1) = true by simpa using hc2)
      subst hik
      have hnk := all_nth hk
      refine t_region ?_
      refine r_field_pp rfl rfl rfl rfl rfl (by decide) ?_
      refine r_load_pp rfl rfl rfl rfl ?_
      refine mvI rfl ?_
      refine r_index_slN rfl rfl rfl rfl rfl rfl (by omega) ?_
      refine r_field_pp rfl rfl rfl rfl rfl (by decide) ?_
      refine r_load_pp rfl rfl rfl rfl ?_
      refine asB rfl ?_
      refine r_nil ?_
      refine i_then ?_
      refine t_cond rfl (fun hc3 => ?_) (fun hc3 => ?_)
      ·
        refine t_seq ?_
        refine t_region ?_
        refine r_build rfl rfl (by exact List.cons_ne_nil _ _) rfl (by repeat (exact (Parts.nil : Parts _ _ [] _))) (by exact (rfl : _ = some [_, _, _])) ?_
        refine r_storeN rfl rfl (by decide) rfl rfl rfl rfl rfl rfl ?_
        refine asI rfl ?_
        refine r_nil ?_
        refine i_then ?_
        refine t_ret ?_
        refine i_block_ret ?_
        refine i_then_ret ?_
        refine i_rcell2 rfl rfl rfl rfl rfl (by decide) rfl rfl rfl ?_ ?_
        all_goals skip
        all_goals (rw [sv_3 hc1 hk hc3]; first | exact ret_sub rfl rfl zero_bokN | exact ret_refl rfl rfl)
      ·
        refine t_skip ?_
        refine i_block ?_
        refine i_then ?_
        refine t_seq ?_
        refine t_region ?_
        refine r_load_ppN rfl rfl rfl (by exact Nat.le_of_ble_eq_true rfl) ?_
        refine r_callGN (res' := Ty.agg [Ty.nw m I64 3 b.form.widths, Ty.int .i64 b.form.lines, Ty.rc 50 b.rows.length (some (b.rows.length + 1))]) [(50, 22)] [50] [(50, Cont.rcv (BRowH m) 66 (allT b.rows) (some (b.rows.length + 1)))] (n_ownK m b (by omega) (by omega) hnl) rfl rfl rfl (cv_cons cv_nil (cv_pub rfl rfl)) pre_nil (post_cons (a := 50) (b := 22) (by exact List.mem_cons_self) rfl (cc_rcv (by exact List.mem_cons_self) rfl) post_nil) (cv_agg (cv_cons (cv_cons (cv_cons cv_nil (cv_rc (by exact List.mem_cons_self))) (cv_pub rfl rfl)) (cv_pub rfl rfl))) ?_
        refine r_alloc rfl (by exact List.cons_ne_nil _ _) rfl ?_
        refine r_storeN rfl rfl (by decide) rfl rfl rfl rfl rfl rfl ?_
        refine r_nil ?_
        refine i_then ?_
        refine t_seq ?_
        refine t_region ?_
        refine r_field_ptr rfl rfl rfl rfl rfl (by decide) ?_
        refine r_load_ptr rfl rfl (by decide) rfl rfl rfl ?_
        refine mvI rfl ?_
        refine r_index_rc rfl rfl rfl rfl rfl (by omega) ?_
        refine r_field_ptr rfl rfl rfl rfl rfl (by decide) ?_
        refine r_store_rc (E := BRowH m) (tg := 50) (i := k) (o := 1) (z := (⟨(nth b.rows k).nums, true⟩, true)) rfl rfl (by decide) rfl rfl rfl rfl (by omega) (show 1 < 2 by decide) rfl (by rw [hnk]; rfl) ?_
        refine r_nil ?_
        refine i_then ?_
        refine t_seq ?_
        refine t_unownCellC (D := 9) (Tb := 27) (tg := 50) (E := BRowH m) [Ty.nw m I64 3 b.form.widths, Ty.int .i64 b.form.lines] (by decide) rfl rfl (by rw [List.length_set, hal]) ?_
        refine t_pubC (tg := 50) [] [(9, Cont.cells 27 (bokNTys m ⟨b.form, b.rows.set k ⟨(nth b.rows k).nums, true⟩⟩))] (by decide) rfl trivial ⟨pubC_cells rfl rfl ⟨pubTy_same rfl, pubTy_same rfl, pubTy_rowN rfl (by decide) (show 1 ≤ 2 by decide) (by rw [all_set, all_len]) (all_subs2 m (all_set b.rows k _)), trivial⟩, trivial⟩ ?_
        refine t_region ?_
        refine r_load_ptrN rfl rfl (by decide) rfl rfl (by exact Nat.le_of_ble_eq_true rfl) ?_
        refine r_storeN rfl rfl (by decide) rfl rfl rfl rfl rfl rfl ?_
        refine asI rfl ?_
        refine r_nil ?_
        refine i_then ?_
        refine t_ret ?_
        refine i_rcell2 rfl rfl rfl rfl rfl (by decide) rfl rfl rfl ?_ ?_
        all_goals skip
        all_goals (rw [sv_4 hc1 hk hc3]; exact ret_refl rfl rfl)
set_option maxRecDepth 100000 in
theorem n_Correct (b : Book) (hb : ∀ r ∈ b.rows, Rng r.nums) (i : Int) (r : BRow) (hr : Rng r.nums) : CtrN Tryz.prog 43 [bokT b, Ty.int .i64 i, rowT r] (fun m => Ty.tup [bokNT m (corV b i r).1, Ty.int .i64 (corV b i r).2]) := by
  refine fnN_intro Tryz.func43 rfl (by decide) Tryz.ntmps43 (by exact Nat.le_of_ble_eq_true rfl) fun m w0 M0 => ?_
  refine t_seq ?_
  refine t_region ?_
  refine r_box_agg rfl ?_
  refine r_box_agg rfl ?_
  refine r_alloc rfl (by exact List.cons_ne_nil _ _) rfl ?_
  refine asI rfl ?_
  refine r_nil ?_
  refine i_then ?_
  refine t_seq ?_
  refine t_region ?_
  refine r_load_ppN rfl rfl rfl (by exact Nat.le_of_ble_eq_true rfl) ?_
  refine mvI rfl ?_
  refine r_callN (n_Strike b hb i) rfl rfl rfl rfl rfl rfl ?_
  refine mvT rfl ?_
  refine r_extract rfl rfl ?_
  refine r_extract rfl rfl ?_
  refine r_alloc rfl (by exact List.cons_ne_nil _ _) rfl ?_
  refine r_storeN rfl rfl (by decide) rfl rfl rfl rfl rfl rfl ?_
  refine asI rfl ?_
  refine r_nil ?_
  refine i_then ?_
  refine t_seq ?_
  refine t_seq ?_
  refine t_region ?_
  refine mvI rfl ?_
  refine r_bin rfl rfl rfl ?_
  refine r_nil ?_
  refine i_then ?_
  refine t_cond_ndec rfl (fun hc1 => ?_) (fun hc1 => ?_)
  ·
    refine t_seq ?_
    refine t_region ?_
    refine r_build rfl rfl (by exact List.cons_ne_nil _ _) rfl (by repeat (exact (Parts.nil : Parts _ _ [] _))) (by exact (rfl : _ = some [_, _, _])) ?_
    refine mvI rfl ?_
    refine r_storeN rfl rfl (by decide) rfl rfl rfl rfl rfl rfl ?_
    refine asI rfl ?_
    refine r_nil ?_
    refine i_then ?_
    refine t_ret ?_
    refine i_then_ret ?_
    refine i_rcell2 rfl rfl rfl rfl rfl (by decide) rfl rfl rfl ?_ ?_
    all_goals skip
    all_goals (rw [cv_1 hc1]; first | exact ret_sub rfl rfl zero_bokN | exact ret_refl rfl rfl)
  ·
    refine t_skip ?_
    refine i_then ?_
    refine t_seq ?_
    refine t_asC (tg := 9) (D := Cont.cells 27 (bokTys (strV b i).1)) rfl (Cont.sub_subs ⟨nw_sl fun _ => subs_refl, Ty.sub_refl _, nw_sl (rowV_sub m), trivial⟩) ?_
    refine t_region ?_
    refine r_load_ptrN rfl rfl (by decide) rfl rfl (by exact Nat.le_of_ble_eq_true rfl) ?_
    refine r_load_ppN rfl rfl rfl (by exact Nat.le_of_ble_eq_true rfl) ?_
    refine r_callN (n_Put (strV b i).1 (str_rng hb i) r hr) rfl rfl rfl rfl rfl rfl ?_
    refine r_extract rfl rfl ?_
    refine r_extract rfl rfl ?_
    refine r_storeN rfl rfl (by decide) rfl rfl rfl rfl rfl rfl ?_
    refine asI rfl ?_
    refine r_nil ?_
    refine i_then ?_
    refine t_ret ?_
    refine i_rcell2 rfl rfl rfl rfl rfl (by decide) rfl rfl rfl ?_ ?_
    all_goals skip
    all_goals (rw [cv_2 hc1]; exact ret_refl rfl rfl)
end Go.Proofs.YtjjndkenddigiaaGreatDoor

namespace Go.Proofs.YtjjndkenddigiaaGreatDoor
open Go Go.T
def stkR (b : Book) (i : Nat) : Book := ⟨b.form, b.rows.set i ⟨(nth b.rows i).nums, true⟩⟩
theorem stk_ok {b : Book} (hb : BookOk b) {i : Nat} (hi : i < b.rows.length) : BookOk (stkR b i) := by
  refine ⟨hb.form, by have := hb.few; simpa [stkR] using this, fun r hr => ?_⟩
  rcases List.mem_or_eq_of_mem_set (show r ∈ b.rows.set i ⟨(nth b.rows i).nums, true⟩ from hr) with h | h
  · exact hb.row r h
  · subst h
    have := hb.row _ (nth_mem hi)
    exact ⟨this.len, this.num⟩
end Go.Proofs.YtjjndkenddigiaaGreatDoor

namespace Go.Proofs.YtjjndkenddigiaaGreatDoor
open Go Go.T
set_option maxHeartbeats 4000000
theorem off_inZ {i lo hi : Int} (h : offB i lo hi = true) : inB i lo hi = false := by
  have e := inB_off i lo hi
  rw [h] at e; simpa using e
theorem off_outZ {i lo hi : Int} (h : offB i lo hi = false) : inB i lo hi = true := by
  have e := inB_off i lo hi
  rw [h] at e; simpa using e
theorem strV_ok {b : Book} (hb : BookOk b) {i : Int} (h : (strV b i).2 = 0) : BookOk (strV b i).1 := by
  unfold strV at h ⊢
  rw [if_neg (fun e => e (bokY_zero.2 hb))] at h ⊢
  by_cases h1 : inB i 0 ((b.rows.length : Int) - 1) = false
  · rw [if_pos h1] at h; cases h
  · rw [if_neg h1] at h ⊢
    by_cases h2 : (nth b.rows i.toNat).struck = true
    · rw [if_pos h2] at h; cases h
    · rw [if_neg h2]
      have hi := inB_true.1 (show inB i 0 ((b.rows.length : Int) - 1) = true by simpa using h1)
      exact stk_ok hb (show i.toNat < b.rows.length by omega)
attribute [local irreducible] putV strV corV bokY rowY inB offB
attribute [local irreducible] dInt dBool dSl dPp dPtr dAgg dTup dClo dAny dEx dStr dGd dCells dVec dVs dRow dOp nth Tri Into TOps Ctr bodyPost Exit.then Exit.inBlock Code.wp Code.wpIn dPa dArr dMp dMap CtrG keepPost iterPost bodyPostM roundQ
set_option maxRecDepth 100000 in
theorem k_copied (b : Book) (hl : b.rows.length ≤ 1000) : CtrG Tryz.prog 93 [] [] [bokT b] [] (Ty.agg [Ty.sl I64 b.form.widths, Ty.int .i64 b.form.lines, Ty.row BRowE 67 6 b.rows]) := by
  refine fnG_intro Tryz.func93 rfl (by decide) Tryz.ntmps93 (by exact Nat.le_of_ble_eq_true rfl) fun w0 M0 => ?_
  refine t_seq ?_
  refine t_region ?_
  refine r_box_agg rfl ?_
  refine r_alloc rfl (by exact List.cons_ne_nil _ _) rfl ?_
  refine r_nil ?_
  refine i_then ?_
  refine t_seq ?_
  refine t_draw mixed rfl ?_
  refine r_field_pp rfl rfl rfl rfl rfl (by decide) ?_
  refine r_load_ppN rfl rfl rfl (by exact Nat.le_of_ble_eq_true rfl) ?_
  refine r_buildRow (E := BRowE) rfl rfl rfl rfl ?_
  refine r_field_pp rfl rfl rfl rfl rfl (by decide) ?_
  refine r_load_pp rfl rfl rfl rfl ?_
  refine r_append rfl rfl (by decide) rfl rfl rfl rfl rfl rfl (by decide) (by (simp <;> omega)) (by (simp <;> omega)) ?_
  refine r_build rfl rfl (by exact List.cons_ne_nil _ _) rfl (by repeat (first | exact (Parts.nil : Parts _ _ [] _) | (show Parts _ _ ((_, _) :: _) _; apply Parts.one; (· exact (rfl : _ = Ty.row _ _ _ _)); (· exact rfl)) | (show Parts _ _ ((_, _) :: _) _; apply Parts.agg; (· exact (rfl : _ = Ty.agg _))))) (by exact (rfl : _ = some [_, _, _])) ?_
  refine r_storeN rfl rfl (by decide) rfl rfl rfl rfl rfl rfl ?_
  refine r_nil ?_
  refine ⟨by kernel_rfl, ?_⟩
  refine i_then ?_
  refine t_ret ?_
  refine g_rcell [6] rfl rfl rfl rfl (by decide) rfl rfl rfl (by decide) (by repeat (exact rc_nil)) ?_
  all_goals skip
  all_goals exact rg_cv (cv_agg (cv_cons (cv_cons (cv_cons cv_nil (cv_row (by decide))) (cv_pub rfl rfl)) (cv_pub rfl rfl)))
set_option maxRecDepth 100000 in
theorem c_rPut (b : Book) (hb : BookOk b) (r : BRow) : Ctr Tryz.prog 37 [bokT b, rowT r] (Ty.tup [bokT (putV b r).1, Ty.int .i64 (putV b r).2]) := by
  refine fn_intro Tryz.func37 rfl (by decide) Tryz.ntmps37 (by exact Nat.le_of_ble_eq_true rfl) fun w0 M0 => ?_
  have hok := bokY_zero.2 hb
  have hfew := hb.few
  refine t_seq ?_
  refine t_region ?_
  refine r_box_agg rfl ?_
  refine r_box_agg rfl ?_
  refine r_alloc rfl (by exact List.cons_ne_nil _ _) rfl ?_
  refine asI rfl ?_
  refine r_nil ?_
  refine i_then ?_
  refine t_seq ?_
  refine t_seq ?_
  refine t_region ?_
  refine r_field_pp rfl rfl rfl rfl rfl (by decide) ?_
  refine r_load_pp rfl rfl rfl rfl ?_
  refine r_len rfl rfl rfl ?_
  refine r_bin rfl rfl rfl ?_
  refine r_nil ?_
  refine i_then ?_
  refine t_cond_dec rfl (fun hc1 => ?_) (fun hc1 => ?_)
  ·
    refine t_seq ?_
    refine t_region ?_
    refine r_build rfl rfl (by exact List.cons_ne_nil _ _) rfl (by repeat (exact (Parts.nil : Parts _ _ [] _))) (by exact (rfl : _ = some [_, _, _])) ?_
    refine r_storeN rfl rfl (by decide) rfl rfl rfl rfl rfl rfl ?_
    refine asI rfl ?_
    refine r_nil ?_
    refine i_then ?_
    refine t_ret ?_
    refine i_then_ret ?_
    refine i_rcell2 rfl rfl rfl rfl rfl (by decide) rfl rfl rfl ?_ ?_
    all_goals skip
    all_goals (rw [pv_2 hok hc1]; first | exact ret_sub rfl rfl zero_bok | exact ret_refl rfl rfl)
  ·
    refine t_skip ?_
    refine i_then ?_
    refine t_seq ?_
    refine t_seq ?_
    refine t_region ?_
    refine r_field_pp rfl rfl rfl rfl rfl (by decide) ?_
    refine r_load_ppN rfl rfl rfl (by exact Nat.le_of_ble_eq_true rfl) ?_
    refine r_load_ppN rfl rfl rfl (by exact Nat.le_of_ble_eq_true rfl) ?_
    refine r_call (c_rCheckRow b.form hb.form r) rfl rfl rfl rfl rfl ?_
    refine asI rfl ?_
    refine r_nil ?_
    refine i_then ?_
    refine t_seq ?_
    refine t_region ?_
    refine mvI rfl ?_
    refine r_bin rfl rfl rfl ?_
    refine r_nil ?_
    refine i_then ?_
    refine t_cond_ndec rfl (fun hc2 => ?_) (fun hc2 => ?_)
    ·
      refine t_seq ?_
      refine t_region ?_
      refine r_build rfl rfl (by exact List.cons_ne_nil _ _) rfl (by repeat (exact (Parts.nil : Parts _ _ [] _))) (by exact (rfl : _ = some [_, _, _])) ?_
      refine mvI rfl ?_
      refine r_storeN rfl rfl (by decide) rfl rfl rfl rfl rfl rfl ?_
      refine asI rfl ?_
      refine r_nil ?_
      refine i_then ?_
      refine t_ret ?_
      refine i_then_ret ?_
      refine i_rcell2 rfl rfl rfl rfl rfl (by decide) rfl rfl rfl ?_ ?_
      all_goals skip
      all_goals (rw [pv_3 hok hc1 hc2]; first | exact ret_sub rfl rfl zero_bok | exact ret_refl rfl rfl)
    ·
      refine t_skip ?_
      refine i_then ?_
      refine t_seq ?_
      refine t_region ?_
      refine r_load_ppN rfl rfl rfl (by exact Nat.le_of_ble_eq_true rfl) ?_
      refine r_callG (res' := Ty.agg [Ty.sl I64 b.form.widths, Ty.int .i64 b.form.lines, Ty.row BRowE 67 50 b.rows]) [(50, 6)] [50] [] (k_copied b (by omega)) rfl rfl (cv_cons cv_nil (cv_pub rfl rfl)) pre_nil post_nil (cv_agg (cv_cons (cv_cons (cv_cons cv_nil (cv_row (by exact List.mem_cons_self))) (cv_pub rfl rfl)) (cv_pub rfl rfl))) ?_
      refine r_alloc rfl (by exact List.cons_ne_nil _ _) rfl ?_
      refine r_storeN rfl rfl (by decide) rfl rfl rfl rfl rfl rfl ?_
      refine r_nil ?_
      refine i_then ?_
      refine t_seq ?_
      refine t_region ?_
      refine r_field_ptr rfl rfl rfl rfl rfl (by decide) ?_
      refine r_load_ptr rfl rfl (by decide) rfl rfl rfl ?_
      refine r_load_ppN rfl rfl rfl (by exact Nat.le_of_ble_eq_true rfl) ?_
      refine r_buildSlice (E := BRowE) (xs := [r]) rfl rfl rfl rfl rfl (by decide) (by decide) (by repeat (first | exact (Parts.nil : Parts _ _ [] _) | (show Parts _ _ ((_, _) :: _) _; apply Parts.agg; (· exact (rfl : _ = Ty.agg _))))) (by exact rfl) rfl ?_
      refine r_append rfl rfl (by decide) rfl rfl rfl rfl rfl rfl (by decide) (by (simp <;> omega)) (by (simp <;> omega)) ?_
      refine r_field_ptr rfl rfl rfl rfl rfl (by decide) ?_
      refine r_store1 rfl rfl (by decide) rfl rfl (by exact (rfl : _ = Ty.row _ _ _ _)) rfl (by exact Nat.le_of_ble_eq_true rfl) rfl rfl (by exact rfl) ?_
      refine r_nil ?_
      refine i_then ?_
      refine t_seq ?_
      refine t_pubC (tg := 50) [] [(8, Cont.cells 34 (bokTys ⟨b.form, b.rows ++ [r]⟩))] (by decide) rfl trivial ⟨pubC_cells rfl rfl ⟨pubTy_same rfl, pubTy_same rfl, pubTy_row, trivial⟩, trivial⟩ ?_
      refine t_region ?_
      refine r_load_ptrN rfl rfl (by decide) rfl rfl (by exact Nat.le_of_ble_eq_true rfl) ?_
      refine r_storeN rfl rfl (by decide) rfl rfl rfl rfl rfl rfl ?_
      refine asI rfl ?_
      refine r_nil ?_
      refine i_then ?_
      refine t_ret ?_
      refine i_rcell2 rfl rfl rfl rfl rfl (by decide) rfl rfl rfl ?_ ?_
      all_goals skip
      all_goals (rw [pv_4 hok hc1 hc2]; exact ret_refl rfl rfl)
set_option maxRecDepth 100000 in
theorem c_rStrike (b : Book) (hb : BookOk b) (i : Int) : Ctr Tryz.prog 38 [bokT b, Ty.int .i64 i] (Ty.tup [bokT (strV b i).1, Ty.int .i64 (strV b i).2]) := by
  refine fn_intro Tryz.func38 rfl (by decide) Tryz.ntmps38 (by exact Nat.le_of_ble_eq_true rfl) fun w0 M0 => ?_
  have hok := bokY_zero.2 hb
  have hfew := hb.few
  refine t_seq ?_
  refine t_region ?_
  refine r_box_agg rfl ?_
  refine r_alloc rfl (by exact List.cons_ne_nil _ _) rfl ?_
  refine asI rfl ?_
  refine r_nil ?_
  refine i_then ?_
  refine t_seq ?_
  refine t_seq ?_
  refine t_region ?_
  refine mvI rfl ?_
  refine r_field_pp rfl rfl rfl rfl rfl (by decide) ?_
  refine r_load_pp rfl rfl rfl rfl ?_
  refine r_len rfl rfl rfl ?_
  refine r_sub rfl rfl (by omega) (by omega) ?_
  refine r_call (c_off _ _ _) rfl rfl rfl rfl rfl ?_
  refine r_nil ?_
  refine i_then ?_
  refine t_cond rfl (fun hc1 => ?_) (fun hc1 => ?_)
  ·
    refine t_seq ?_
    refine t_region ?_
    refine r_build rfl rfl (by exact List.cons_ne_nil _ _) rfl (by repeat (exact (Parts.nil : Parts _ _ [] _))) (by exact (rfl : _ = some [_, _, _])) ?_
    refine r_storeN rfl rfl (by decide) rfl rfl rfl rfl rfl rfl ?_
    refine asI rfl ?_
    refine r_nil ?_
    refine i_then ?_
    refine t_ret ?_
    refine i_then_ret ?_
    refine i_rcell2 rfl rfl rfl rfl rfl (by decide) rfl rfl rfl ?_ ?_
    all_goals skip
    all_goals (rw [sv_2 hok (off_inZ hc1)]; first | exact ret_sub rfl rfl zero_bok | exact ret_refl rfl rfl)
  ·
    refine t_skip ?_
    refine i_then ?_
    refine t_seq ?_
    refine t_seq ?_
    obtain ⟨k, hk, hik⟩ := in_nat (off_outZ hc1)
    subst hik
    refine t_region ?_
    refine r_field_pp rfl rfl rfl rfl rfl (by decide) ?_
    refine r_load_pp rfl rfl rfl rfl ?_
    refine mvI rfl ?_
    refine r_index_slN rfl rfl rfl rfl rfl rfl (by omega) ?_
    refine r_field_pp rfl rfl rfl rfl rfl (by decide) ?_
    refine r_load_pp rfl rfl rfl rfl ?_
    refine r_nil ?_
    refine i_then ?_
    refine t_cond rfl (fun hc2 => ?_) (fun hc2 => ?_)
    ·
      refine t_seq ?_
      refine t_region ?_
      refine r_build rfl rfl (by exact List.cons_ne_nil _ _) rfl (by repeat (exact (Parts.nil : Parts _ _ [] _))) (by exact (rfl : _ = some [_, _, _])) ?_
      refine r_storeN rfl rfl (by decide) rfl rfl rfl rfl rfl rfl ?_
      refine asI rfl ?_
      refine r_nil ?_
      refine i_then ?_
      refine t_ret ?_
      refine i_then_ret ?_
      refine i_rcell2 rfl rfl rfl rfl rfl (by decide) rfl rfl rfl ?_ ?_
      all_goals skip
      all_goals (rw [sv_3 hok hk hc2]; first | exact ret_sub rfl rfl zero_bok | exact ret_refl rfl rfl)
    ·
      refine t_skip ?_
      refine i_then ?_
      refine t_seq ?_
      refine t_region ?_
      refine r_load_ppN rfl rfl rfl (by exact Nat.le_of_ble_eq_true rfl) ?_
      refine r_callG (res' := Ty.agg [Ty.sl I64 b.form.widths, Ty.int .i64 b.form.lines, Ty.row BRowE 67 50 b.rows]) [(50, 6)] [50] [] (k_copied b (by omega)) rfl rfl (cv_cons cv_nil (cv_pub rfl rfl)) pre_nil post_nil (cv_agg (cv_cons (cv_cons (cv_cons cv_nil (cv_row (by exact List.mem_cons_self))) (cv_pub rfl rfl)) (cv_pub rfl rfl))) ?_
      refine r_alloc rfl (by exact List.cons_ne_nil _ _) rfl ?_
      refine r_storeN rfl rfl (by decide) rfl rfl rfl rfl rfl rfl ?_
      refine r_nil ?_
      refine i_then ?_
      refine t_seq ?_
      refine t_ownCellC (D := 7) (Tb := 34) (tg := 50) (E := BRowE) [Ty.sl I64 b.form.widths, Ty.int .i64 b.form.lines] rfl fun q => ?_
      refine t_region ?_
      refine r_field_ptr rfl rfl rfl rfl rfl (by decide) ?_
      refine r_load_ptr rfl rfl (by decide) rfl rfl rfl ?_
      refine mvI rfl ?_
      refine r_index_rc rfl rfl rfl rfl rfl (by omega) ?_
      refine r_field_ptr rfl rfl rfl rfl rfl (by decide) ?_
      refine r_store_rc (E := BRowE) (tg := 50) (i := k) (o := 1) (z := ⟨(nth b.rows k).nums, true⟩) rfl rfl (by decide) rfl rfl rfl rfl (by omega) (by decide) rfl rfl ?_
      refine r_nil ?_
      refine i_then ?_
      refine t_seq ?_
      refine t_unownCellC (D := 7) (Tb := 34) (tg := 50) (E := BRowE) [Ty.sl I64 b.form.widths, Ty.int .i64 b.form.lines] (by decide) rfl rfl (by simp) ?_
      refine t_pubC (tg := 50) [] [(7, Cont.cells 34 (bokTys ⟨b.form, b.rows.set k ⟨(nth b.rows k).nums, true⟩⟩))] (by decide) rfl trivial ⟨pubC_cells rfl rfl ⟨pubTy_same rfl, pubTy_same rfl, pubTy_row, trivial⟩, trivial⟩ ?_
      refine t_region ?_
      refine r_load_ptrN rfl rfl (by decide) rfl rfl (by exact Nat.le_of_ble_eq_true rfl) ?_
      refine r_storeN rfl rfl (by decide) rfl rfl rfl rfl rfl rfl ?_
      refine asI rfl ?_
      refine r_nil ?_
      refine i_then ?_
      refine t_ret ?_
      refine i_rcell2 rfl rfl rfl rfl rfl (by decide) rfl rfl rfl ?_ ?_
      all_goals skip
      all_goals (rw [sv_4 hok hk hc2]; exact ret_refl rfl rfl)
set_option maxRecDepth 100000 in
theorem c_rCorrect (b : Book) (hb : BookOk b) (i : Int) (r : BRow) : Ctr Tryz.prog 39 [bokT b, Ty.int .i64 i, rowT r] (Ty.tup [bokT (corV b i r).1, Ty.int .i64 (corV b i r).2]) := by
  refine fn_intro Tryz.func39 rfl (by decide) Tryz.ntmps39 (by exact Nat.le_of_ble_eq_true rfl) fun w0 M0 => ?_
  refine t_seq ?_
  refine t_region ?_
  refine r_box_agg rfl ?_
  refine r_box_agg rfl ?_
  refine r_alloc rfl (by exact List.cons_ne_nil _ _) rfl ?_
  refine asI rfl ?_
  refine r_nil ?_
  refine i_then ?_
  refine t_seq ?_
  refine t_region ?_
  refine r_load_ppN rfl rfl rfl (by exact Nat.le_of_ble_eq_true rfl) ?_
  refine mvI rfl ?_
  refine r_call (c_rStrike b hb i) rfl rfl rfl rfl rfl ?_
  refine mvT rfl ?_
  refine r_extract rfl rfl ?_
  refine r_extract rfl rfl ?_
  refine r_alloc rfl (by exact List.cons_ne_nil _ _) rfl ?_
  refine r_storeN rfl rfl (by decide) rfl rfl rfl rfl rfl rfl ?_
  refine asI rfl ?_
  refine r_nil ?_
  refine i_then ?_
  refine t_seq ?_
  refine t_seq ?_
  refine t_region ?_
  refine mvI rfl ?_
  refine r_bin rfl rfl rfl ?_
  refine r_nil ?_
  refine i_then ?_
  refine t_cond_ndec rfl (fun hc1 => ?_) (fun hc1 => ?_)
  ·
    refine t_seq ?_
    refine t_region ?_
    refine r_build rfl rfl (by exact List.cons_ne_nil _ _) rfl (by repeat (exact (Parts.nil : Parts _ _ [] _))) (by exact (rfl : _ = some [_, _, _])) ?_
    refine mvI rfl ?_
    refine r_storeN rfl rfl (by decide) rfl rfl rfl rfl rfl rfl ?_
    refine asI rfl ?_
    refine r_nil ?_
    refine i_then ?_
    refine t_ret ?_
    refine i_then_ret ?_
    refine i_rcell2 rfl rfl rfl rfl rfl (by decide) rfl rfl rfl ?_ ?_
    all_goals skip
    all_goals (rw [cv_1 hc1]; first | exact ret_sub rfl rfl zero_bok | exact ret_refl rfl rfl)
  ·
    refine t_skip ?_
    refine i_then ?_
    refine t_seq ?_
    have hso := strV_ok hb (show (strV b i).2 = 0 by omega)
    refine t_region ?_
    refine r_load_ptrN rfl rfl (by decide) rfl rfl (by exact Nat.le_of_ble_eq_true rfl) ?_
    refine r_load_ppN rfl rfl rfl (by exact Nat.le_of_ble_eq_true rfl) ?_
    refine r_call (c_rPut (strV b i).1 hso r) rfl rfl rfl rfl rfl ?_
    refine r_extract rfl rfl ?_
    refine r_extract rfl rfl ?_
    refine r_storeN rfl rfl (by decide) rfl rfl rfl rfl rfl rfl ?_
    refine asI rfl ?_
    refine r_nil ?_
    refine i_then ?_
    refine t_ret ?_
    refine i_rcell2 rfl rfl rfl rfl rfl (by decide) rfl rfl rfl ?_ ?_
    all_goals skip
    all_goals (rw [cv_2 hc1]; exact ret_refl rfl rfl)
end Go.Proofs.YtjjndkenddigiaaGreatDoor

namespace Go.Proofs.YtjjndkenddigiaaGreatDoor
open Go Go.T
inductive Rch (f : BForm) : Rdr → Byt → Rdr → Prop
  | nil (p : Rdr) : Rch f p [] p
  | cons {p q : Rdr} {c : UInt8} {t : Byt} (h : c ∈ canR f p) (h' : Rch f (nextR f p c) t q) : Rch f p (c :: t) q
theorem Rch.split {f : BForm} : ∀ {t u : Byt} {p r : Rdr}, Rch f p (t ++ u) r → ∃ q, Rch f p t q ∧ Rch f q u r
  | [], _, p, _, h => ⟨p, .nil p, h⟩
  | _ :: _, _, _, _, .cons hc h => let ⟨q, h1, h2⟩ := h.split; ⟨q, .cons hc h1, h2⟩
theorem Rch.run {f : BForm} {p q : Rdr} {t : Byt} (h : Rch f p t q) : runR f p t = (t.length, q) := by
  induction h with
  | nil p => rfl
  | @cons p q c t hc _ ih =>
    show (match stepR f p c with | none => (0, p) | some q => ((runR f q t).1 + 1, (runR f q t).2)) = _
    rw [show stepR f p c = some (nextR f p c) from if_pos hc]
    simp only [ih]; rfl
theorem Rch.ok {f : BForm} {p q : Rdr} {t : Byt} (h : Rch f p t q) (ho : RdrOk f p) : RdrOk f q := by
  induction h with
  | nil p => exact ho
  | cons hc _ ih => exact ih (next_ok ho hc)
end Go.Proofs.YtjjndkenddigiaaGreatDoor

namespace Go.Proofs.YtjjndkenddigiaaGreatDoor
open Go Go.T
section
variable {f : BForm} {t : Byt} {a : Nat} {R P : Int} {l : List BRow} {s : Bool} {nums : List Int} {c : Nat}
end
end Go.Proofs.YtjjndkenddigiaaGreatDoor

namespace Go.Proofs.YtjjndkenddigiaaGreatDoor
open Go Go.T
set_option maxHeartbeats 4000000
attribute [local irreducible] runN rdK canR
attribute [local irreducible] dInt dBool dSl dPp dPtr dAgg dTup dClo dAny dEx dStr dGd dCells dVec dVs dRow dOp nth Tri Into TOps Ctr bodyPost Exit.then Exit.inBlock Code.wp Code.wpIn dPa dArr dMp dMap CtrG keepPost iterPost bodyPostM roundQ
end Go.Proofs.YtjjndkenddigiaaGreatDoor

namespace Go.Proofs.YtjjndkenddigiaaGreatDoor
open Go Go.T
set_option maxHeartbeats 4000000
structure HeadR (p : Rdr) : Prop where
  must : p.must = []
  begun : p.begun = false
  closed : p.closed = false
  none : p.read = [] → p.fresh = true
  page : 0 < p.page → p.read ≠ []
section
variable {f : BForm} {t : Byt} {a : Nat}
end
attribute [local irreducible] runN runP rdK canR nextR lineB letB
attribute [local irreducible] dInt dBool dSl dPp dPtr dAgg dTup dClo dAny dEx dStr dGd dCells dVec dVs dRow dOp nth Tri Into TOps Ctr bodyPost Exit.then Exit.inBlock Code.wp Code.wpIn dPa dArr dMp dMap CtrG keepPost iterPost bodyPostM roundQ
end Go.Proofs.YtjjndkenddigiaaGreatDoor

namespace Go.Proofs.YtjjndkenddigiaaGreatDoor
open Go Go.T
set_option maxHeartbeats 4000000
def bokFT (J : Nat) (b : Book) : Ty := Ty.agg [Ty.fam J (Ty.nw 0 I64 3 b.form.widths) rfl rfl, Ty.int .i64 b.form.lines, Ty.fam J (Ty.nw 0 (BRowV 0) 66 b.rows) rfl rfl]
theorem new_I64 (m : Nat) (x : Int) : ∀ t ∈ I64.tys x, NewTy m t := fun t ht => by rw [List.mem_singleton.1 ht]; exact newTy_int
theorem new_row (m : Nat) (r : BRow) : ∀ t ∈ (BRowV m).tys r, NewTy m t := fun t ht => by
  rcases List.mem_cons.1 (show t ∈ [Ty.nw m I64 3 r.nums, Ty.bool r.struck] from ht) with rfl | ht
  · exact newTy_nw (new_I64 m)
  · rw [List.mem_singleton.1 ht]; exact newTy_bool
theorem row_weak (m : Nat) (r : BRow) : Subs ((BRowV m).tys r) ((BRowV 0).tys r) := ⟨nw_weak (Nat.zero_le _) fun _ => subs_refl, Ty.sub_refl _, trivial⟩
theorem fam_bok (J : Nat) (b : Book) : FamOk J (fun m => bokNT m b) (bokFT J b) :=
  fam_agg (fams_cons (fam_new (t := fun m => Ty.nw m I64 3 b.form.widths) (fun m => newTy_nw (new_I64 m)) (fun m => nw_weak (Nat.zero_le _) fun _ => subs_refl)) (fams_cons fam_int (fams_cons (fam_new (t := fun m => Ty.nw m (BRowV m) 66 b.rows) (fun m => newTy_nw (new_row m)) (fun m => nw_weak (Nat.zero_le _) (row_weak m))) fams_nil)))
theorem lend_bok (L : List Nat) (J : Nat) (b : Book) (h : L.contains J = true) : Lend L (bokFT J b) (bokT b) :=
  lend_agg (lends_cons (lend_fam h (nw_sl fun _ => subs_refl)) (lends_cons (lend_pub rfl rfl) (lends_cons (lend_fam h (nw_sl (rowV_sub 0))) lends_nil)))
theorem cv_bokF {ρ : List (Nat × Nat)} {J J' : Nat} {b : Book} (h : (J, J') ∈ ρ) : Conv ρ (bokFT J b) (bokFT J' b) :=
  cv_agg (cv_cons (cv_cons (cv_cons cv_nil (cv_fam h)) (cv_pub rfl rfl)) (cv_fam h))
instance : Inhabited ({v : Value // v.oneCell' = true} × Bool) := ⟨⟨⟨.bool true, rfl⟩, true⟩⟩
attribute [local irreducible] parV runN runP frmY
attribute [local irreducible] dInt dBool dSl dPp dPtr dAgg dTup dClo dAny dEx dStr dGd dCells dVec dVs dRow dOp nth Tri Into TOps Ctr bodyPost Exit.then Exit.inBlock Code.wp Code.wpIn dPa dArr dMp dMap CtrG keepPost iterPost bodyPostM roundQ
attribute [local irreducible] dFit
set_option maxRecDepth 100000 in
theorem c_ours (b : Book) (hl : b.rows.length ≤ 1000) : Ctr Tryz.prog 26 [bokT b] (bokT b) := by
  refine fn_intro Tryz.func26 rfl (by decide) Tryz.ntmps26 (by exact Nat.le_of_ble_eq_true rfl) fun w0 M0 => ?_
  refine t_seq ?_
  refine t_region ?_
  refine r_box_agg rfl ?_
  refine r_alloc rfl (by exact List.cons_ne_nil _ _) rfl ?_
  refine r_nil ?_
  refine i_then ?_
  refine t_seq ?_
  refine t_region ?_
  refine r_field_pp rfl rfl rfl rfl rfl (by decide) ?_
  refine r_load_ppN rfl rfl rfl (by exact Nat.le_of_ble_eq_true rfl) ?_
  refine r_build rfl rfl (by exact List.cons_ne_nil _ _) rfl (by repeat (first | exact (Parts.nil : Parts _ _ [] _) | (show Parts _ _ ((_, _) :: _) _; apply Parts.agg; (· exact (rfl : _ = Ty.agg _))))) (by exact (rfl : _ = some [_, _, _])) ?_
  refine r_alloc rfl (by exact List.cons_ne_nil _ _) rfl ?_
  refine r_storeN rfl rfl (by decide) rfl rfl rfl rfl rfl rfl ?_
  refine r_nil ?_
  refine i_then ?_
  refine t_seq ?_
  refine t_seq ?_
  refine t_region ?_
  refine r_field_pp rfl rfl rfl rfl rfl (by decide) ?_
  refine r_load_pp rfl rfl rfl rfl ?_
  refine r_len rfl rfl rfl ?_
  refine mvI rfl ?_
  refine r_nil ?_
  refine i_then ?_
  refine t_block ?_
  refine t_loop (fun (k : {k : Nat // k ≤ b.rows.length}) => live [(1, Ty.pp (bokTys b)), (2, Ty.ptr 3 0), (3, Ty.ptr 4 0), (10, Ty.sl BRowE b.rows), (11, Ty.int .i64 b.rows.length), (12, Ty.int .i64 (k.1 : Nat))] [(3, Cont.cells 27 [Ty.ex (.slice none 0 0), Ty.int .i64 0, Ty.ex (.slice none 0 0)]), (4, Cont.cells 27 [Ty.sl I64 b.form.widths, Ty.int .i64 b.form.lines, Ty.row BRowE 66 21 (b.rows.take k.1)])]) (fun k => b.rows.length - k.1) (⟨0, by omega⟩) ?_ fun k => ?_
  · (refine Ent.mk' ?_ ?_ <;> (repeat' (first | exact allSub_zero | exact allTags_nil | exact subs_nil | refine allSub_succ' ?_ (Ty.sub_any _) | refine allSub_succ' ?_ (Ty.sub_refl _) | refine allTags_cons rfl (Cont.sub_refl _) ?_ | refine allTags_cons rfl (Cont.sub_subs ?_) ?_ | refine subs_cons ?_ (Ty.sub_refl _) | refine subs_cons ?_ Ty.nil_row)))
    all_goals trace_state
  ·
    have hk := k.2
    have htl : (b.rows.take k.1).length = k.1 := by rw [List.length_take]; omega
    refine t_seq ?_
    refine t_region ?_
    refine r_bin rfl rfl rfl ?_
    refine r_nil ?_
    refine i_then ?_
    refine t_seq ?_
    refine t_cond_dec rfl (fun hc1 => ?_) (fun hc1 => ?_)
    ·
      refine t_skip ?_
      refine i_then ?_
      refine t_seq ?_
      refine t_block ?_
      refine t_seq ?_
      refine t_region ?_
      refine r_index_slN rfl rfl rfl rfl rfl rfl (by omega) ?_
      refine r_load_ppN rfl rfl rfl (by exact Nat.le_of_ble_eq_true rfl) ?_
      refine r_alloc rfl (by exact List.cons_ne_nil _ _) rfl ?_
      refine r_storeN rfl rfl (by decide) rfl rfl rfl rfl rfl rfl ?_
      refine r_nil ?_
      refine i_then ?_
      refine t_region ?_
      refine r_field_ptr rfl rfl rfl rfl rfl (by decide) ?_
      refine r_load_ptr rfl rfl (by decide) rfl rfl rfl ?_
      refine r_load_ptrN rfl rfl (by decide) rfl rfl (by exact Nat.le_of_ble_eq_true rfl) ?_
      refine r_buildSlice (E := BRowE) (xs := [nth b.rows k.1]) rfl rfl rfl rfl rfl (by decide) (by decide) (by repeat (first | exact (Parts.nil : Parts _ _ [] _) | (show Parts _ _ ((_, _) :: _) _; apply Parts.agg; (· exact (rfl : _ = Ty.agg _))))) (by exact rfl) rfl ?_
      refine r_append rfl rfl (by decide) rfl rfl rfl rfl rfl rfl (by decide) (by (simp <;> omega)) (by (simp <;> omega)) ?_
      refine r_field_ptr rfl rfl rfl rfl rfl (by decide) ?_
      refine r_store1 rfl rfl (by decide) rfl rfl (by exact (rfl : _ = Ty.row _ _ _ _)) rfl (by exact Nat.le_of_ble_eq_true rfl) rfl rfl (by exact rfl) ?_
      refine r_nil ?_
      refine i_block ?_
      refine i_then ?_
      refine t_region ?_
      refine r_add rfl rfl (by omega) (by omega) ?_
      refine mvI rfl ?_
      refine r_nil ?_
      refine i_round (⟨k.1 + 1, by omega⟩) ?_ (by show b.rows.length - (k.1 + 1) < b.rows.length - k.1; omega)
      (refine Ent.mk' ?_ ?_ <;> (repeat' (first | exact allSub_zero | exact allTags_nil | exact subs_nil | refine allSub_succ' ?_ (Ty.sub_any _) | refine allSub_succ' ?_ (Ty.sub_refl _) | refine allTags_cons rfl (Cont.sub_refl _) ?_ | refine allTags_cons rfl (Cont.sub_subs ?_) ?_ | refine subs_cons ?_ (Ty.sub_refl _) | refine subs_cons ?_ ?_)))
      all_goals exact Ty.sub_row (take_nth (by omega)).symm
      all_goals trace_state
    ·
      refine t_exit ?_
      refine i_then_exit ?_
      refine i_then_exit ?_
      refine i_block_exit rfl ?_
      refine i_then ?_
      refine t_seq ?_
      refine t_pubC (tg := 21) [] [(4, Cont.cells 27 (bokTys b))] (by decide) rfl trivial ⟨pubC_cells rfl rfl ⟨pubTy_same rfl, pubTy_same rfl, pubTy_row_eq (List.take_of_length_le (by have := k.2; omega)), trivial⟩, trivial⟩ ?_
      refine t_region ?_
      refine r_load_ptrN rfl rfl (by decide) rfl rfl (by exact Nat.le_of_ble_eq_true rfl) ?_
      refine r_storeN rfl rfl (by decide) rfl rfl rfl rfl rfl rfl ?_
      refine r_nil ?_
      refine i_then ?_
      refine t_ret ?_
      refine i_rcell rfl rfl rfl rfl (by decide) rfl rfl rfl ?_
      all_goals exact ret_refl rfl rfl
set_option maxRecDepth 100000 in
theorem k_spoilt (b : Book) (hb : b.rows.length ≤ 1000) : CtrG Tryz.prog 31 [] [] [bokFT 4096 b] [] (Ty.tup []) := by
  refine fnG_intro Tryz.func31 rfl (by decide) Tryz.ntmps31 (by exact Nat.le_of_ble_eq_true rfl) fun w0 M0 => ?_
  refine t_openF (s := 0) (J := 4096) (tg := 100) (Ti := 3) (Tr := 66) (nums := BRow.nums) (st := BRow.struck) rfl rfl (fun _ => rfl) rfl rfl (by decide) (by decide) rfl rfl fun v ys hy => ?_
  refine t_seq ?_
  refine t_region ?_
  refine r_box_agg rfl ?_
  refine r_nil ?_
  refine i_then ?_
  refine t_seq ?_
  refine t_region ?_
  refine r_field_pp rfl rfl rfl rfl rfl (by decide) ?_
  refine r_field_pp rfl rfl rfl rfl rfl (by decide) ?_
  refine r_load_pp rfl rfl rfl rfl ?_
  refine r_clearX (J := 4096) (v := v) rfl rfl List.mem_cons_self (by decide) rfl rfl rfl rfl rfl rfl ?_
  refine r_nil ?_
  refine i_then ?_
  refine t_seq ?_
  refine t_seq ?_
  refine t_region ?_
  refine r_field_pp rfl rfl rfl rfl rfl (by decide) ?_
  refine r_load_pp rfl rfl rfl rfl ?_
  refine r_len_vs rfl rfl rfl ?_
  refine mvI rfl ?_
  refine r_nil ?_
  refine i_then ?_
  refine t_block ?_
  refine t_loop (fun (k : {k : Nat // k ≤ b.rows.length}) => live [(1, Ty.pp [Ty.ex v, Ty.int .i64 b.form.lines, Ty.vs 100 b.rows.length]), (8, Ty.vs 100 b.rows.length), (9, Ty.int .i64 b.rows.length), (10, Ty.int .i64 (k.1 : Nat))] [(100, Cont.vec XEb 66 ys), (4096, Cont.fit (v :: ys.map fun y => y.1.1))]) (fun k => b.rows.length - k.1) (⟨0, Nat.zero_le _⟩) ?_ fun k => ?_
  · (refine Ent.mk' ?_ ?_ <;> (repeat' (first | exact allSub_zero | exact allTags_nil | refine allSub_succ' ?_ (Ty.sub_any _) | refine allSub_succ' ?_ (Ty.sub_refl _) | refine allTags_cons rfl (Cont.sub_refl _) ?_)))
    all_goals trace_state
  ·
    have hk := k.2
    refine t_seq ?_
    refine t_region ?_
    refine r_bin rfl rfl rfl ?_
    refine r_nil ?_
    refine i_then ?_
    refine t_seq ?_
    refine t_cond_dec rfl (fun hc1 => ?_) (fun hc1 => ?_)
    ·
      refine t_skip ?_
      refine i_then ?_
      refine t_seq ?_
      refine t_block ?_
      refine t_seq ?_
      refine t_region ?_
      refine r_index_vs rfl rfl rfl rfl rfl (by omega) ?_
      refine r_load_vecE k.1 rfl rfl rfl (by decide) rfl rfl rfl (by omega) ?_
      refine r_alloc rfl (by exact List.cons_ne_nil _ _) rfl ?_
      refine r_storeN rfl rfl (by decide) rfl rfl rfl rfl (XEb.ones (nth ys k.1)) rfl ?_
      refine r_nil ?_
      refine i_then ?_
      refine t_region ?_
      refine r_field_ptr rfl rfl rfl rfl rfl (by decide) ?_
      refine r_load_ptr rfl rfl (by decide) rfl rfl rfl ?_
      refine r_clearX (J := 4096) (v := (nth ys k.1).1.1) rfl rfl (List.mem_cons_of_mem _ (List.mem_map_of_mem (f := fun y => y.1.1) (nth_mem (xs := ys) (k := k.1) (by omega)))) (by decide) rfl rfl rfl rfl rfl rfl ?_
      refine r_nil ?_
      refine i_block ?_
      refine i_then ?_
      refine t_region ?_
      refine r_add rfl rfl (by omega) (by omega) ?_
      refine mvI rfl ?_
      refine r_nil ?_
      refine i_round (⟨k.1 + 1, by omega⟩) ?_ (by show b.rows.length - (k.1 + 1) < b.rows.length - k.1; omega)
      (refine Ent.mk' ?_ ?_ <;> (repeat' (first | exact allSub_zero | exact allTags_nil | refine allSub_succ' ?_ (Ty.sub_any _) | refine allSub_succ' ?_ (Ty.sub_refl _) | refine allTags_cons rfl (Cont.sub_refl _) ?_)))
      all_goals skip
      all_goals trace_state
    ·
      refine t_exit ?_
      refine i_then_exit ?_
      refine i_then_exit ?_
      refine i_block_exit rfl ?_
      refine i_then ?_
      refine t_region ?_
      refine r_field_pp rfl rfl rfl rfl rfl (by decide) ?_
      refine r_load_pp rfl rfl rfl rfl ?_
      refine r_clearVs rfl rfl hy (by decide) rfl rfl rfl rfl rfl (by decide) rfl ?_
      refine r_nil ?_
      refine i_end ?_
      refine g_ret0 [] rfl (by decide) (by repeat (exact rc_nil))
      all_goals trace_state
end Go.Proofs.YtjjndkenddigiaaGreatDoor

namespace Go.Proofs.YtjjndkenddigiaaGreatDoor
open Go Go.T
set_option maxHeartbeats 2000000
def letV (f : BForm) (r : BRow) : Byt × Int := if frmY f ≠ 0 then ([], frmY f) else if rowY f r ≠ 0 then ([], rowY f r) else ([letB f r], 0)
theorem lv_1 {f : BForm} {r : BRow} (h : ¬ frmY f = 0) : letV f r = ([], frmY f) := if_pos h
theorem lv_2 {f : BForm} {r : BRow} (h : frmY f = 0) (h2 : ¬ rowY f r = 0) : letV f r = ([], rowY f r) := by unfold letV; rw [if_neg (fun e => e h), if_pos h2]
theorem lv_3 {f : BForm} {r : BRow} (h : frmY f = 0) (h2 : rowY f r = 0) : letV f r = ([letB f r], 0) := by unfold letV; rw [if_neg (fun e => e h), if_neg (fun e => e h2)]
theorem putV_few (b : Book) (r : BRow) : (putV b r).1.rows.length ≤ 1000 := by
  unfold putV
  split
  · exact Nat.zero_le _
  · rename_i h
    have := (bokY_zero.1 (by simpa using h)).few
    split
    · exact Nat.zero_le _
    · split
      · exact Nat.zero_le _
      · simp; omega
theorem strV_few (b : Book) (i : Int) : (strV b i).1.rows.length ≤ 1000 := by
  unfold strV
  split
  · exact Nat.zero_le _
  · rename_i h
    have := (bokY_zero.1 (by simpa using h)).few
    split
    · exact Nat.zero_le _
    · split
      · exact Nat.zero_le _
      · simp; omega
theorem corV_few (b : Book) (i : Int) (r : BRow) : (corV b i r).1.rows.length ≤ 1000 := by
  unfold corV
  split
  · exact Nat.zero_le _
  · exact putV_few _ _
theorem cor_no1 {b : Book} {i : Int} {r : BRow} (h : ¬ bokY b = 0) : corV b i r = (Book.zero, bokY b) := by rw [cv_1 (by rw [sv_1 h]; exact h), sv_1 h]
theorem fam_put (J : Nat) (b : Book) (r : BRow) : FamOk J (fun m => Ty.tup [bokNT m (putV b r).1, Ty.int .i64 (putV b r).2]) (Ty.tup [bokFT J (putV b r).1, Ty.int .i64 (putV b r).2]) := fam_tup (fams_cons (fam_bok J _) (fams_cons fam_int fams_nil))
theorem fam_str (J : Nat) (b : Book) (i : Int) : FamOk J (fun m => Ty.tup [bokNT m (strV b i).1, Ty.int .i64 (strV b i).2]) (Ty.tup [bokFT J (strV b i).1, Ty.int .i64 (strV b i).2]) := fam_tup (fams_cons (fam_bok J _) (fams_cons fam_int fams_nil))
theorem fam_cor (J : Nat) (b : Book) (i : Int) (r : BRow) : FamOk J (fun m => Ty.tup [bokNT m (corV b i r).1, Ty.int .i64 (corV b i r).2]) (Ty.tup [bokFT J (corV b i r).1, Ty.int .i64 (corV b i r).2]) := fam_tup (fams_cons (fam_bok J _) (fams_cons fam_int fams_nil))
attribute [local irreducible] putV strV corV bokY frmY rowY letB greatB letV
attribute [local irreducible] dInt dBool dSl dPp dPtr dAgg dTup dClo dAny dEx dStr dGd dCells dVec dVs dRow dOp nth Tri Into TOps Ctr bodyPost Exit.then Exit.inBlock Code.wp Code.wpIn dPa dArr dMp dMap CtrG keepPost iterPost bodyPostM roundQ
set_option maxRecDepth 100000 in
theorem c_Letter (f : BForm) (r : BRow) (hr : Rng r.nums) : Ctr Tryz.prog 40 [frmT f, rowT r] (Ty.tup [Ty.str (bs (letV f r).1), Ty.int .i64 (letV f r).2]) := by
  refine fn_intro Tryz.func40 rfl (by decide) Tryz.ntmps40 (by exact Nat.le_of_ble_eq_true rfl) fun w0 M0 => ?_
  refine t_seq ?_
  refine t_region ?_
  refine r_box_agg rfl ?_
  refine r_box_agg rfl ?_
  refine asS' rfl ?_
  refine asI rfl ?_
  refine r_nil ?_
  refine i_then ?_
  refine t_seq ?_
  refine t_seq ?_
  refine t_region ?_
  refine r_load_ppN rfl rfl rfl (by exact Nat.le_of_ble_eq_true rfl) ?_
  refine r_call (c_CheckForm _) rfl rfl rfl rfl rfl ?_
  refine asI rfl ?_
  refine r_nil ?_
  refine i_then ?_
  refine t_seq ?_
  refine t_region ?_
  refine mvI rfl ?_
  refine r_bin rfl rfl rfl ?_
  refine r_nil ?_
  refine i_then ?_
  refine t_cond_ndec rfl (fun hc1 => ?_) (fun hc1 => ?_)
  ·
    refine t_seq ?_
    refine t_region ?_
    refine mvI rfl ?_
    refine asS' rfl ?_
    refine asI rfl ?_
    refine r_nil ?_
    refine i_then ?_
    refine t_ret ?_
    refine i_then_ret ?_
    refine i_rp2 rfl rfl rfl ?_ ?_
    all_goals skip
    all_goals (rw [lv_1 hc1]; exact ret_refl rfl rfl)
  ·
    refine t_skip ?_
    refine i_then ?_
    refine t_seq ?_
    refine t_seq ?_
    have hf := frmY_zero.1 (show frmY f = 0 by omega)
    refine t_region ?_
    refine r_load_ppN rfl rfl rfl (by exact Nat.le_of_ble_eq_true rfl) ?_
    refine r_load_ppN rfl rfl rfl (by exact Nat.le_of_ble_eq_true rfl) ?_
    refine r_call (c_check f hf r hr) rfl rfl rfl rfl rfl ?_
    refine asI rfl ?_
    refine r_nil ?_
    refine i_then ?_
    refine t_seq ?_
    refine t_region ?_
    refine mvI rfl ?_
    refine r_bin rfl rfl rfl ?_
    refine r_nil ?_
    refine i_then ?_
    refine t_cond_ndec rfl (fun hc2 => ?_) (fun hc2 => ?_)
    ·
      refine t_seq ?_
      refine t_region ?_
      refine mvI rfl ?_
      refine asS' rfl ?_
      refine asI rfl ?_
      refine r_nil ?_
      refine i_then ?_
      refine t_ret ?_
      refine i_then_ret ?_
      refine i_rp2 rfl rfl rfl ?_ ?_
      all_goals skip
      all_goals (rw [lv_2 hc1 hc2]; exact ret_refl rfl rfl)
    ·
      refine t_skip ?_
      refine i_then ?_
      refine t_seq ?_
      have hrk := rowY_zero.1 (show rowY f r = 0 by omega)
      refine t_region ?_
      refine r_load_ppN rfl rfl rfl (by exact Nat.le_of_ble_eq_true rfl) ?_
      refine r_load_ppN rfl rfl rfl (by exact Nat.le_of_ble_eq_true rfl) ?_
      refine r_call (c_letter f hf r hrk) rfl rfl rfl rfl rfl ?_
      refine asS' rfl ?_
      refine asI rfl ?_
      refine r_nil ?_
      refine i_then ?_
      refine t_ret ?_
      refine i_rp2 rfl rfl rfl ?_ ?_
      all_goals skip
      all_goals (rw [lv_3 hc1 hc2]; exact ret_refl rfl rfl)
set_option maxRecDepth 100000 in
theorem c_BookChecks (b : Book) (r : BRow) (i : Int) (hb : ∀ r ∈ b.rows, Rng r.nums) (hr : Rng r.nums) : Ctr Tryz.prog 5 [bokT b, rowT r, Ty.int .i64 i] (Ty.bool true) := by
  refine fn_intro Tryz.func5 rfl (by decide) Tryz.ntmps5 (by exact Nat.le_of_ble_eq_true rfl) fun w0 M0 => ?_
  refine t_seq ?_
  refine t_region ?_
  refine r_box_agg rfl ?_
  refine r_box_agg rfl ?_
  refine asB rfl ?_
  refine r_nil ?_
  refine i_then ?_
  refine t_seq ?_
  refine t_seq ?_
  refine t_region ?_
  refine r_load_ppN rfl rfl rfl (by exact Nat.le_of_ble_eq_true rfl) ?_
  refine r_call (c_great _) rfl rfl rfl rfl rfl ?_
  refine mvB rfl ?_
  apply r_guard (s := 30) rfl rfl rfl
  · intro hg; apply opT_of; (refine r_field_pp rfl rfl rfl rfl rfl (by decide) ?_); refine r_nil ?_; exact rfl
  · exact rfl
  · exact rfl
  apply r_guard (s := 30) rfl rfl rfl
  · intro hg; apply opT_strip (s := 31) rfl (by (rw [hg]; rfl)); apply opT_of; (refine r_load_pp rfl rfl rfl rfl ?_); refine r_nil ?_; exact rfl
  · exact rfl
  · exact rfl
  apply r_guard (s := 30) rfl rfl rfl
  · intro hg; apply opT_strip (s := 32) rfl (by (rw [hg]; rfl)); apply opT_of; (refine r_len rfl rfl rfl ?_); refine r_nil ?_; exact rfl
  · exact rfl
  · exact rfl
  apply r_guard (s := 30) rfl rfl rfl
  · intro hg; apply opT_strip (s := 33) rfl (by (rw [hg]; rfl)); apply opT_of; (refine r_bin rfl rfl rfl ?_); refine r_nil ?_; exact rfl
  · exact rfl
  · exact rfl
  refine r_or rfl rfl ?_
  refine r_nil ?_
  refine i_then ?_
  refine t_cond rfl (fun hc1 => ?_) (fun hc1 => ?_)
  ·
    refine t_seq ?_
    refine t_region ?_
    refine r_call c_awake rfl rfl rfl rfl rfl ?_
    refine asB rfl ?_
    refine r_nil ?_
    refine i_then ?_
    refine t_ret ?_
    refine i_then_ret ?_
    refine i_rp1 rfl rfl ?_
    all_goals exact ret_refl rfl rfl
    all_goals trace_state
  ·
    refine t_skip ?_
    refine i_then ?_
    refine t_seq ?_
    have hg := Bool.or_eq_false_iff.1 hc1
    obtain ⟨hg1, hg2, hg3⟩ := not_great hg.1
    have hg4 : r.nums.length ≤ 8 := by have := of_decide_eq_false hg.2; omega
    refine t_draw mixed rfl ?_
    refine r_load_ppN rfl rfl rfl (by exact Nat.le_of_ble_eq_true rfl) ?_
    refine r_call (c_Own b (by omega) (by omega) fun r hr => by have := hg3 r hr; omega) rfl rfl rfl rfl rfl ?_
    refine r_load_ppN rfl rfl rfl (by exact Nat.le_of_ble_eq_true rfl) ?_
    refine r_call (c_theirs b (by omega)) rfl rfl rfl rfl rfl ?_
    refine r_field_pp rfl rfl rfl rfl rfl (by decide) ?_
    refine r_load_pp rfl rfl rfl rfl ?_
    refine r_call (c_Dup_int r.nums (by omega)) rfl rfl rfl rfl rfl ?_
    refine r_field_pp rfl rfl rfl rfl rfl (by decide) ?_
    refine r_load_pp rfl rfl rfl rfl ?_
    refine r_build rfl rfl (by exact List.cons_ne_nil _ _) rfl (by repeat (first | exact (Parts.nil : Parts _ _ [] _) | (show Parts _ _ ((_, _) :: _) _; apply Parts.one; (· first | exact (rfl : _ = Ty.sl _ _) | exact (rfl : _ = Ty.bool _)); (· exact rfl)))) (by exact (rfl : _ = some [_, _])) ?_
    refine r_alloc rfl (by exact List.cons_ne_nil _ _) rfl ?_
    refine r_alloc rfl (by exact List.cons_ne_nil _ _) rfl ?_
    refine r_alloc rfl (by exact List.cons_ne_nil _ _) rfl ?_
    refine r_storeN rfl rfl (by decide) rfl rfl rfl rfl rfl rfl ?_
    refine r_storeN rfl rfl (by decide) rfl rfl rfl rfl rfl rfl ?_
    refine r_storeN rfl rfl (by decide) rfl rfl rfl rfl rfl rfl ?_
    refine r_nil ?_
    refine ⟨by kernel_rfl, ?_⟩
    refine i_then ?_
    refine t_seq ?_
    refine t_forget (B := live [(2, Ty.int .i64 i), (3, Ty.pp (bokTys b)), (4, Ty.pp (BRowE.tys r)), (7, Ty.ptr 8 0), (8, Ty.ptr 9 0), (9, Ty.ptr 10 0)] [(8, Cont.cells 27 (bokTys b)), (9, Cont.cells 34 (bokTys b)), (10, Cont.cells 66 (BRowE.tys r))]) ?_ ?_
    · (refine Ent.mk' ?_ ?_ <;> (repeat' (first | exact allSub_zero | exact allTags_nil | refine allSub_succ' ?_ (Ty.sub_any _) | refine allSub_succ' ?_ (Ty.sub_refl _) | refine allTags_cons rfl (Cont.sub_refl _) ?_)))
    refine t_region ?_
    refine r_load_ppN rfl rfl rfl (by exact Nat.le_of_ble_eq_true rfl) ?_
    refine r_alloc rfl (by exact List.cons_ne_nil _ _) rfl ?_
    refine r_storeN rfl rfl (by decide) rfl rfl rfl rfl rfl rfl ?_
    refine r_nil ?_
    refine i_then ?_
    refine t_seq ?_
    refine t_forget (B := live [(2, Ty.int .i64 i), (3, Ty.pp (bokTys b)), (4, Ty.pp (BRowE.tys r)), (7, Ty.ptr 8 0), (8, Ty.ptr 9 0), (9, Ty.ptr 10 0), (10, Ty.ptr 11 0)] [(8, Cont.cells 27 (bokTys b)), (9, Cont.cells 34 (bokTys b)), (10, Cont.cells 66 (BRowE.tys r)), (11, Cont.cells 67 (BRowE.tys r))]) ?_ ?_
    · (refine Ent.mk' ?_ ?_ <;> (repeat' (first | exact allSub_zero | exact allTags_nil | refine allSub_succ' ?_ (Ty.sub_any _) | refine allSub_succ' ?_ (Ty.sub_refl _) | refine allTags_cons rfl (Cont.sub_refl _) ?_)))
    refine t_pub (tg := 8) [(7, Ty.pp (bokTys b))] (by decide) rfl ⟨pub_ptr (T := 27) (tg := 8) (off := 0) (l := bokTys b) rfl rfl rfl (by decide), trivial⟩ ?_
    refine t_pub (tg := 9) [(8, Ty.pp (bokTys b))] (by decide) rfl ⟨pub_ptr (T := 34) (tg := 9) (off := 0) (l := bokTys b) rfl rfl rfl (by decide), trivial⟩ ?_
    refine t_pub (tg := 10) [(9, Ty.pp (BRowE.tys r))] (by decide) rfl ⟨pub_ptr (T := 66) (tg := 10) (off := 0) (l := BRowE.tys r) rfl rfl rfl (by decide), trivial⟩ ?_
    refine t_pub (tg := 11) [(10, Ty.pp (BRowE.tys r))] (by decide) rfl ⟨pub_ptr (T := 67) (tg := 11) (off := 0) (l := BRowE.tys r) rfl rfl rfl (by decide), trivial⟩ ?_
    refine t_draw mixed rfl ?_
    refine r_field_pp rfl rfl rfl rfl rfl (by decide) ?_
    refine r_load_ppN rfl rfl rfl (by exact Nat.le_of_ble_eq_true rfl) ?_
    refine r_call (c_rCheckForm b.form) rfl rfl rfl rfl rfl ?_
    refine r_load_ppN rfl rfl rfl (by exact Nat.le_of_ble_eq_true rfl) ?_
    refine r_call (c_rCheck b) rfl rfl rfl rfl rfl ?_
    refine asI rfl ?_
    refine asI rfl ?_
    refine r_nil ?_
    refine ⟨by kernel_rfl, ?_⟩
    refine i_then ?_
    refine t_seq ?_
    refine t_seq ?_
    refine t_forget (B := live [(2, Ty.int .i64 i), (3, Ty.pp (bokTys b)), (4, Ty.pp (BRowE.tys r)), (7, Ty.pp (bokTys b)), (8, Ty.pp (bokTys b)), (9, Ty.pp (BRowE.tys r)), (10, Ty.pp (BRowE.tys r)), (11, Ty.int .i64 (frmY b.form)), (12, Ty.int .i64 (bokY b))] []) ?_ ?_
    · (refine Ent.mk' ?_ ?_ <;> (repeat' (first | exact allSub_zero | exact allTags_nil | refine allSub_succ' ?_ (Ty.sub_any _) | refine allSub_succ' ?_ (Ty.sub_refl _))))
    refine t_region ?_
    refine r_field_pp rfl rfl rfl rfl rfl (by decide) ?_
    refine r_load_ppN rfl rfl rfl (by exact Nat.le_of_ble_eq_true rfl) ?_
    refine r_call (c_CheckForm b.form) rfl rfl rfl rfl rfl ?_
    refine mvI rfl ?_
    refine r_bin rfl rfl rfl ?_
    refine mvB rfl ?_
    apply r_guard (s := 58) rfl rfl rfl
    · intro hg; apply opT_of; (refine r_load_ppN rfl rfl rfl (by exact Nat.le_of_ble_eq_true rfl) ?_); refine r_nil ?_; exact rfl
    · exact rfl
    · exact rfl
    apply r_guard (s := 58) rfl rfl rfl
    · intro hg; apply opT_strip (s := 59) rfl (by (rw [hg]; rfl)); apply opT_of; (refine r_call (c_Check b hb) rfl rfl rfl rfl rfl ?_); refine r_nil ?_; exact rfl
    · exact rfl
    · exact rfl
    apply r_guard (s := 58) rfl rfl rfl
    · intro hg; apply opT_of; (refine mvI rfl ?_); refine r_nil ?_; exact rfl
    · exact rfl
    · exact rfl
    apply r_guard (s := 58) rfl rfl rfl
    · intro hg; apply opT_strip (s := 60) rfl (by (rw [hg]; rfl)); apply opT_strip (s := 61) rfl (by (rw [hg]; rfl)); apply opT_of; (refine r_bin rfl rfl rfl ?_); refine r_nil ?_; exact rfl
    · exact rfl
    · exact rfl
    refine r_or rfl rfl ?_
    refine r_nil ?_
    refine i_then ?_
    refine t_cond rfl (fun hc2 => ?_) (fun hc2 => ?_)
    ·
      refine t_seq ?_
      refine t_region ?_
      refine asB rfl ?_
      refine r_nil ?_
      refine i_then ?_
      refine t_ret ?_
      refine i_then_ret ?_
      refine i_rp1 rfl rfl ?_
      all_goals skip
      all_goals (exfalso; simp at hc2)
    ·
      refine t_skip ?_
      refine i_then ?_
      refine t_seq ?_
      refine t_region ?_
      refine asS' rfl ?_
      refine r_nil ?_
      refine i_then ?_
      refine t_join (J := live [(2, Ty.int .i64 i), (3, Ty.pp (bokTys b)), (4, Ty.pp (BRowE.tys r)), (7, Ty.pp (bokTys b)), (8, Ty.pp (bokTys b)), (9, Ty.pp (BRowE.tys r)), (10, Ty.pp (BRowE.tys r)), (11, Ty.int .i64 (letV b.form r).2), (12, Ty.int .i64 (bokY b)), (13, Ty.str (bs (letV b.form r).1))] []) ?_ ?_
      ·
        refine t_seq ?_
        refine t_region ?_
        refine mvI rfl ?_
        refine r_bin rfl rfl rfl ?_
        refine r_nil ?_
        refine i_then ?_
        refine t_cond_dec rfl (fun hc3 => ?_) (fun hc3 => ?_)
        ·
          refine t_seq ?_
          have hf := frmY_zero.1 (show frmY b.form = 0 by omega)
          refine t_region ?_
          refine r_field_pp rfl rfl rfl rfl rfl (by decide) ?_
          refine r_load_ppN rfl rfl rfl (by exact Nat.le_of_ble_eq_true rfl) ?_
          refine r_load_ppN rfl rfl rfl (by exact Nat.le_of_ble_eq_true rfl) ?_
          refine r_call (c_rCheckRow b.form hf r) rfl rfl rfl rfl rfl ?_
          refine asI rfl ?_
          refine r_nil ?_
          refine i_then ?_
          refine t_seq ?_
          refine t_region ?_
          refine mvI rfl ?_
          refine r_bin rfl rfl rfl ?_
          refine r_nil ?_
          refine i_then ?_
          refine t_cond_dec rfl (fun hc4 => ?_) (fun hc4 => ?_)
          ·
            have hrk := rowY_zero.1 (show rowY b.form r = 0 by omega)
            refine t_region ?_
            refine r_field_pp rfl rfl rfl rfl rfl (by decide) ?_
            refine r_load_ppN rfl rfl rfl (by exact Nat.le_of_ble_eq_true rfl) ?_
            refine r_load_ppN rfl rfl rfl (by exact Nat.le_of_ble_eq_true rfl) ?_
            refine r_call (c_rLetter b.form hf r hrk) rfl rfl rfl rfl rfl ?_
            refine asS' rfl ?_
            refine r_nil ?_
            refine i_join ?_
            (refine Ent.mk' ?_ ?_ <;> (repeat' (first | exact allSub_zero | exact allTags_nil | refine allSub_succ' ?_ (Ty.sub_any _) | refine allSub_succ' ?_ (Ty.sub_refl _) | refine allSub_succ' ?_ ?_)))
            all_goals (rw [lv_3 hc3 hc4]; first | exact Ty.sub_int hc4 | exact Ty.sub_refl _)
          ·
            refine t_skip ?_
            refine i_join ?_
            (refine Ent.mk' ?_ ?_ <;> (repeat' (first | exact allSub_zero | exact allTags_nil | refine allSub_succ' ?_ (Ty.sub_any _) | refine allSub_succ' ?_ (Ty.sub_refl _) | refine allSub_succ' ?_ ?_)))
            all_goals (rw [lv_2 hc3 hc4]; exact Ty.sub_refl _)
        ·
          refine t_skip ?_
          refine i_join ?_
          (refine Ent.mk' ?_ ?_ <;> (repeat' (first | exact allSub_zero | exact allTags_nil | refine allSub_succ' ?_ (Ty.sub_any _) | refine allSub_succ' ?_ (Ty.sub_refl _) | refine allSub_succ' ?_ ?_)))
          all_goals (rw [lv_1 hc3]; exact Ty.sub_refl _)
      ·
        refine t_seq ?_
        refine t_region ?_
        refine mvI rfl ?_
        refine mvI rfl ?_
        refine mvI rfl ?_
        refine asI rfl ?_
        refine asI rfl ?_
        refine asI rfl ?_
        refine r_nil ?_
        refine i_then ?_
        refine t_seq ?_
        refine t_region ?_
        refine r_alloc rfl (by exact List.cons_ne_nil _ _) rfl ?_
        refine r_alloc rfl (by exact List.cons_ne_nil _ _) rfl ?_
        refine r_alloc rfl (by exact List.cons_ne_nil _ _) rfl ?_
        refine r_nil ?_
        refine i_then ?_
        refine t_join (J := live [(2, Ty.int .i64 i), (3, Ty.pp (bokTys b)), (4, Ty.pp (BRowE.tys r)), (7, Ty.pp (bokTys b)), (9, Ty.pp (BRowE.tys r)), (11, Ty.int .i64 (letV b.form r).2), (13, Ty.str (bs (letV b.form r).1)), (14, Ty.int .i64 (putV b r).2), (15, Ty.int .i64 (strV b i).2), (16, Ty.int .i64 (corV b i r).2), (17, Ty.ptr 18 0), (18, Ty.ptr 19 0), (19, Ty.ptr 20 0)] [(18, Cont.cells 34 (bokTys (putV b r).1)), (19, Cont.cells 34 (bokTys (strV b i).1)), (20, Cont.cells 34 (bokTys (corV b i r).1))]) ?_ ?_
        ·
          refine t_seq ?_
          refine t_forget (B := live [(2, Ty.int .i64 i), (3, Ty.pp (bokTys b)), (4, Ty.pp (BRowE.tys r)), (7, Ty.pp (bokTys b)), (8, Ty.pp (bokTys b)), (9, Ty.pp (BRowE.tys r)), (10, Ty.pp (BRowE.tys r)), (11, Ty.int .i64 (letV b.form r).2), (13, Ty.str (bs (letV b.form r).1)), (12, Ty.int .i64 (bokY b)), (14, Ty.int .i64 (bokY b)), (15, Ty.int .i64 (bokY b)), (16, Ty.int .i64 (bokY b)), (17, Ty.ptr 18 0), (18, Ty.ptr 19 0), (19, Ty.ptr 20 0)] [(18, Cont.cells 34 [Ty.ex (.slice none 0 0), Ty.int .i64 0, Ty.ex (.slice none 0 0)]), (19, Cont.cells 34 [Ty.ex (.slice none 0 0), Ty.int .i64 0, Ty.ex (.slice none 0 0)]), (20, Cont.cells 34 [Ty.ex (.slice none 0 0), Ty.int .i64 0, Ty.ex (.slice none 0 0)])]) ?_ ?_
          · (refine Ent.mk' ?_ ?_ <;> (repeat' (first | exact allSub_zero | exact allTags_nil | refine allSub_succ' ?_ (Ty.sub_any _) | refine allSub_succ' ?_ (Ty.sub_refl _) | refine allTags_cons rfl (Cont.sub_refl _) ?_)))
          refine t_region ?_
          refine mvI rfl ?_
          refine r_bin rfl rfl rfl ?_
          refine r_nil ?_
          refine i_then ?_
          refine t_cond_dec rfl (fun hc5 => ?_) (fun hc5 => ?_)
          ·
            refine t_seq ?_
            have hok := bokY_zero.1 (show bokY b = 0 by omega)
            refine t_region ?_
            refine r_load_ppN rfl rfl rfl (by exact Nat.le_of_ble_eq_true rfl) ?_
            refine r_load_ppN rfl rfl rfl (by exact Nat.le_of_ble_eq_true rfl) ?_
            refine r_call (c_rPut b hok r) rfl rfl rfl rfl rfl ?_
            refine mvT rfl ?_
            refine r_extract rfl rfl ?_
            refine r_extract rfl rfl ?_
            refine r_storeN rfl rfl (by decide) rfl rfl rfl rfl rfl rfl ?_
            refine asI rfl ?_
            refine r_nil ?_
            refine i_then ?_
            refine t_seq ?_
            refine t_forget (B := live [(2, Ty.int .i64 i), (3, Ty.pp (bokTys b)), (4, Ty.pp (BRowE.tys r)), (7, Ty.pp (bokTys b)), (8, Ty.pp (bokTys b)), (9, Ty.pp (BRowE.tys r)), (10, Ty.pp (BRowE.tys r)), (11, Ty.int .i64 (letV b.form r).2), (13, Ty.str (bs (letV b.form r).1)), (14, Ty.int .i64 (putV b r).2), (17, Ty.ptr 18 0), (18, Ty.ptr 19 0), (19, Ty.ptr 20 0)] [(18, Cont.cells 34 (bokTys (putV b r).1)), (19, Cont.cells 34 [Ty.ex (.slice none 0 0), Ty.int .i64 0, Ty.ex (.slice none 0 0)]), (20, Cont.cells 34 [Ty.ex (.slice none 0 0), Ty.int .i64 0, Ty.ex (.slice none 0 0)])]) ?_ ?_
            · (refine Ent.mk' ?_ ?_ <;> (repeat' (first | exact allSub_zero | exact allTags_nil | refine allSub_succ' ?_ (Ty.sub_any _) | refine allSub_succ' ?_ (Ty.sub_refl _) | refine allTags_cons rfl (Cont.sub_refl _) ?_)))
            refine t_region ?_
            refine r_load_ppN rfl rfl rfl (by exact Nat.le_of_ble_eq_true rfl) ?_
            refine mvI rfl ?_
            refine r_call (c_rStrike b hok i) rfl rfl rfl rfl rfl ?_
            refine mvT rfl ?_
            refine r_extract rfl rfl ?_
            refine r_extract rfl rfl ?_
            refine r_storeN rfl rfl (by decide) rfl rfl rfl rfl rfl rfl ?_
            refine asI rfl ?_
            refine r_nil ?_
            refine i_then ?_
            refine t_forget (B := live [(2, Ty.int .i64 i), (3, Ty.pp (bokTys b)), (4, Ty.pp (BRowE.tys r)), (7, Ty.pp (bokTys b)), (8, Ty.pp (bokTys b)), (9, Ty.pp (BRowE.tys r)), (10, Ty.pp (BRowE.tys r)), (11, Ty.int .i64 (letV b.form r).2), (13, Ty.str (bs (letV b.form r).1)), (14, Ty.int .i64 (putV b r).2), (15, Ty.int .i64 (strV b i).2), (17, Ty.ptr 18 0), (18, Ty.ptr 19 0), (19, Ty.ptr 20 0)] [(18, Cont.cells 34 (bokTys (putV b r).1)), (19, Cont.cells 34 (bokTys (strV b i).1)), (20, Cont.cells 34 [Ty.ex (.slice none 0 0), Ty.int .i64 0, Ty.ex (.slice none 0 0)])]) ?_ ?_
            · (refine Ent.mk' ?_ ?_ <;> (repeat' (first | exact allSub_zero | exact allTags_nil | refine allSub_succ' ?_ (Ty.sub_any _) | refine allSub_succ' ?_ (Ty.sub_refl _) | refine allTags_cons rfl (Cont.sub_refl _) ?_)))
            refine t_region ?_
            refine r_load_ppN rfl rfl rfl (by exact Nat.le_of_ble_eq_true rfl) ?_
            refine mvI rfl ?_
            refine r_load_ppN rfl rfl rfl (by exact Nat.le_of_ble_eq_true rfl) ?_
            refine r_call (c_rCorrect b hok i r) rfl rfl rfl rfl rfl ?_
            refine mvT rfl ?_
            refine r_extract rfl rfl ?_
            refine r_extract rfl rfl ?_
            refine r_storeN rfl rfl (by decide) rfl rfl rfl rfl rfl rfl ?_
            refine asI rfl ?_
            refine r_nil ?_
            refine i_join ?_
            (refine Ent.mk' ?_ ?_ <;> (repeat' (first | exact allSub_zero | exact allTags_nil | refine allSub_succ' ?_ (Ty.sub_any _) | refine allSub_succ' ?_ (Ty.sub_refl _) | refine allTags_cons rfl (Cont.sub_refl _) ?_)))
            all_goals trace_state
          ·
            refine t_skip ?_
            refine i_join ?_
            (refine Ent.mk' ?_ ?_ <;> (repeat' (first | exact allSub_zero | exact allTags_nil | exact subs_nil | refine allSub_succ' ?_ (Ty.sub_any _) | refine allSub_succ' ?_ (Ty.sub_refl _) | refine allTags_cons rfl (Cont.sub_subs ?_) ?_ | refine subs_cons ?_ ?_ | refine allSub_succ' ?_ ?_)))
            all_goals first | (rw [pv_1 hc5]; first | exact Ty.sub_refl _ | exact Ty.nil_sl) | (rw [sv_1 hc5]; first | exact Ty.sub_refl _ | exact Ty.nil_sl) | (rw [cor_no1 hc5]; first | exact Ty.sub_refl _ | exact Ty.nil_sl)
        ·
          refine t_seq ?_
          refine t_pub (tg := 18) [(17, Ty.pp (bokTys (putV b r).1))] (by decide) rfl ⟨pub_ptr (T := 34) (tg := 18) (off := 0) (l := bokTys (putV b r).1) rfl rfl rfl (by decide), trivial⟩ ?_
          refine t_pub (tg := 19) [(18, Ty.pp (bokTys (strV b i).1))] (by decide) rfl ⟨pub_ptr (T := 34) (tg := 19) (off := 0) (l := bokTys (strV b i).1) rfl rfl rfl (by decide), trivial⟩ ?_
          refine t_pub (tg := 20) [(19, Ty.pp (bokTys (corV b i r).1))] (by decide) rfl ⟨pub_ptr (T := 34) (tg := 20) (off := 0) (l := bokTys (corV b i r).1) rfl rfl rfl (by decide), trivial⟩ ?_
          refine t_forget (B := live [(2, Ty.int .i64 i), (3, Ty.pp (bokTys b)), (4, Ty.pp (BRowE.tys r)), (7, Ty.pp (bokTys b)), (9, Ty.pp (BRowE.tys r)), (11, Ty.int .i64 (letV b.form r).2), (13, Ty.str (bs (letV b.form r).1)), (14, Ty.int .i64 (putV b r).2), (15, Ty.int .i64 (strV b i).2), (16, Ty.int .i64 (corV b i r).2), (17, Ty.pp (bokTys (putV b r).1)), (18, Ty.pp (bokTys (strV b i).1)), (19, Ty.pp (bokTys (corV b i r).1))] []) ?_ ?_
          · (refine Ent.mk' ?_ ?_ <;> (repeat' (first | exact allSub_zero | exact allTags_nil | refine allSub_succ' ?_ (Ty.sub_any _) | refine allSub_succ' ?_ (Ty.sub_refl _))))
          refine t_region ?_
          refine r_field_pp rfl rfl rfl rfl rfl (by decide) ?_
          refine r_load_ppN rfl rfl rfl (by exact Nat.le_of_ble_eq_true rfl) ?_
          refine r_load_ppN rfl rfl rfl (by exact Nat.le_of_ble_eq_true rfl) ?_
          refine r_call (c_Letter b.form r hr) rfl rfl rfl rfl rfl ?_
          refine mvT rfl ?_
          refine r_extract rfl rfl ?_
          refine r_extract rfl rfl ?_
          refine asS' rfl ?_
          refine asI rfl ?_
          refine r_nil ?_
          refine i_then ?_
          refine t_seq ?_
          refine t_region ?_
          refine r_load_ppN rfl rfl rfl (by exact Nat.le_of_ble_eq_true rfl) ?_
          refine r_load_ppN rfl rfl rfl (by exact Nat.le_of_ble_eq_true rfl) ?_
          refine r_callF_new 4096 (by decide) (n_Put b hb r hr) (fam_put 4096 b r) rfl rfl rfl ?_
          refine mvT rfl ?_
          refine r_extract rfl rfl ?_
          refine r_extract rfl rfl ?_
          refine r_alloc rfl (by exact List.cons_ne_nil _ _) rfl ?_
          refine r_storeN rfl rfl (by decide) rfl rfl rfl rfl rfl rfl ?_
          refine asI rfl ?_
          refine r_nil ?_
          refine i_then ?_
          refine t_seq ?_
          refine t_forget (B := live [(2, Ty.int .i64 i), (3, Ty.pp (bokTys b)), (4, Ty.pp (BRowE.tys r)), (7, Ty.pp (bokTys b)), (9, Ty.pp (BRowE.tys r)), (11, Ty.int .i64 (letV b.form r).2), (13, Ty.str (bs (letV b.form r).1)), (14, Ty.int .i64 (putV b r).2), (15, Ty.int .i64 (strV b i).2), (16, Ty.int .i64 (corV b i r).2), (17, Ty.pp (bokTys (putV b r).1)), (18, Ty.pp (bokTys (strV b i).1)), (19, Ty.pp (bokTys (corV b i r).1)), (20, Ty.str (bs (letV b.form r).1)), (21, Ty.int .i64 (letV b.form r).2), (22, Ty.ptr 23 0), (23, Ty.int .i64 (putV b r).2)] [(23, Cont.cells 27 [Ty.fam 4096 (Ty.nw 0 I64 3 (putV b r).1.form.widths) rfl rfl, Ty.int .i64 (putV b r).1.form.lines, Ty.fam 4096 (Ty.nw 0 (BRowV 0) 66 (putV b r).1.rows) rfl rfl])]) ?_ ?_
          · (refine Ent.mk' ?_ ?_ <;> (repeat' (first | exact allSub_zero | exact allTags_nil | refine allSub_succ' ?_ (Ty.sub_any _) | refine allSub_succ' ?_ (Ty.sub_refl _) | refine allTags_cons rfl (Cont.sub_refl _) ?_)))
          refine t_region ?_
          refine r_load_ppN rfl rfl rfl (by exact Nat.le_of_ble_eq_true rfl) ?_
          refine mvI rfl ?_
          refine r_callF_new 4097 (by decide) (n_Strike b hb i) (fam_str 4097 b i) rfl rfl rfl ?_
          refine mvT rfl ?_
          refine r_extract rfl rfl ?_
          refine r_extract rfl rfl ?_
          refine r_alloc rfl (by exact List.cons_ne_nil _ _) rfl ?_
          refine r_storeN rfl rfl (by decide) rfl rfl rfl rfl rfl rfl ?_
          refine asI rfl ?_
          refine r_nil ?_
          refine i_then ?_
          refine t_seq ?_
          refine t_forget (B := live [(2, Ty.int .i64 i), (3, Ty.pp (bokTys b)), (4, Ty.pp (BRowE.tys r)), (7, Ty.pp (bokTys b)), (9, Ty.pp (BRowE.tys r)), (11, Ty.int .i64 (letV b.form r).2), (13, Ty.str (bs (letV b.form r).1)), (14, Ty.int .i64 (putV b r).2), (15, Ty.int .i64 (strV b i).2), (16, Ty.int .i64 (corV b i r).2), (17, Ty.pp (bokTys (putV b r).1)), (18, Ty.pp (bokTys (strV b i).1)), (19, Ty.pp (bokTys (corV b i r).1)), (20, Ty.str (bs (letV b.form r).1)), (21, Ty.int .i64 (letV b.form r).2), (22, Ty.ptr 23 0), (23, Ty.int .i64 (putV b r).2), (24, Ty.ptr 25 0), (25, Ty.int .i64 (strV b i).2)] [(23, Cont.cells 27 [Ty.fam 4096 (Ty.nw 0 I64 3 (putV b r).1.form.widths) rfl rfl, Ty.int .i64 (putV b r).1.form.lines, Ty.fam 4096 (Ty.nw 0 (BRowV 0) 66 (putV b r).1.rows) rfl rfl]), (25, Cont.cells 27 [Ty.fam 4097 (Ty.nw 0 I64 3 (strV b i).1.form.widths) rfl rfl, Ty.int .i64 (strV b i).1.form.lines, Ty.fam 4097 (Ty.nw 0 (BRowV 0) 66 (strV b i).1.rows) rfl rfl])]) ?_ ?_
          · (refine Ent.mk' ?_ ?_ <;> (repeat' (first | exact allSub_zero | exact allTags_nil | refine allSub_succ' ?_ (Ty.sub_any _) | refine allSub_succ' ?_ (Ty.sub_refl _) | refine allTags_cons rfl (Cont.sub_refl _) ?_)))
          refine t_region ?_
          refine r_load_ppN rfl rfl rfl (by exact Nat.le_of_ble_eq_true rfl) ?_
          refine mvI rfl ?_
          refine r_load_ppN rfl rfl rfl (by exact Nat.le_of_ble_eq_true rfl) ?_
          refine r_callF_new 4098 (by decide) (n_Correct b hb i r hr) (fam_cor 4098 b i r) rfl rfl rfl ?_
          refine mvT rfl ?_
          refine r_extract rfl rfl ?_
          refine r_extract rfl rfl ?_
          refine r_alloc rfl (by exact List.cons_ne_nil _ _) rfl ?_
          refine r_storeN rfl rfl (by decide) rfl rfl rfl rfl rfl rfl ?_
          refine asI rfl ?_
          refine r_nil ?_
          refine i_then ?_
          refine t_seq ?_
          refine t_seq ?_
          refine t_forget (B := live [(2, Ty.int .i64 i), (3, Ty.pp (bokTys b)), (4, Ty.pp (BRowE.tys r)), (7, Ty.pp (bokTys b)), (9, Ty.pp (BRowE.tys r)), (11, Ty.int .i64 (letV b.form r).2), (13, Ty.str (bs (letV b.form r).1)), (14, Ty.int .i64 (putV b r).2), (15, Ty.int .i64 (strV b i).2), (16, Ty.int .i64 (corV b i r).2), (17, Ty.pp (bokTys (putV b r).1)), (18, Ty.pp (bokTys (strV b i).1)), (19, Ty.pp (bokTys (corV b i r).1)), (20, Ty.str (bs (letV b.form r).1)), (21, Ty.int .i64 (letV b.form r).2), (22, Ty.ptr 23 0), (23, Ty.int .i64 (putV b r).2), (24, Ty.ptr 25 0), (25, Ty.int .i64 (strV b i).2), (26, Ty.ptr 27 0), (27, Ty.int .i64 (corV b i r).2)] [(23, Cont.cells 27 [Ty.fam 4096 (Ty.nw 0 I64 3 (putV b r).1.form.widths) rfl rfl, Ty.int .i64 (putV b r).1.form.lines, Ty.fam 4096 (Ty.nw 0 (BRowV 0) 66 (putV b r).1.rows) rfl rfl]), (25, Cont.cells 27 [Ty.fam 4097 (Ty.nw 0 I64 3 (strV b i).1.form.widths) rfl rfl, Ty.int .i64 (strV b i).1.form.lines, Ty.fam 4097 (Ty.nw 0 (BRowV 0) 66 (strV b i).1.rows) rfl rfl]), (27, Cont.cells 27 [Ty.fam 4098 (Ty.nw 0 I64 3 (corV b i r).1.form.widths) rfl rfl, Ty.int .i64 (corV b i r).1.form.lines, Ty.fam 4098 (Ty.nw 0 (BRowV 0) 66 (corV b i r).1.rows) rfl rfl])]) ?_ ?_
          · (refine Ent.mk' ?_ ?_ <;> (repeat' (first | exact allSub_zero | exact allTags_nil | refine allSub_succ' ?_ (Ty.sub_any _) | refine allSub_succ' ?_ (Ty.sub_refl _) | refine allTags_cons rfl (Cont.sub_refl _) ?_)))
          refine t_draw mixed rfl ?_
          refine mvI rfl ?_
          refine mvI rfl ?_
          refine r_bin rfl rfl rfl ?_
          refine mvB rfl ?_
          apply r_guard (s := 129) rfl rfl rfl
          · intro hg; apply opT_of; (refine mvI rfl ?_); refine r_nil ?_; exact rfl
          · exact rfl
          · exact rfl
          apply r_guard (s := 129) rfl rfl rfl
          · intro hg; apply opT_of; (refine mvI rfl ?_); refine r_nil ?_; exact rfl
          · exact rfl
          · exact rfl
          apply r_guard (s := 129) rfl rfl rfl
          · intro hg; apply opT_strip (s := 130) rfl (by (rw [hg]; rfl)); apply opT_strip (s := 131) rfl (by (rw [hg]; rfl)); apply opT_of; (refine r_bin rfl rfl rfl ?_); refine r_nil ?_; exact rfl
          · exact rfl
          · exact rfl
          refine r_or rfl rfl ?_
          refine mvB rfl ?_
          apply r_guard (s := 134) rfl rfl rfl
          · intro hg; apply opT_of; (refine mvI rfl ?_); refine r_nil ?_; exact rfl
          · exact rfl
          · exact rfl
          apply r_guard (s := 134) rfl rfl rfl
          · intro hg; apply opT_of; (refine mvI rfl ?_); refine r_nil ?_; exact rfl
          · exact rfl
          · exact rfl
          apply r_guard (s := 134) rfl rfl rfl
          · intro hg; apply opT_strip (s := 135) rfl (by (rw [hg]; rfl)); apply opT_strip (s := 136) rfl (by (rw [hg]; rfl)); apply opT_of; (refine r_bin rfl rfl rfl ?_); refine r_nil ?_; exact rfl
          · exact rfl
          · exact rfl
          refine r_or rfl rfl ?_
          refine mvB rfl ?_
          apply r_guard (s := 139) rfl rfl rfl
          · intro hg; apply opT_of; (refine mvI rfl ?_); refine r_nil ?_; exact rfl
          · exact rfl
          · exact rfl
          apply r_guard (s := 139) rfl rfl rfl
          · intro hg; apply opT_of; (refine mvI rfl ?_); refine r_nil ?_; exact rfl
          · exact rfl
          · exact rfl
          apply r_guard (s := 139) rfl rfl rfl
          · intro hg; apply opT_strip (s := 140) rfl (by (rw [hg]; rfl)); apply opT_strip (s := 141) rfl (by (rw [hg]; rfl)); apply opT_of; (refine r_bin rfl rfl rfl ?_); refine r_nil ?_; exact rfl
          · exact rfl
          · exact rfl
          refine r_or rfl rfl ?_
          refine mvB rfl ?_
          apply r_guard (s := 144) rfl rfl rfl
          · intro hg; apply opT_of; (refine mvS' rfl ?_); refine r_nil ?_; exact rfl
          · exact rfl
          · exact rfl
          apply r_guard (s := 144) rfl rfl rfl
          · intro hg; apply opT_of; (refine mvS' rfl ?_); refine r_nil ?_; exact rfl
          · exact rfl
          · exact rfl
          apply r_guard (s := 144) rfl rfl rfl
          · intro hg; apply opT_strip (s := 145) rfl (by (rw [hg]; rfl)); apply opT_strip (s := 146) rfl (by (rw [hg]; rfl)); apply opT_of; (refine r_neqS rfl rfl ?_); refine r_nil ?_; exact rfl
          · exact rfl
          · exact rfl
          refine r_or rfl rfl ?_
          refine mvB rfl ?_
          apply r_guard (s := 149) rfl rfl rfl
          · intro hg; apply opT_of; (refine r_load_ptrN rfl rfl (by decide) rfl rfl (by exact Nat.le_of_ble_eq_true rfl) ?_); refine r_nil ?_; exact rfl
          · exact rfl
          · exact rfl
          apply r_guard (s := 149) rfl rfl rfl
          · intro hg; apply opT_of; (refine r_load_ppN rfl rfl rfl (by exact Nat.le_of_ble_eq_true rfl) ?_); refine r_nil ?_; exact rfl
          · exact rfl
          · exact rfl
          apply r_guard (s := 149) rfl rfl rfl
          · intro hg; apply opT_strip (s := 151) rfl (by (rw [hg]; rfl)); apply opT_of; (refine r_call (c_ours (putV b r).1 (putV_few b r)) rfl rfl rfl rfl rfl ?_); refine r_nil ?_; exact rfl
          · exact rfl
          · exact rfl
          apply r_guard (s := 149) rfl rfl rfl
          · intro hg; apply opT_strip (s := 150) rfl (by (rw [hg]; rfl)); apply opT_strip (s := 152) rfl (by (rw [hg]; rfl)); apply opT_of; (refine r_callL [4096] (c_same (putV b r).1 (putV b r).1) rfl (lends_cons (lend_bok _ _ _ rfl) (lends_cons (lend_pub rfl rfl) lends_nil)) (plain_bool _) ?_); refine r_nil ?_; exact rfl
          · exact rfl
          · exact rfl
          apply r_guard (s := 149) rfl rfl rfl
          · intro hg; apply opT_strip (s := 153) rfl (by (rw [hg]; rfl)); apply opT_of; (refine r_not rfl ?_); refine r_nil ?_; exact rfl
          · exact rfl
          · exact rfl
          refine r_or rfl rfl ?_
          refine mvB rfl ?_
          apply r_guard (s := 156) rfl rfl rfl
          · intro hg; apply opT_of; (refine r_load_ptrN rfl rfl (by decide) rfl rfl (by exact Nat.le_of_ble_eq_true rfl) ?_); refine r_nil ?_; exact rfl
          · exact rfl
          · exact rfl
          apply r_guard (s := 156) rfl rfl rfl
          · intro hg; apply opT_of; (refine r_load_ppN rfl rfl rfl (by exact Nat.le_of_ble_eq_true rfl) ?_); refine r_nil ?_; exact rfl
          · exact rfl
          · exact rfl
          apply r_guard (s := 156) rfl rfl rfl
          · intro hg; apply opT_strip (s := 158) rfl (by (rw [hg]; rfl)); apply opT_of; (refine r_call (c_ours (strV b i).1 (strV_few b i)) rfl rfl rfl rfl rfl ?_); refine r_nil ?_; exact rfl
          · exact rfl
          · exact rfl
          apply r_guard (s := 156) rfl rfl rfl
          · intro hg; apply opT_strip (s := 157) rfl (by (rw [hg]; rfl)); apply opT_strip (s := 159) rfl (by (rw [hg]; rfl)); apply opT_of; (refine r_callL [4097] (c_same (strV b i).1 (strV b i).1) rfl (lends_cons (lend_bok _ _ _ rfl) (lends_cons (lend_pub rfl rfl) lends_nil)) (plain_bool _) ?_); refine r_nil ?_; exact rfl
          · exact rfl
          · exact rfl
          apply r_guard (s := 156) rfl rfl rfl
          · intro hg; apply opT_strip (s := 160) rfl (by (rw [hg]; rfl)); apply opT_of; (refine r_not rfl ?_); refine r_nil ?_; exact rfl
          · exact rfl
          · exact rfl
          refine r_or rfl rfl ?_
          refine mvB rfl ?_
          apply r_guard (s := 163) rfl rfl rfl
          · intro hg; apply opT_of; (refine r_load_ptrN rfl rfl (by decide) rfl rfl (by exact Nat.le_of_ble_eq_true rfl) ?_); refine r_nil ?_; exact rfl
          · exact rfl
          · exact rfl
          apply r_guard (s := 163) rfl rfl rfl
          · intro hg; apply opT_of; (refine r_load_ppN rfl rfl rfl (by exact Nat.le_of_ble_eq_true rfl) ?_); refine r_nil ?_; exact rfl
          · exact rfl
          · exact rfl
          apply r_guard (s := 163) rfl rfl rfl
          · intro hg; apply opT_strip (s := 165) rfl (by (rw [hg]; rfl)); apply opT_of; (refine r_call (c_ours (corV b i r).1 (corV_few b i r)) rfl rfl rfl rfl rfl ?_); refine r_nil ?_; exact rfl
          · exact rfl
          · exact rfl
          apply r_guard (s := 163) rfl rfl rfl
          · intro hg; apply opT_strip (s := 164) rfl (by (rw [hg]; rfl)); apply opT_strip (s := 166) rfl (by (rw [hg]; rfl)); apply opT_of; (refine r_callL [4098] (c_same (corV b i r).1 (corV b i r).1) rfl (lends_cons (lend_bok _ _ _ rfl) (lends_cons (lend_pub rfl rfl) lends_nil)) (plain_bool _) ?_); refine r_nil ?_; exact rfl
          · exact rfl
          · exact rfl
          apply r_guard (s := 163) rfl rfl rfl
          · intro hg; apply opT_strip (s := 167) rfl (by (rw [hg]; rfl)); apply opT_of; (refine r_not rfl ?_); refine r_nil ?_; exact rfl
          · exact rfl
          · exact rfl
          refine r_or rfl rfl ?_
          refine r_nil ?_
          refine ⟨by kernel_rfl, ?_⟩
          refine i_then ?_
          refine t_cond rfl (fun hc6 => ?_) (fun hc6 => ?_)
          ·
            refine t_seq ?_
            refine t_region ?_
            refine asB rfl ?_
            refine r_nil ?_
            refine i_then ?_
            refine t_ret ?_
            refine i_then_ret ?_
            refine i_rp1 rfl rfl ?_
            all_goals skip
            all_goals (exfalso; simp at hc6)
          ·
            refine t_skip ?_
            refine i_then ?_
            refine t_seq ?_
            refine t_region ?_
            refine r_load_ptrN rfl rfl (by decide) rfl rfl (by exact Nat.le_of_ble_eq_true rfl) ?_
            refine r_callG [(4096, 4096)] [4096] [] (k_spoilt (putV b r).1 (putV_few b r)) rfl rfl (cv_cons cv_nil (cv_bokF (by exact List.mem_cons_self))) pre_nil post_nil (cv_pub rfl rfl) ?_
            refine r_nil ?_
            refine i_then ?_
            refine t_seq ?_
            refine t_region ?_
            refine r_load_ptrN rfl rfl (by decide) rfl rfl (by exact Nat.le_of_ble_eq_true rfl) ?_
            refine r_callG [(4097, 4096)] [4097] [] (k_spoilt (strV b i).1 (strV_few b i)) rfl rfl (cv_cons cv_nil (cv_bokF (by exact List.mem_cons_self))) pre_nil post_nil (cv_pub rfl rfl) ?_
            refine r_nil ?_
            refine i_then ?_
            refine t_seq ?_
            refine t_region ?_
            refine r_load_ptrN rfl rfl (by decide) rfl rfl (by exact Nat.le_of_ble_eq_true rfl) ?_
            refine r_callG [(4098, 4096)] [4098] [] (k_spoilt (corV b i r).1 (corV_few b i r)) rfl rfl (cv_cons cv_nil (cv_bokF (by exact List.mem_cons_self))) pre_nil post_nil (cv_pub rfl rfl) ?_
            refine r_nil ?_
            refine i_then ?_
            refine t_seq ?_
            refine t_region ?_
            refine r_load_ppN rfl rfl rfl (by exact Nat.le_of_ble_eq_true rfl) ?_
            refine r_load_ppN rfl rfl rfl (by exact Nat.le_of_ble_eq_true rfl) ?_
            refine r_call (c_same b b) rfl rfl rfl rfl rfl ?_
            refine mvB rfl ?_
            apply r_guard (s := 179) rfl rfl rfl
            · intro hg; apply opT_of; (refine r_field_pp rfl rfl rfl rfl rfl (by decide) ?_); refine r_nil ?_; exact rfl
            · exact rfl
            · exact rfl
            apply r_guard (s := 179) rfl rfl rfl
            · intro hg; apply opT_strip (s := 180) rfl (by (rw [hg]; rfl)); apply opT_of; (refine r_load_pp rfl rfl rfl rfl ?_); refine r_nil ?_; exact rfl
            · exact rfl
            · exact rfl
            apply r_guard (s := 179) rfl rfl rfl
            · intro hg; apply opT_of; (refine r_field_pp rfl rfl rfl rfl rfl (by decide) ?_); refine r_nil ?_; exact rfl
            · exact rfl
            · exact rfl
            apply r_guard (s := 179) rfl rfl rfl
            · intro hg; apply opT_strip (s := 182) rfl (by (rw [hg]; rfl)); apply opT_of; (refine r_load_pp rfl rfl rfl rfl ?_); refine r_nil ?_; exact rfl
            · exact rfl
            · exact rfl
            apply r_guard (s := 179) rfl rfl rfl
            · intro hg; apply opT_strip (s := 181) rfl (by (rw [hg]; rfl)); apply opT_strip (s := 183) rfl (by (rw [hg]; rfl)); apply opT_of; (refine r_call (c_Eq_int r.nums r.nums) rfl rfl rfl rfl rfl ?_); refine r_nil ?_; exact rfl
            · exact rfl
            · exact rfl
            refine r_and rfl rfl ?_
            refine mvB rfl ?_
            apply r_guard (s := 186) rfl rfl rfl
            · intro hg; apply opT_of; (refine r_call c_awake rfl rfl rfl rfl rfl ?_); refine r_nil ?_; exact rfl
            · exact rfl
            · exact rfl
            refine r_and rfl rfl ?_
            refine asB rfl ?_
            refine r_nil ?_
            refine i_then ?_
            refine t_ret ?_
            refine i_rp1 rfl rfl ?_
            all_goals skip
            all_goals exact ret_eq rfl rfl (congrArg Ty.bool (by simp))
end Go.Proofs.YtjjndkenddigiaaGreatDoor

namespace Go.T
open Go Go.RowKit Go.ChangeShapes Go.WideShapes Go.ChangeAt
def pubs : Tags := fun _ => none
theorem wf_pubs (w : World) (h : Amb w pubs) : Wf w pubs := ⟨fun _ _ h => (by cases h), fun _ _ _ _ h => (by cases h), h⟩
theorem pubs_zero : ∀ b t, pubs b = some t → t = 0 := fun _ _ h => by cases h
structure Rd {α : Type} (P : Program) (e : TypeId) (E : El α) : Prop where
  size : P.cellsOf e = E.size
  pos : 0 < E.size
  rd : ∀ {H : Type} {enc : TypeId × Value → H} {w : World} {base : Nat} {held : Bool} {n : Nat} {cs : List Value} {y : DataW H × List MemPlace}, DataW.trod enc P w base (fun _ => true) held n e cs = some y → ∃ x, dens w pubs (E.tys x) cs
section
variable {H : Type} {enc : TypeId × Value → H} {P : Program} {w : World} {base : Nat} {held : Bool} {α : Type} {E : El α} {t e : TypeId} {n : Nat} {cs : List Value} {y : DataW H × List MemPlace}
theorem rd_sl (hR : Rd P e E) (ht : P.underlying t = some (.slice e)) (h : DataW.trod enc P w base (fun _ => true) held n t cs = some y) : ∃ v xs, cs = [v] ∧ (Ty.sl E xs).den w pubs v := by
  rcases Go.Deep.open_slice ht h with ⟨rfl, _⟩ | ⟨a, len, cap, m, k, D, Pl, rfl, _, hl, hm, hmm, _, hel⟩
  · exact ⟨_, [], rfl, none, 0, rfl, Nat.le_refl _, Nat.zero_le _, fun h => absurd h (Nat.lt_irrefl _)⟩
  have hlm : len ≤ m := by rw [hmm]; simpa using hl
  have hX : ∀ i : Fin len, ∃ x : α, ∃ cs', w.cells? base (a.add (i.1 * P.cellsOf e)) (P.cellsOf e) = some cs' ∧ dens w pubs (E.tys x) cs' := fun i => by
    obtain ⟨cs', h1, h2⟩ := hel i.1 (Nat.lt_of_lt_of_le i.2 hlm)
    obtain ⟨x, hx⟩ := hR.rd h2
    exact ⟨x, cs', h1, hx⟩
  let X : Fin len → α := fun i => (hX i).choose
  have hXs : ∀ i : Fin len, ∃ cs', w.cells? base (a.add (i.1 * P.cellsOf e)) (P.cellsOf e) = some cs' ∧ dens w pubs (E.tys (X i)) cs' := fun i => (hX i).choose_spec
  have hlen : (List.ofFn X).length = len := by simp
  refine ⟨_, List.ofFn X, rfl, some a, cap, by rw [hlen], by rw [hlen]; exact hl, hm, fun h0 => ?_⟩
  rw [hlen] at h0
  have hcell : ∀ (i : Fin len) (j : Nat) (u : Ty), (E.tys (X i))[j]? = some u → ∃ v, w.cell? (a.add (i.1 * E.size + j)) = some v ∧ u.den w pubs v := fun i j u hu => by
    obtain ⟨cs', h1, h2⟩ := hXs i
    obtain ⟨v, hv, hd⟩ := dens_get h2 j u hu
    obtain ⟨_, g1, g2⟩ := World.cells?_some h1
    have hj : j < P.cellsOf e := by
      rw [hR.size, ← E.len (X i)]
      exact (List.getElem?_eq_some_iff.1 hu).1
    refine ⟨v, ?_, hd⟩
    have := g2 j hj
    rw [Go.Deep.add_add, hv, hR.size] at this
    exact this
  have hsz := hR.pos
  have hfirst : ∃ v, w.cell? (a.add 0) = some v := by
    obtain ⟨u, hu⟩ : ∃ u, (E.tys (X ⟨0, h0⟩))[0]? = some u := ⟨_, List.getElem?_eq_getElem (by rw [E.len]; exact hsz)⟩
    obtain ⟨v, hv, _⟩ := hcell ⟨0, h0⟩ 0 u hu
    exact ⟨v, by simpa using hv⟩
  obtain ⟨b, off, sp⟩ := a
  obtain ⟨v0, hv0⟩ := hfirst
  have hsp : sp = none := by simpa [Addr.add] using World.cell?_spot hv0
  subst hsp
  have hb : b < w.heap.size := by
    obtain ⟨cs', h1, _⟩ := hXs ⟨0, h0⟩
    have := World.cells?_block h1 (by rw [hR.size]; exact hsz)
    simpa [Addr.add] using this
  refine ⟨b, off, rfl, rfl, hb, fun i u hu => ?_⟩
  have hi : i < len * E.size := by
    have := (List.getElem?_eq_some_iff.1 hu).1
    rw [flat_len, hlen] at this; exact this
  have hk : i / E.size < len := Nat.div_lt_of_lt_mul (by rw [Nat.mul_comm]; exact hi)
  have hj : i % E.size < E.size := Nat.mod_lt _ hsz
  have hij : i / E.size * E.size + i % E.size = i := by rw [Nat.mul_comm]; exact Nat.div_add_mod i E.size
  have hu2 := hu
  rw [← hij, flat_get E _ _ _ (by rw [hlen]; exact hk) hj, List.getElem?_ofFn, dif_pos hk] at hu2
  obtain ⟨v, hv, hd⟩ := hcell ⟨i / E.size, hk⟩ (i % E.size) u hu2
  refine ⟨v, ?_, hd⟩
  rw [← Go.WideShapes.add_plain]
  rw [hij] at hv
  exact hv
theorem rd_struct2 {f0 f1 : Field} (hs : P.underlying t = some (.struct #[f0, f1])) (hC : P.cellsOf t = 2) (h0 : f0.offset = 0 ∧ P.cellsOf f0.type = 1) (h1 : f1.offset = 1 ∧ P.cellsOf f1.type = 1) (h : DataW.trod enc P w base (fun _ => true) held n t cs = some y) :
    ∃ c0 c1 y0 y1 m, cs = [c0, c1] ∧ DataW.trod enc P w base (fun _ => true) held m f0.type [c0] = some y0 ∧ DataW.trod enc P w base (fun _ => true) held m f1.type [c1] = some y1 := by
  obtain ⟨y0, y1, m, _, hl, g0, g1⟩ := Go.ChangeShapes.trod_struct2 hs h
  rw [hC] at hl
  match cs, hl with
  | [c0, c1], _ =>
    rw [h0.1, h0.2] at g0
    rw [h1.1, h1.2] at g1
    exact ⟨c0, c1, y0, y1, m, rfl, g0, g1⟩
theorem rd_int {k : IntKind} {c : Value} (ht : P.underlying t = some (.int k)) (h : DataW.trod enc P w base (fun _ => true) held n t [c] = some y) : ∃ i, c = .int k i := by
  obtain ⟨i, e, _⟩ := DataW.trod_int ht h
  exact ⟨i, by simpa using e⟩
theorem rd_sl1 {c : Value} (hR : Rd P e E) (ht : P.underlying t = some (.slice e)) (h : DataW.trod enc P w base (fun _ => true) held n t [c] = some y) : ∃ xs, (Ty.sl E xs).den w pubs c := by
  obtain ⟨v, xs, e, hd⟩ := rd_sl hR ht h
  exact ⟨xs, by rw [show c = v by simpa using e]; exact hd⟩
end
section
variable {w w' : World} {S K : Nat → Prop} {M' : Tags}
theorem le_block (le : Le S K w pubs w' M') {b : Nat} (hb : b < w.heap.size) : w'.heap[b]? = w.heap[b]? := (le.pub b hb rfl).2
theorem le_same (le : Le S K w pubs w' M') {p : MemPlace} (hp : p.block < w.heap.size) : w.sameAt w' p := by
  cases p with
  | cell b o => exact World.cell?_of_block (w := w) (le_block le hp)
  | map b => exact le_block le hp
theorem le_kept (le : Le S K w pubs w' M') (may : MemPlace → Prop) : w.keptBut w' may := by
  refine ⟨le.os, le.out, fun i hi => ?_⟩
  have e := le_block le hi
  rw [e]
  split
  · rename_i h1 h2
    rw [h1] at h2
    simp only [Option.some.injEq, Obj.cells.injEq] at h2
    obtain ⟨rfl, rfl, rfl⟩ := h2
    exact ⟨rfl, rfl, rfl, fun _ _ => rfl⟩
  · rename_i h1 h2
    rw [h1] at h2
    simp only [Option.some.injEq, Obj.map.injEq] at h2
    exact Or.inr ⟨h2.1.symm, h2.2.symm⟩
  · rfl
theorem le_frozen (le : Le S K w pubs w' M') {a : Addr} (ha : a.block < w.heap.size) : w'.frozen? a = w.frozen? a := by
  unfold World.frozen?
  rw [le_block le ha]
end
section
variable {H : Type} {enc : TypeId × Value → H} {P : Program}
theorem trodAll_stays (hl : laidOutB P = true) {w w' : World} {sp : Nat → Bool} : ∀ {ts : List TypeId} {vs : List Value} {ds : List (DataW H)} {ps : List MemPlace}, (∀ t ∈ ts, P.readableRec t = true ∧ t < P.types.size) →
    DataW.TrodAll enc P w 0 (fun _ => true) true ts vs ds ps → (∀ p ∈ ps, w.sameAt w' p) → (∀ p ∈ ps, sp p.block = true) → DataW.TrodAll enc P w' 0 sp true ts vs ds ps
  | [], [], [], _, _, h, _, _ => h
  | t :: ts, v :: vs, d :: ds, _, ht, ⟨p, q, h1, h2, e⟩, hs, hsp => by
    subst e
    have h0 := ht t List.mem_cons_self
    exact ⟨p, q, Go.WideElems.Trod_stays hl h0.1 h0.2 h1 (fun x hx => hs x (List.mem_append_left _ hx)) (fun x hx => hsp x (List.mem_append_left _ hx)),
      trodAll_stays hl (fun t h => ht t (List.mem_cons_of_mem _ h)) h2 (fun x hx => hs x (List.mem_append_right _ hx)) (fun x hx => hsp x (List.mem_append_right _ hx)), rfl⟩
theorem post_true {f : Func} {s : ChangeSpec} {apart fresh handsOn again : Bool} {W W' : World} {args : Array Value} {ds : List (DataW H)} {before : List MemPlace} {S K : Nat → Prop} {M' : Tags}
    (hl : laidOutB P = true) (hv : s.vars = []) (hrd : ∀ t ∈ f.params.toList, P.readableRec t = true ∧ t < P.types.size) {tb : TypeId} (htb : P.underlying tb = some .bool) (hrt : f.resultTypes = #[tb])
    (hW : DataW.Whole enc P f.params.toList s.vars apart W args.toList ds [] before) (hres : (s.fn H (ds ++ [])).results = [.lit (.bool true)]) (hargs : (s.fn H (ds ++ [])).args = ds) (hvars : (s.fn H (ds ++ [])).vars = [])
    (le : Le S K W pubs W' M') : s.post enc P f apart fresh handsOn again W args (.bool true) W' := by
  have hW0 := hW
  obtain ⟨p, q, hA, hV, hb, hfz, hn⟩ := hW0
  have hlt := DataW.TrodAll.lt hA
  have hq : q = [] := by rw [hv] at hV; exact (trodVars_none hV).2
  subst hq
  have hbp : before = p := by rw [hb]; simp
  have hre : ∀ (b : Nat) (sp : Nat → Bool) (hd : Bool), DataW.TrodAll enc P W' b sp hd f.resultTypes.toList ((Value.bool true).resultList f.resultTypes.size) (s.fn H (ds ++ [])).results [] := fun b sp hd => by
    rw [hrt, hres]; exact trodAll_mk1 (shut_bool htb true)
  have har : ∀ sp : Nat → Bool, (∀ x ∈ p, sp x.block = true) → DataW.TrodAll enc P W' 0 sp true f.params.toList args.toList (s.fn H (ds ++ [])).args p := fun sp hsp => by
    rw [hargs]; exact trodAll_stays hl hrd hA (fun x hx => le_same le (hlt x hx)) hsp
  have hva : ∀ sp : Nat → Bool, DataW.TrodVars enc P W' sp s.vars (s.fn H (ds ++ [])).vars [] := fun sp => by
    rw [hvars, hv]; exact rfl
  have hok : ∀ (j : Nat) (t : TypeId) (r : Value), f.resultTypes[j]? = some t → ((Value.bool true).resultList f.resultTypes.size)[j]? = some r → Value.okWide P W' .any 0 t r := by
    exact ok_one (by rw [hrt]) rfl (okWide_bool_mk htb true)
  refine ⟨ds, [], before, [], p, [], hW, hre _ _ _, har _ (fun x hx => by simpa using hlt x hx), hva _, World.keptBut_mono (fun x hx => hx) (le_kept le _), fun _ => ?_⟩
  refine ⟨hok, _, _, ([] ++ p) ++ [], ⟨[] ++ p, [], trodAll_append (har _ (fun _ _ => rfl)) (hre _ _ _), hva _, rfl, ?_, ?_⟩, ?_⟩
  · intro b off hp
    have hp' : MemPlace.cell b off ∈ p := by simpa using hp
    rw [le_frozen le (hlt _ hp')]
    exact hfz b off (by rw [hbp]; exact hp')
  · intro ha
    have := hn ha
    rw [hbp] at this
    simpa using this
  · intro x hx _
    rw [hbp]
    simpa using hx
end
end Go.T

namespace Go.Proofs.YtjjndkenddigiaaGreatDoor
open Go Go.T Go.RowKit Go.ChangeShapes Go.WideShapes Go.ChangeAt
abbrev laidL : List (String × DataW Unit) := [("math/bits.deBruijn32tab", Rows.laid_math_bits_deBruijn32tab), ("math/bits.deBruijn64tab", Rows.laid_math_bits_deBruijn64tab), ("internal/strconv.uint64pow10", Rows.laid_internal_strconv_uint64pow10)]
theorem gPow : Tryz.prog.globalNamed "internal/strconv.uint64pow10" = some 3 := by kernel_rfl
theorem tPow : (Tryz.prog.globals[3]?).map (·.type) = some 219 := by kernel_rfl
theorem uPow : Tryz.prog.underlying 219 = some (.array 20 188) := by kernel_rfl
theorem uPowE : Tryz.prog.underlying 188 = some (.int .u64) := by kernel_rfl
theorem arr_cells {H : Type} {enc : TypeId × Value → H} {W : World} {base : Nat} {spare : Nat → Bool} {held : Bool} {m n t : Nat} {k : IntKind} {cs : List Value} {xs : List (DataW H × List MemPlace)} {zs : List Int} (hE : Tryz.prog.underlying t = some (.int k)) (hc : Tryz.prog.cellsOf t = 1) (hlen : cs.length = n) (hxl : xs.length = n) (hzl : zs.length = n)
    (hel : ∀ i, i < n → DataW.trod enc Tryz.prog W base spare held m t ((cs.drop (i * Tryz.prog.cellsOf t)).take (Tryz.prog.cellsOf t)) = xs[i]?) (hx : xs.map (·.1) = zs.map fun z => .lit (.int k z)) : cs = zs.map fun z => .int k z := by
  apply List.ext_getElem (by simp [hlen, hzl])
  intro i h1 h2
  have hi : i < n := by omega
  have h := hel i hi
  rw [hc, Nat.mul_one, List.drop_eq_getElem_cons h1, List.take_succ_cons, List.take_zero, List.getElem?_eq_getElem (by omega)] at h
  obtain ⟨z, e1, e2, _⟩ := DataW.trod_int hE h
  have e3 : (xs.map (·.1))[i]? = some (.lit (.int k z)) := by rw [List.getElem?_map, List.getElem?_eq_getElem (by omega), e2]; rfl
  rw [hx, List.getElem?_map, List.getElem?_eq_getElem (by omega)] at e3
  simp only [Option.map_some, Option.some.injEq, DataW.lit.injEq, Lit.int.injEq, true_and] at e3
  have e4 : cs[i] = .int k z := by injection e1
  rw [e4, List.getElem_map, e3]
set_option maxRecDepth 100000 in
theorem amb_of {W : World} (h : laidMetH Tryz.prog laidL W) : Amb W pubs := by
  rw [MakeChecks.laidMetH_plain _ _ _ (by kernel_rfl)] at h
  obtain ⟨ps, ⟨_, _, _, _, _, _, _, _, _, _, ⟨_, _, _, _, _, _, _, _, _, _, ⟨g, t, cs, fu, p, q, hg, ht, hv, hd, _, _⟩, _⟩, _⟩, _⟩ := h
  obtain rfl := Option.some.inj (gPow.symm.trans hg)
  obtain rfl := Option.some.inj (tPow.symm.trans ht)
  obtain ⟨xs, m, _, hx, hlen, hn, hel⟩ := DataW.trod_array uPow hd
  have hE : Tryz.prog.cellsOf 188 = 1 := by kernel_rfl
  have hA : Tryz.prog.cellsOf 219 = 20 := by kernel_rfl
  simp only [Prod.mk.injEq] at hx
  have hcs : cs.toList = Lib.pow10Tab.map fun z => Value.int .u64 z := arr_cells uPowE hE (hlen.trans hA) hn rfl hel (by
    have h1 := hx.1
    injection h1 with h1
    exact h1.symm)
  intro x hx
  rw [List.mem_singleton.1 hx]
  refine ⟨rfl, ?_⟩
  simp only [World.var?, gPow, Option.bind_some] at hv
  split at hv
  · rename_i c T z hh
    injection hv with hv
    subst hv
    refine ⟨T, z, ?_⟩
    rw [hh]
    congr 2
    rw [← hcs]
  · cases hv
set_option maxRecDepth 100000 in
theorem door_met (os : Os) (args : Array Value) : laidMetH Tryz.prog laidL ((World.doorLaid Tryz.prog 2000 os).forCall (fun _ _ => 0) ⟨#[], args, []⟩).memory :=
  laidMetH_of_parts3 (fuel := 40) (laidMet_of_run' 40 (by kernel_rfl) (by kernel_rfl)) (by kernel_rfl) (by kernel_rfl)
def RI : Type := {n : Int // -9223372036854775808 ≤ n ∧ n ≤ 9223372036854775807}
def RIE : El RI := El.mk' 1 (fun x => [Ty.int .i64 x.1]) (fun _ => rfl) (fun _ => ⟨rfl, rfl, rfl⟩)
theorem rdRI : Rd Tryz.prog 3 RIE := ⟨by kernel_rfl, by decide, fun h => by
  obtain ⟨i, rfl, _, hw⟩ := DataW.trod_int Tryz.underlying3 h
  refine ⟨⟨i, ?_⟩, rfl, trivial⟩
  simp only [Lit.wf, Bool.and_eq_true, decide_eq_true_eq] at hw
  have e1 : IntKind.i64.min = -9223372036854775808 := rfl
  have e2 : IntKind.i64.max = 9223372036854775807 := rfl
  omega⟩
theorem sl_map {α β : Type} {E : El α} {E' : El β} (f : α → β) (hE : ∀ x, E.tys x = E'.tys (f x)) {xs : List α} {w : World} {M : Tags} {v : Value} (h : (Ty.sl E xs).den w M v) : (Ty.sl E' (xs.map f)).den w M v := by
  obtain ⟨A, c, e, h1, h2, h3⟩ := h
  have e1 : (xs.map f).flatMap E'.tys = xs.flatMap E.tys := by
    rw [List.flatMap_map]
    congr 1
    funext x
    exact (hE x).symm
  refine ⟨A, c, by rw [List.length_map]; exact e, by rw [List.length_map]; exact h1, h2, fun h0 => ?_⟩
  rw [List.length_map] at h0
  rw [e1]; exact h3 h0
theorem ri_rng (xs : List RI) : Rng (xs.map Subtype.val) := by
  intro x hx
  obtain ⟨y, _, rfl⟩ := List.mem_map.1 hx
  exact y.2
def RRow : Type := {r : BRow // Rng r.nums}
def RRowE : El RRow := El.mk' 2 (fun x => BRowE.tys x.1) (fun _ => rfl) (fun _ => ⟨rfl, rfl, rfl⟩)
theorem rdBool1 {H : Type} {enc : TypeId × Value → H} {w : World} {base n : Nat} {held : Bool} {c : Value} {y : DataW H × List MemPlace} (h : DataW.trod enc Tryz.prog w base (fun _ => true) held n 4 [c] = some y) : ∃ b : Bool, c = .bool b := by
  obtain ⟨b, e, _⟩ := DataW.trod_bool Tryz.underlying4 h
  exact ⟨b, by simpa using e⟩
theorem rdRow : Rd Tryz.prog 66 RRowE := ⟨by kernel_rfl, by decide, fun h => by
  obtain ⟨c0, c1, y0, y1, m, rfl, h0, h1⟩ := rd_struct2 Tryz.underlying66 (by kernel_rfl) ⟨rfl, by kernel_rfl⟩ ⟨rfl, by kernel_rfl⟩ h
  obtain ⟨xs, hd⟩ := rd_sl1 rdRI Tryz.underlying22 h0
  obtain ⟨b, rfl⟩ := rdBool1 h1
  exact ⟨⟨⟨xs.map Subtype.val, b⟩, ri_rng xs⟩, sl_map (E' := I64) Subtype.val (fun _ => rfl) hd, rfl, trivial⟩⟩
def FrmE : El BForm := El.mk' 2 frmTys (fun _ => rfl) (fun _ => ⟨rfl, rfl, rfl⟩)
theorem of24 : Tryz.prog.cellsOf 24 = 2 := by kernel_rfl
theorem of28 : Tryz.prog.cellsOf 25 = 1 := by kernel_rfl
theorem of30 : Tryz.prog.cellsOf 27 = 3 := by kernel_rfl
theorem rdFrm : Rd Tryz.prog 24 FrmE := ⟨of24, by decide, fun h => by
  obtain ⟨c0, c1, y0, y1, m, rfl, h0, h1⟩ := rd_struct2 Tryz.underlying24 (by kernel_rfl) ⟨rfl, by kernel_rfl⟩ ⟨rfl, by kernel_rfl⟩ h
  obtain ⟨ws, hd⟩ := rd_sl1 rdRI Tryz.underlying22 h0
  obtain ⟨l, rfl⟩ := rd_int Tryz.underlying3 h1
  exact ⟨⟨ws.map Subtype.val, l⟩, sl_map (E' := I64) Subtype.val (fun _ => rfl) hd, rfl, trivial⟩⟩
def RBok : Type := {b : Book // ∀ r ∈ b.rows, Rng r.nums}
def RBokE : El RBok := El.mk' 3 (fun x => bokTys x.1) (fun _ => rfl) (fun _ => ⟨rfl, rfl, rfl⟩)
set_option maxRecDepth 100000 in
theorem rdBok : Rd Tryz.prog 27 RBokE := ⟨of30, by decide, fun {_ _ _ _ _ _ cs _} h => by
  obtain ⟨y0, y1, m, _, hl, g0, g1⟩ := Go.ChangeShapes.trod_struct2 Tryz.underlying27 h
  rw [of30] at hl
  match cs, hl with
  | [c0, c1, c2], _ =>
    simp only [of24, of28] at g0 g1
    obtain ⟨f, hf⟩ := rdFrm.rd (cs := [c0, c1]) g0
    obtain ⟨rs, e2⟩ := rd_sl1 (c := c2) rdRow Tryz.underlying25 g1
    exact ⟨⟨⟨f, rs.map Subtype.val⟩, fun r hr => by
      obtain ⟨y, _, rfl⟩ := List.mem_map.1 hr
      exact y.2⟩, hf.1, hf.2.1, sl_map (E' := BRowE) Subtype.val (fun _ => rfl) e2, trivial⟩⟩
section
variable {H : Type} {enc : TypeId × Value → H} {W : World} {base : Nat} {held : Bool} {v : Value} {d : DataW H} {p : List MemPlace}
set_option maxRecDepth 100000 in
theorem rd_bok (hv : Value.okWide Tryz.prog W .any base 27 v) (h : DataW.Trod enc Tryz.prog W 0 (fun _ => true) held 27 v d p) : ∃ b : Book, (∀ r ∈ b.rows, Rng r.nums) ∧ (bokT b).den W pubs v := by
  obtain ⟨cs, rfl, hsz⟩ := okWide_struct Tryz.underlying27 hv
  obtain ⟨fuel, hf⟩ := h
  obtain ⟨x, hx⟩ := rdBok.rd (cs := cs.toList) (by simpa [Value.cells] using hf)
  exact ⟨x.1, x.2, _, rfl, hx⟩
end
end Go.Proofs.YtjjndkenddigiaaGreatDoor

namespace Go.Proofs.YtjjndkenddigiaaGreatDoor
open Go Go.T Go.RowKit Go.ChangeShapes Go.WideShapes Go.ChangeAt
section
variable {H : Type} {enc : TypeId × Value → H} {W : World} {base : Nat} {held : Bool} {v : Value} {d : DataW H} {p : List MemPlace}
set_option maxRecDepth 100000 in
theorem rd_row (hv : Value.okWide Tryz.prog W .any base 66 v) (h : DataW.Trod enc Tryz.prog W 0 (fun _ => true) held 66 v d p) : ∃ r : BRow, Rng r.nums ∧ (rowT r).den W pubs v := by
  obtain ⟨cs, rfl, hsz⟩ := okWide_struct Tryz.underlying66 hv
  obtain ⟨fuel, hf⟩ := h
  obtain ⟨x, hx⟩ := rdRow.rd (cs := cs.toList) (by simpa [Value.cells] using hf)
  exact ⟨x.1, x.2, _, rfl, hx⟩
set_option maxRecDepth 100000 in
theorem rd_i64 (hv : Value.okWide Tryz.prog W .any base 3 v) (h : DataW.Trod enc Tryz.prog W 0 (fun _ => true) held 3 v d p) : ∃ n : Int, (Ty.int .i64 n).den W pubs v := by
  obtain ⟨n, rfl, _⟩ := open_int Tryz.underlying3 hv h
  exact ⟨n, rfl⟩
end
end Go.Proofs.YtjjndkenddigiaaGreatDoor
